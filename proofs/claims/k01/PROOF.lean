import PyProof.Rows.All
import Wide.All
import OpenK.AllK
import Wide.FinOn
import HandS.ForMost
import HandS.Exc
import HandS.ExcOwn
import HandS.ExcCtx
import HandS.TupAny
import HandS.TupMul
import HandS.IsInst
import HandS.Conv
import HandS.Zip
import HandS.Flow
import HandS.Hot
import HandS.HotCalls
import HandS.Lambda
import HandS.Nested
import HandS.CallSlots
import HandS.TupLe
import HandS.Deep
import HandS.ExcIs
import KE.LtData
import HandS.Style
import KE.SortData
import HandS.TupSets
import HandS.Defaults
import HandS.HeadHook4
import HandS.HeadWalk
import KE.KStateDown
import HandS.Words
import HandS.Head0
import HandS.Head1
import HandS.Head2
import PySem.Challenge.RW_nestkinds_k01_nestings_recognized_and_or
import HandS.HeadEnd
/-! PF: a small pure form of the Python that the given program and the laws use: values, a store, core syntax, what it does (by fuel). No model of Python in sight. -/
namespace PF

/-! ### core syntax: expressions, argument lists, targets, what is walked, statements: one type -/
inductive Bin where
  | add | sub | mul | fdiv | mod | pow
  deriving DecidableEq
inductive Cmp where
  | eq | ne | lt | le | gt | ge | is | isnot | inn | notin
  deriving DecidableEq
/-- built-in classes for isinstance; own: the classes below it, itself too; vale: ValueError -/
inductive Ty where
  | int | bool | str | tuple | list
  | own (c : Nat) (below : List Nat)
  | vale
  deriving DecidableEq
inductive Prim where
  | len | abs | int | max2 | min2 | maxL | minL | sumL | tuple | list | all | any | sorted
  deriving DecidableEq
inductive Meth where
  | append | join | split | index | count | pop
  deriving DecidableEq

/-- constants -/
inductive Kst where
  | non
  | bl (b : Bool)
  | int (i : Int)
  | str (s : List Nat)
  deriving DecidableEq

inductive C where
  -- expressions
  | k (d : Kst)
  | v (i : Nat)
  | g (d : Kst)
  | gf (i : Nat)
  | tup (as : C)
  | lst (as : C)
  | bin (o : Bin) (a b : C)
  | neg (a : C)
  | not (a : C)
  | cmp (o : Cmp) (a b : C)
  | chain (o p : Cmp) (a b c : C)
  | and (a b : C)
  | or (a b : C)
  | ite (c a b : C)
  | idx (a i : C)
  | sl (a lo hi : C)
  | call (f as : C)
  | prim (p : Prim) (as : C)
  | meth (m : Meth) (o a : C)
  | isi (a : C) (t : Ty)
  | comp (elt tg it cond : C) (own : List Nat)
  | lam (ps n : Nat) (body : C) (caps : List Nat)
  | attr (a : C) (n : Nat)
  | hcall (f j : Nat)
  -- lists of expressions, of targets, of statements; a missing part
  | nil
  | cons (a as : C)
  | no
  -- targets
  | tn (i : Nat)
  | tt (ts : C)
  | tsub (o i : C)
  -- what is walked
  | iv (a : C)
  | ir1 (a : C)
  | ir2 (a b : C)
  | ien (a : C)
  | izip (a b : C)
  | izl (a b : C)
  -- statements
  | asg (t e : C)
  | par (is : List Nat) (as : C)
  | ex (e : C)
  | ret (e : C)
  | retN
  | pass
  | brk
  | iff (c a b : C)
  | forr (t it b : C)
  | whl (c b : C)
  | raise (c : Nat) (as : C)
  | tryx (b : C) (cs : List Nat) (slot : Option Nat) (h : C)

/-- a def: how many parameters, how many slots, its body; a lambda: parameters, slots (captured ones behind the parameters), its expression -/
structure Def where
  ps : Nat
  n : Nat
  body : C
structure Prog where
  defs : List Def

inductive D where
  | non
  | bl (b : Bool)
  | int (i : Int)
  | str (s : List Nat)
  | tup (ds : List D)
  | loc (n : Nat)
  | rol (ds : List D)
  | fn (i : Nat)
  | lam (l : Def)

/-- what a slot may hold, or a call be given: a value; a lambda with what it has captured; an error in hand -/
inductive A where
  | d (d : D)
  | clo (l : Def) (caps : List A)
  | exn (c : Nat) (fs : List D)

/-- what stands in the store: a list (rol, among the values: a list that is only read) -/
inductive Ob where
  | lst (ds : List D)

def Kst.d : Kst → D
  | .non => .non
  | .bl b => .bl b
  | .int i => .int i
  | .str s => .str s
abbrev Store := List Ob
abbrev Env := List (Option A)
structure Xn where
  c : Nat
  fs : List D

inductive Res (α : Type) where
  | ok (a : α) (st : Store)
  | exc (x : Xn) (st : Store)
  | stuck

def bnd {α β : Type} (m : Res α) (f : α → Store → Res β) : Res β :=
  match m with
  | .ok a st => f a st
  | .exc x st => .exc x st
  | .stuck => .stuck

inductive SR where
  | next (ρ : Env) (st : Store)
  | ret (d : D) (st : Store)
  | brk (ρ : Env) (st : Store)
  | exc (x : Xn) (ρ : Env) (st : Store)
  | stuck

def sbnd {α : Type} (m : Res α) (ρ : Env) (f : α → Store → SR) : SR :=
  match m with
  | .ok a st => f a st
  | .exc x st => .exc x ρ st
  | .stuck => .stuck

def oth {α : Type} (o : Option α) (st : Store) : Res α :=
  match o with
  | some a => .ok a st
  | none => .stuck

/-- nothing is raised -/
def noX {α : Type} (m : Res α) : Res α :=
  match m with
  | .exc _ _ => .stuck
  | r => r

/-- the longest list, tuple, text -/
def LIM : Nat := 16777216

/-! ### truth, equality, order -/
def listAt (st : Store) (n : Nat) : Option (List D) :=
  match st[n]? with
  | some (.lst ds) => some ds
  | none => none

def truth (st : Store) : D → Option Bool
  | .non => some false
  | .bl b => some b
  | .int i => some (i != 0)
  | .str s => if s.length ≤ LIM then some (!s.isEmpty) else none
  | .tup ds => some (!ds.isEmpty)
  | .loc n => (listAt st n).map fun ds => !ds.isEmpty
  | .rol ds => some (!ds.isEmpty)
  | _ => none

mutual
/-- data: its lists by p -/
def dataW (p : Nat → Bool) : D → Bool
  | .non => true
  | .bl _ => true
  | .int _ => true
  | .str s => decide (s.length ≤ 4096) && s.all fun c => decide (c < 55296)
  | .tup ds => datasW p ds
  | .loc n => p n
  | .rol _ => false
  | .fn _ => false
  | .lam _ => false
def datasW (p : Nat → Bool) : List D → Bool
  | [] => true
  | d :: ds => dataW p d && datasW p ds
end
def dataF (st : Store) : Nat → D → Bool
  | 0 => dataW fun _ => false
  | k + 1 => dataW fun n => match listAt st n with
    | some ds => datasW (fun n => dataF st k (.loc n)) ds
    | none => false

mutual
def depW (p : Nat → Nat) : D → Nat
  | .tup ds => depsW p ds + 1
  | .loc n => p n
  | .non => 0
  | .bl _ => 0
  | .int _ => 0
  | .str _ => 0
  | .rol _ => 0
  | .fn _ => 0
  | .lam _ => 0
def depsW (p : Nat → Nat) : List D → Nat
  | [] => 0
  | d :: ds => max (depW p d) (depsW p ds)
end
def depF (st : Store) : Nat → D → Nat
  | 0 => depW fun _ => 1
  | k + 1 => depW fun n => match listAt st n with
    | some ds => depsW (fun n => depF st k (.loc n)) ds + 1
    | none => 1

mutual
/-- ==, over data; two lists by q -/
def eqW (q : Nat → Nat → Bool) : D → D → Bool
  | .non, .non => true
  | .bl a, .bl b => a == b
  | .bl a, .int j => (if a then 1 else 0) == j
  | .int i, .bl b => i == (if b then 1 else 0)
  | .int i, .int j => i == j
  | .str x, .str y => x == y
  | .tup xs, .tup ys => eqsW q xs ys
  | .loc n, .loc m => q n m
  | _, _ => false
def eqsW (q : Nat → Nat → Bool) : List D → List D → Bool
  | [], [] => true
  | x :: xs, y :: ys => eqW q x y && eqsW q xs ys
  | [], _ :: _ => false
  | _ :: _, [] => false
end
def eqF (st : Store) : Nat → D → D → Bool
  | 0 => eqW fun _ _ => false
  | k + 1 => eqW fun n m => match listAt st n, listAt st m with
    | some xs, some ys => eqsW (fun n m => eqF st k (.loc n) (.loc m)) xs ys
    | _, _ => false
/-- the levels of lists within lists -/
def LV : Nat := 6
def eqD (st : Store) (a b : D) : Option Bool :=
  if dataF st LV a && dataF st LV b && decide (min (depF st LV a) (depF st LV b) ≤ 64) then some (eqF st LV a b) else none

mutual
/-- the two can be compared, place by place -/
def alikeW : D → D → Bool
  | .bl _, .bl _ => true
  | .int _, .int _ => true
  | .str _, .str _ => true
  | .tup xs, .tup ys => alikesW xs ys
  | _, _ => false
def alikesW : List D → List D → Bool
  | x :: xs, y :: ys => alikeW x y && alikesW xs ys
  | [], _ => true
  | _ :: _, [] => true
end
mutual
/-- a < b, for alike values -/
def ltW : D → D → Bool
  | .bl a, .bl b => !a && b
  | .int i, .int j => decide (i < j)
  | .str x, .str y => decide (x < y)
  | .tup xs, .tup ys => ltsW xs ys
  | _, _ => false
def ltsW : List D → List D → Bool
  | [], [] => false
  | [], _ :: _ => true
  | _ :: _, [] => false
  | x :: xs, y :: ys => if eqW (fun _ _ => false) x y then ltsW xs ys else ltW x y
end
def ltD (a b : D) : Option Bool :=
  if alikeW a b && dataW (fun _ => false) a && dataW (fun _ => false) b && decide (min (depW (fun _ => 0) a) (depW (fun _ => 0) b) ≤ 64) then some (ltW a b) else none

/-- stable, from the right -/
def insB {α : Type} (le : α → α → Bool) (x : α) : List α → List α
  | [] => [x]
  | y :: r => if le x y then x :: y :: r else y :: insB le x r
def sortB {α : Type} (le : α → α → Bool) : List α → List α
  | [] => []
  | x :: r => insB le x (sortB le r)
def leW (a b : D) : Bool := !ltW b a
def neTup : D → Bool
  | .tup (_ :: _) => true
  | _ => false
def noTup : D → Bool
  | .tup _ => false
  | .non => false
  | _ => true
/-- what can be sorted -/
def sortOk (ds : List D) : Bool := (ds.all fun a => dataW (fun _ => false) a && decide (depW (fun _ => 0) a ≤ 60) && ds.all fun b => alikeW a b) && (ds.all neTup || ds.all noTup)

/-! ### what is walked -/
inductive It where
  | lst (n : Nat)
  | tup (ds : List D)
  | rng (lo : Int) (n : Nat)
  | str (s : List Nat)
  | enL (n : Nat)
  | enT (ds : List D)
  | zLL (n m : Nat)
  | zTT (xs ys : List D)
/-- none: stuck; some none: the end -/
def It.at (st : Store) : It → Nat → Option (Option D)
  | .lst n, i => (listAt st n).map fun ds => ds[i]?
  | .tup ds, i => some ds[i]?
  | .rng lo n, i => some (if i < n then some (.int (lo + i)) else none)
  | .str s, i => some (s[i]?.map fun c => .str [c])
  | .enL n, i => (listAt st n).map fun ds => ds[i]?.map fun d => .tup [.int i, d]
  | .enT ds, i => some (ds[i]?.map fun d => .tup [.int i, d])
  | .zLL n m, i => match listAt st n, listAt st m with
    | some xs, some ys => some (match xs[i]?, ys[i]? with
      | some x, some y => some (.tup [x, y])
      | _, _ => none)
    | _, _ => none
  | .zTT xs ys, i => some (match xs[i]?, ys[i]? with
      | some x, some y => some (.tup [x, y])
      | _, _ => none)

def loopF (item : Store → Nat → Option (Option D)) (body : D → Env → Store → SR) : Nat → Nat → Env → Store → SR
  | 0, _, _, _ => .stuck
  | w + 1, i, ρ, st => match item st i with
    | none => .stuck
    | some none => .next ρ st
    | some (some d) => match body d ρ st with
      | .next ρ' st' => loopF item body w (i + 1) ρ' st'
      | .brk ρ' st' => .next ρ' st'
      | .ret d st' => .ret d st'
      | .exc x ρ' st' => .exc x ρ' st'
      | .stuck => .stuck
def whileF (c : Env → Store → Res Bool) (body : Env → Store → SR) : Nat → Env → Store → SR
  | 0, _, _ => .stuck
  | w + 1, ρ, st => sbnd (c ρ st) ρ fun b st' => if b then (match body ρ st' with
      | .next ρ' st'' => whileF c body w ρ' st''
      | .brk ρ' st'' => .next ρ' st''
      | .ret d st'' => .ret d st''
      | .exc x ρ' st'' => .exc x ρ' st''
      | .stuck => .stuck) else .next ρ st'
/-- a comprehension: what is made of each item, in order -/
def compF (item : Store → Nat → Option (Option D)) (turn : D → Store → Res (Option D)) : Nat → Nat → Store → Res (List D)
  | 0, _, _ => .stuck
  | w + 1, i, st => match item st i with
    | none => .stuck
    | some none => .ok [] st
    | some (some d) => bnd (turn d st) fun o st1 => bnd (compF item turn w (i + 1) st1) fun r st2 => .ok (match o with
      | some y => y :: r
      | none => r) st2

/-! ### operations -/
def wipe (ρ : Env) : List Nat → Env
  | [] => ρ
  | i :: is => (wipe ρ is).set i none
def alloc (st : Store) (o : Ob) : Res D := .ok (.loc st.length) (st ++ [o])
def newList (ds : List D) (st : Store) : Res D := if ds.length ≤ LIM then alloc st (.lst ds) else .stuck
def newTup (ds : List D) (st : Store) : Res D := if ds.length ≤ LIM then .ok (.tup ds) st else .stuck

def big (i : Int) : Bool := decide (i.natAbs < 18446744073709551616)
def binD (st : Store) : Bin → D → D → Res D
  | .add, .int i, .int j => .ok (.int (i + j)) st
  | .add, .str x, .str y => if x.length + y.length ≤ LIM then .ok (.str (x ++ y)) st else .stuck
  | .add, .tup x, .tup y => newTup (x ++ y) st
  | .add, .loc n, .loc m => match st[n]?, st[m]? with
    | some (.lst x), some (.lst y) => newList (x ++ y) st
    | _, _ => .stuck
  | .sub, .int i, .int j => .ok (.int (i - j)) st
  | .mul, .int i, .int j => if big i || big j then .ok (.int (i * j)) st else .stuck
  | .mul, .tup x, .int j => if decide (2 ≤ j) && decide (j ≤ 1000) && decide (x.length ≤ 1000) && !x.isEmpty then .ok (.tup (List.replicate j.toNat x).flatten) st else .stuck
  | .mul, .loc n, .int j => match st[n]? with
    | some (.lst x) => if decide (0 ≤ j) && decide (j ≤ 1000) && decide (x.length ≤ 1000) then newList (List.replicate j.toNat x).flatten st else .stuck
    | _ => .stuck
  | .fdiv, .int i, .int j => if decide (0 < j) && decide (j < 1073741824) then .ok (.int (i / j)) st else .stuck
  | .mod, .int i, .int j => if decide (0 < j) then .ok (.int (i % j)) st else .stuck
  | .pow, .int i, .int j => if decide (0 ≤ j) && decide (j ≤ 1000) && big i then .ok (.int (i ^ j.toNat)) st else .stuck
  | _, _, _ => .stuck

def flatD : D → Bool
  | .non => true
  | .bl _ => true
  | .int _ => true
  | .str _ => true
  | _ => false
/-- == of flat values -/
abbrev eqP : D → D → Bool := eqW fun _ _ => false
/-- x in ds, by == -/
def inT (x : D) (ds : List D) : Option Bool := if flatD x && ds.all flatD then some (ds.any fun d => eqP d x) else none
def inL (st : Store) (x : D) (n : Nat) : Option Bool :=
  match listAt st n with
  | none => none
  | some ds => if flatD x && ds.all flatD then some (ds.any fun d => eqP d x)
    else if dataF st 6 (.loc n) && dataF st 5 x && decide (depF st 6 (.loc n) ≤ 64) && decide (depF st 5 x ≤ 64) then some (ds.any fun d => eqF st 5 d x) else none
def isD : D → D → Option Bool
  | .non, .non => some true
  | .bl a, .bl b => some (a == b)
  | .bl _, .non => some false
  | .int _, .non => some false
  | .str _, .non => some false
  | .tup _, .non => some false
  | .loc _, .non => some false
  | _, _ => none
def cmpD (st : Store) : Cmp → D → D → Option Bool
  | .eq, a, b => eqD st a b
  | .ne, a, b => (eqD st a b).map (!·)
  | .lt, .int i, .int j => some (decide (i < j))
  | .le, .int i, .int j => some (decide (i ≤ j))
  | .gt, .int i, .int j => some (decide (j < i))
  | .ge, .int i, .int j => some (decide (j ≤ i))
  | .lt, .tup x, .tup y => ltD (.tup x) (.tup y)
  | .is, a, b => isD a b
  | .isnot, a, b => (isD a b).map (!·)
  | .inn, x, .tup ds => inT x ds
  | .notin, x, .tup ds => (inT x ds).map (!·)
  | .inn, x, .loc n => inL st x n
  | .notin, x, .loc n => (inL st x n).map (!·)
  | _, _, _ => none

/-- a place, perhaps from the end -/
def ixN (n : Nat) (i : Int) : Option Nat := if 0 ≤ i then (if i < n then some i.toNat else none) else if -(n : Int) ≤ i then some (i + n).toNat else none
def atI {α : Type} (xs : List α) (i : Int) : Option α := (ixN xs.length i).bind fun j => xs[j]?
def idxD (st : Store) : D → D → Option D
  | .tup ds, .int i => atI ds i
  | .loc n, .int i => (listAt st n).bind fun ds => atI ds i
  | .rol ds, .int i => atI ds i
  | .str s, .int i => if s.length ≤ LIM then (atI s i).map fun c => .str [c] else none
  | _, _ => none
/-- a slice's end -/
def sIx (n d : Nat) : Option Int → Nat
  | none => d
  | some v => if v < 0 then (v + n).toNat else min v.toNat n
def cut {α : Type} (xs : List α) (lo hi : Option Int) : List α := (xs.drop (sIx xs.length 0 lo)).take (sIx xs.length xs.length hi - sIx xs.length 0 lo)
def slD (st : Store) (lo hi : Option Int) : D → Res D
  | .tup ds => .ok (.tup (cut ds lo hi)) st
  | .loc n => match listAt st n with
    | some ds => alloc st (.lst (cut ds lo hi))
    | none => .stuck
  | _ => .stuck

def intOf : D → Option Int
  | .int i => some i
  | _ => none
def intsOf : List D → Option (List Int)
  | [] => some []
  | .int i :: r => (intsOf r).map (i :: ·)
  | _ => none
def boolsOf : List D → Option (List Bool)
  | [] => some []
  | .bl i :: r => (boolsOf r).map (i :: ·)
  | _ => none
def strsOf : List D → Option (List (List Nat))
  | [] => some []
  | .str i :: r => (strsOf r).map (i :: ·)
  | _ => none
def maxI : List Int → Int
  | [] => 0
  | [a] => a
  | a :: r => max a (maxI r)
def minI : List Int → Int
  | [] => 0
  | [a] => a
  | a :: r => min a (minI r)
def seqOf (st : Store) : D → Option (List D)
  | .tup ds => some ds
  | .loc n => listAt st n
  | .rol ds => some ds
  | _ => none
def insI (x : Int) : List Int → List Int
  | [] => [x]
  | y :: r => if x ≤ y then x :: y :: r else y :: insI x r
def sortI : List Int → List Int
  | [] => []
  | x :: r => insI x (sortI r)
def p1 (ds : List D) (f : D → Res D) : Res D :=
  match ds with
  | [d] => f d
  | _ => .stuck
def p2 (ds : List D) (f : D → D → Res D) : Res D :=
  match ds with
  | [d, e] => f d e
  | _ => .stuck
def lenOf (st : Store) : D → Option Nat
  | .str s => if s.length ≤ LIM then some s.length else none
  | .tup ds => some ds.length
  | .rol ds => some ds.length
  | .loc n => (listAt st n).map (·.length)
  | _ => none
def toInt : D → Option D
  | .int i => some (.int i)
  | .bl b => some (.int (if b then 1 else 0))
  | _ => none
def intLs (st : Store) (d : D) : Option (List Int) :=
  match d with
  | .loc n => (listAt st n).bind intsOf
  | _ => none
def blLs (st : Store) (d : D) : Option (List Bool) :=
  match d with
  | .loc n => (listAt st n).bind boolsOf
  | _ => none
def strLs (st : Store) (d : D) : Option (List (List Nat)) :=
  match d with
  | .loc n => (listAt st n).bind strsOf
  | _ => none
def listOfD (st : Store) (d : D) : Res D :=
  match seqOf st d with
  | some ds => alloc st (.lst ds)
  | none => .stuck
/-- int by int -/
def ii (a b : D) (st : Store) (f : Int → Int → Int) : Res D :=
  match a, b with
  | .int i, .int j => .ok (.int (f i j)) st
  | _, _ => .stuck
def some1 {α : Type} : Option (List α) → Option (List α)
  | some (a :: r) => some (a :: r)
  | _ => none
def sortD (st : Store) (d : D) : Res D :=
  match d with
  | .loc n => (match listAt st n with
    | some ds => if sortOk ds then alloc st (.lst (sortB leW ds)) else .stuck
    | none => .stuck)
  | _ => .stuck
def primD (st : Store) (p : Prim) (ds : List D) : Res D :=
  match p with
  | .len => p1 ds fun d => oth ((lenOf st d).map fun n => .int n) st
  | .abs => p1 ds fun d => oth ((intOf d).map fun i => .int (if i < 0 then -i else i)) st
  | .int => p1 ds fun d => oth (toInt d) st
  | .max2 => p2 ds fun a b => ii a b st fun i j => if j > i then j else i
  | .min2 => p2 ds fun a b => ii a b st fun i j => if j < i then j else i
  | .maxL => p1 ds fun d => oth ((some1 (intLs st d)).map fun ns => .int (maxI ns)) st
  | .minL => p1 ds fun d => oth ((some1 (intLs st d)).map fun ns => .int (minI ns)) st
  | .sumL => p1 ds fun d => oth ((intLs st d).map fun ns => .int ns.sum) st
  | .tuple => p1 ds fun d => oth ((seqOf st d).map fun ds => .tup ds) st
  | .list => p1 ds fun d => listOfD st d
  | .all => p1 ds fun d => oth ((blLs st d).map fun bs => .bl (bs.all id)) st
  | .any => p1 ds fun d => oth ((blLs st d).map fun bs => .bl (bs.any id)) st
  | .sorted => p1 ds fun d => sortD st d

def joinS (sep : List Nat) : List (List Nat) → List Nat
  | [] => []
  | [a] => a
  | a :: b :: r => a ++ sep ++ joinS sep (b :: r)
/-- split at one sign -/
def splitS (c : Nat) : List Nat → List (List Nat)
  | [] => [[]]
  | x :: r => if x = c then [] :: splitS c r else match splitS c r with
    | [] => [[x]]
    | a :: b => (x :: a) :: b
def appendD (st : Store) (o d : D) : Res D :=
  match o with
  | .loc n => (match listAt st n with
    | some ds => if ds.length < LIM then .ok .non (st.set n (.lst (ds ++ [d]))) else .stuck
    | none => .stuck)
  | _ => .stuck
def joinD (st : Store) (o d : D) : Res D :=
  match o with
  | .str s => (match strLs st d with
    | some xs => if (xs.map (·.length)).sum + xs.length * s.length ≤ LIM then .ok (.str (joinS s xs)) st else .stuck
    | none => .stuck)
  | _ => .stuck
def splitD (st : Store) (o d : D) : Res D :=
  match o, d with
  | .str s, .str [c] => if s.length ≤ 4096 then alloc st (.lst ((splitS c s).map .str)) else .stuck
  | _, _ => .stuck
/-- whose method it is -/
def recv (m : Meth) (x : D) : Option D :=
  match m, x with
  | .join, .str s => some (.str s)
  | .split, .str s => some (.str s)
  | .append, .loc n => some (.loc n)
  | .index, .loc n => some (.loc n)
  | .count, .loc n => some (.loc n)
  | .pop, .loc n => some (.loc n)
  | _, _ => none
def methD (st : Store) (m : Meth) (o : D) (ds : List D) : Res D :=
  match m with
  | .append => p1 ds fun d => appendD st o d
  | .join => p1 ds fun d => joinD st o d
  | .split => p1 ds fun d => splitD st o d
  | _ => .stuck

def isiD (d : D) : Ty → Option Bool
  | .int => (match d with
    | .int _ => some true
    | .bl _ => some true
    | .non => some false | .str _ => some false | .tup _ => some false | .loc _ => some false | _ => none)
  | .bool => (match d with
    | .bl _ => some true
    | .int _ => some false | .non => some false | .str _ => some false | .tup _ => some false | .loc _ => some false | _ => none)
  | .str => (match d with
    | .str _ => some true
    | .int _ => some false | .bl _ => some false | .non => some false | .tup _ => some false | .loc _ => some false | _ => none)
  | .tuple => (match d with
    | .tup _ => some true
    | .int _ => some false | .bl _ => some false | .non => some false | .str _ => some false | .loc _ => some false | _ => none)
  | .list => (match d with
    | .loc _ => some true
    | .int _ => some false | .bl _ => some false | .non => some false | .str _ => some false | .tup _ => some false | _ => none)
  | .own _ _ => none
  | .vale => none
/-- of an error in hand -/
def isiX (c : Nat) : Ty → Option Bool
  | .own _ below => some (below.contains c)
  | .vale => some true
  | _ => none
def isiA (a : A) (t : Ty) : Option Bool :=
  match a with
  | .d d => isiD d t
  | .exn c fs => (match fs with
    | [] => isiX c t
    | _ => none)
  | .clo _ _ => none

def setItem (st : Store) (o i v : D) : Option Store :=
  match o, i with
  | .loc n, .int k => match st[n]? with
    | some (.lst ds) => (ixN ds.length k).map fun j => st.set n (.lst (ds.set j v))
    | _ => none
  | _, _ => none

/-- what a value is walked as -/
def itOf (st : Store) : D → Option It
  | .tup ds => some (.tup ds)
  | .loc n => (listAt st n).map fun _ => .lst n
  | .str s => some (.str s)
  | _ => none
def rngOk (i : Int) : Bool := decide (-4611686018427387904 ≤ i) && decide (i < 4611686018427387904)

/-- what can be called -/
def calA (a : A) : Option A :=
  match a with
  | .d (.fn i) => some (.d (.fn i))
  | .d (.lam l) => some (.d (.lam l))
  | .clo l cs => some (.clo l cs)
  | _ => none
def slotsAt (ρ : Env) : List Nat → Option (List A)
  | [] => some []
  | i :: is => match ρ[i]? with
    | some (some d) => (slotsAt ρ is).map (d :: ·)
    | _ => none
def plainAs : List A → Option (List D)
  | [] => some []
  | .d d :: r => (plainAs r).map (d :: ·)
  | _ => none

structure Den where
  e : Env → Store → Res D
  ea : Env → Store → Res A
  a : Env → Store → Res (List D)
  aa : Env → Store → Res (List A)
  t : Env → Store → Res (Option Int)
  g : D → Env → Store → Res Env
  gs : List D → Env → Store → Res Env
  i : Env → Store → Res It
  s : Env → Store → SR
  ss : Env → Store → SR
def Den.none : Den where
  e := fun _ _ => .stuck
  ea := fun _ _ => .stuck
  a := fun _ _ => .stuck
  aa := fun _ _ => .stuck
  t := fun _ _ => .stuck
  g := fun _ _ _ => .stuck
  gs := fun _ _ _ => .stuck
  i := fun _ _ => .stuck
  s := fun _ _ => .stuck
  ss := fun _ _ => .stuck

def exprDen (f : Env → Store → Res D) : Den :=
  { Den.none with e := f, ea := fun ρ st => bnd (f ρ st) fun d st1 => .ok (.d d) st1, t := fun ρ st => bnd (f ρ st) fun d st1 => oth ((intOf d).map some) st1 }
def stmtDen (f : Env → Store → SR) : Den := { Den.none with s := f }
def tgtDen (f : D → Env → Store → Res Env) : Den := { Den.none with g := f }
def itDen (f : Env → Store → Res It) : Den := { Den.none with i := f }
def tru (f : Env → Store → Res D) (ρ : Env) (st : Store) : Res Bool := bnd (f ρ st) fun d st1 => oth (truth st1 d) st1

def slotD (i : Nat) (ρ : Env) (st : Store) : Res D :=
  match ρ[i]? with
  | some (some (.d d)) => .ok d st
  | _ => .stuck
def slotA (i : Nat) (ρ : Env) (st : Store) : Res A :=
  match ρ[i]? with
  | some (some a) => .ok a st
  | _ => .stuck
def attrA (n : Nat) (x : A) (st : Store) : Res D :=
  match x with
  | .exn _ fs => oth fs[n]? st
  | _ => .stuck
/-- the error in hand -/
def exnOf (x : A) : Option (Nat × List D) :=
  match x with
  | .exn c fs => some (c, fs)
  | _ => none
def rng1 (x : D) (st : Store) : Res It :=
  match x with
  | .int j => if rngOk j then .ok (.rng 0 j.toNat) st else .stuck
  | _ => .stuck
def rng2 (x y : D) (st : Store) : Res It :=
  match x, y with
  | .int i, .int j => if rngOk i && rngOk j then .ok (.rng i (j - i).toNat) st else .stuck
  | _, _ => .stuck
def enumOf (x : D) (st : Store) : Res It :=
  match x with
  | .loc n => (match listAt st n with
    | some _ => .ok (.enL n) st
    | none => .stuck)
  | _ => .stuck
def zipOf (x y : D) (st : Store) : Res It :=
  match x, y with
  | .loc n, .loc m => (match listAt st n, listAt st m with
    | some _, some _ => .ok (.zLL n m) st
    | _, _ => .stuck)
  | .tup xs, .tup ys => .ok (.zTT xs ys) st
  | _, _ => .stuck
/-- of two lists -/
def zipL (x y : D) (st : Store) : Res It :=
  match x, y with
  | .loc n, .loc m => (match listAt st n, listAt st m with
    | some _, some _ => .ok (.zLL n m) st
    | _, _ => .stuck)
  | _, _ => .stuck
def unpack (d : D) : Option (List D) :=
  match d with
  | .tup ds => some ds
  | _ => none
def setD (ρ : Env) (d x y : D) (st : Store) : Res Env :=
  match setItem st x y d with
  | some st1 => .ok ρ st1
  | none => .stuck
/-- only plain values stay -/
def dropX (ρ : Env) : Env := ρ.map fun o =>
  match o with
  | some (.d d) => some (.d d)
  | _ => none
/-- an except suite: the error in a slot, which is empty behind it -/
def suiteS (i : Nat) (r : SR) : SR :=
  match r with
  | .next ρ st => .next (dropX (ρ.set i none)) st
  | .brk ρ st => .brk (dropX (ρ.set i none)) st
  | .ret d st => .ret d st
  | .exc _ _ _ => .stuck
  | .stuck => .stuck
/-- names by values, one by one -/
def parS : List Nat → List D → Env → Option Env
  | [], [], ρ => some ρ
  | i :: is, d :: ds, ρ => parS is ds (ρ.set i (some (.d d)))
  | _, _, _ => none
def handle (cs : List Nat) (slot : Option Nat) (h : Env → Store → SR) (r : SR) : SR :=
  match r with
  | .exc x ρ1 st1 => if cs.contains x.c then
      (match slot with
      | some i => suiteS i (h (ρ1.set i (some (.exn x.c x.fs))) st1)
      | none => .stuck)
    else .exc x ρ1 st1
  | r => r
def seqS (r : SR) (f : Env → Store → SR) : SR :=
  match r with
  | .next ρ st => f ρ st
  | r => r
/-- one turn of a comprehension -/
def turnF (g : D → Env → Store → Res Env) (c : Env → Store → Res D) (e : Env → Store → Res D) (ρ : Env) (d : D) (st : Store) : Res (Option D) :=
  noX (bnd (g d ρ st) fun ρ1 st2 => bnd (tru c ρ1 st2) fun b st3 => if b then bnd (e ρ1 st3) fun y st4 => .ok (some y) st4 else .ok none st3)

/-- one argument -/
abbrev arg1 (g : Env → Store → Res D) : Env → Store → Res (List D) := fun ρ st => bnd (g ρ st) fun d st1 => bnd (Res.ok [] st1) fun ds st2 => .ok (d :: ds) st2
def gsNil (ds : List D) (ρ : Env) (st : Store) : Res Env :=
  match ds with
  | [] => .ok ρ st
  | _ => .stuck
def gsCons (g : D → Env → Store → Res Env) (gs : List D → Env → Store → Res Env) (ds : List D) (ρ : Env) (st : Store) : Res Env :=
  match ds with
  | d :: r => bnd (g d ρ st) fun ρ1 st1 => gs r ρ1 st1
  | [] => .stuck
section
variable (W : Nat) (call : A → List A → Store → Res D)
def den : C → Den
  | .k d => exprDen fun _ st => .ok d.d st
  | .v i => { exprDen (slotD i) with ea := slotA i }
  | .g d => exprDen fun _ st => .ok d.d st
  | .gf i => exprDen fun _ st => .ok (.fn i) st
  | .tup as => exprDen fun ρ st => bnd ((den as).a ρ st) newTup
  | .lst as => exprDen fun ρ st => bnd ((den as).a ρ st) newList
  | .bin o a b => exprDen fun ρ st => bnd ((den a).e ρ st) fun x st1 => bnd ((den b).e ρ st1) fun y st2 => binD st2 o x y
  | .neg a => exprDen fun ρ st => bnd ((den a).e ρ st) fun x st1 => oth ((intOf x).map fun i => .int (-i)) st1
  | .not a => exprDen fun ρ st => bnd (tru (den a).e ρ st) fun b st1 => .ok (.bl (!b)) st1
  | .cmp o a b => exprDen fun ρ st => bnd ((den a).e ρ st) fun x st1 => bnd ((den b).e ρ st1) fun y st2 => oth ((cmpD st2 o x y).map .bl) st2
  | .chain o p a b c => exprDen fun ρ st => bnd ((den a).e ρ st) fun x st1 => bnd ((den b).e ρ st1) fun y st2 => bnd (oth (cmpD st2 o x y) st2) fun r st3 =>
      if r then bnd ((den c).e ρ st3) fun z st4 => oth ((cmpD st4 p y z).map .bl) st4 else .ok (.bl false) st3
  | .and a b => exprDen fun ρ st => bnd ((den a).e ρ st) fun x st1 => bnd (oth (truth st1 x) st1) fun r st2 => if r then (den b).e ρ st2 else .ok x st2
  | .or a b => exprDen fun ρ st => bnd ((den a).e ρ st) fun x st1 => bnd (oth (truth st1 x) st1) fun r st2 => if r then .ok x st2 else (den b).e ρ st2
  | .ite c a b => exprDen fun ρ st => bnd (tru (den c).e ρ st) fun r st1 => if r then (den a).e ρ st1 else (den b).e ρ st1
  | .idx a i => exprDen fun ρ st => bnd ((den a).e ρ st) fun x st1 => bnd ((den i).e ρ st1) fun y st2 => oth (idxD st2 x y) st2
  | .sl a lo hi => exprDen fun ρ st => bnd ((den a).e ρ st) fun x st1 => bnd ((den lo).t ρ st1) fun l st2 => bnd ((den hi).t ρ st2) fun h st3 => slD st3 l h x
  | .call f as => exprDen fun ρ st => bnd ((den f).ea ρ st) fun x st1 => bnd (oth (calA x) st1) fun x st1 => bnd ((den as).aa ρ st1) fun ds st2 => call x ds st2
  | .prim p as => exprDen fun ρ st => bnd ((den as).a ρ st) fun ds st1 => primD st1 p ds
  | .meth m o a => exprDen fun ρ st => bnd ((den o).e ρ st) fun x st1 => bnd (oth (recv m x) st1) fun x st1 => bnd (arg1 (den a).e ρ st1) fun ds st2 => methD st2 m x ds
  | .isi a t => exprDen fun ρ st => bnd ((den a).ea ρ st) fun x st1 => oth ((isiA x t).map .bl) st1
  | .comp elt tg it cond own => exprDen fun ρ st => bnd ((den it).i ρ st) fun J st1 =>
      bnd (compF (fun st i => J.at st i) (turnF (den tg).g (den cond).e (den elt).e (wipe ρ own)) W 0 st1) newList
  | .lam ps n b caps => match caps with
    | [] => exprDen fun _ st => .ok (.lam ⟨ps, n, b⟩) st
    | i :: is => { Den.none with ea := fun ρ st => oth ((slotsAt ρ (i :: is)).map fun ds => .clo ⟨ps, n, b⟩ ds) st }
  | .attr a n => exprDen fun ρ st => bnd ((den a).ea ρ st) (attrA n)
  | .hcall f j => exprDen fun ρ st => bnd (slotA j ρ st) fun x st1 => bnd (oth (exnOf x) st1) fun p st2 => call (.d (.fn f)) [.exn p.1 p.2] st2
  | .nil => { Den.none with
      a := fun _ st => .ok [] st
      aa := fun _ st => .ok [] st
      gs := gsNil
      ss := fun ρ st => .next ρ st }
  | .cons a as => { Den.none with
      a := fun ρ st => bnd ((den a).e ρ st) fun d st1 => bnd ((den as).a ρ st1) fun ds st2 => .ok (d :: ds) st2
      aa := fun ρ st => bnd ((den a).ea ρ st) fun d st1 => bnd ((den as).aa ρ st1) fun ds st2 => .ok (d :: ds) st2
      gs := gsCons (den a).g (den as).gs
      ss := fun ρ st => seqS ((den a).s ρ st) (den as).ss }
  | .no => { Den.none with t := fun _ st => .ok none st }
  | .tn i => tgtDen fun d ρ st => .ok (ρ.set i (some (.d d))) st
  | .tt ts => tgtDen fun d ρ st => bnd (oth (unpack d) st) fun ds st1 => noX ((den ts).gs ds ρ st1)
  | .tsub o i => tgtDen fun d ρ st => bnd ((den o).e ρ st) fun x st1 => bnd ((den i).e ρ st1) fun y st2 => setD ρ d x y st2
  | .iv a => itDen fun ρ st => bnd ((den a).e ρ st) fun x st1 => oth (itOf st1 x) st1
  | .ir1 a => itDen fun ρ st => bnd ((den a).e ρ st) rng1
  | .ir2 a b => itDen fun ρ st => bnd ((den a).e ρ st) fun x st1 => bnd ((den b).e ρ st1) fun y st2 => rng2 x y st2
  | .ien a => itDen fun ρ st => bnd ((den a).e ρ st) enumOf
  | .izip a b => itDen fun ρ st => bnd ((den a).e ρ st) fun x st1 => bnd ((den b).e ρ st1) fun y st2 => zipOf x y st2
  | .izl a b => itDen fun ρ st => bnd ((den a).e ρ st) fun x st1 => bnd ((den b).e ρ st1) fun y st2 => zipL x y st2
  | .asg t e => stmtDen fun ρ st => sbnd ((den e).e ρ st) ρ fun d st1 => sbnd ((den t).g d ρ st1) ρ fun ρ1 st2 => .next ρ1 st2
  | .par is as => stmtDen fun ρ st => sbnd ((den as).a ρ st) ρ fun ds st1 => sbnd (oth (parS is ds ρ) st1) ρ fun ρ1 st2 => .next ρ1 st2
  | .ex e => stmtDen fun ρ st => sbnd ((den e).e ρ st) ρ fun _ st1 => .next ρ st1
  | .ret e => stmtDen fun ρ st => sbnd ((den e).e ρ st) ρ fun d st1 => .ret d st1
  | .retN => stmtDen fun _ st => .ret .non st
  | .pass => stmtDen fun ρ st => .next ρ st
  | .brk => stmtDen fun ρ st => .brk ρ st
  | .iff c a b => stmtDen fun ρ st => sbnd (tru (den c).e ρ st) ρ fun r st1 => if r then (den a).ss ρ st1 else (den b).ss ρ st1
  | .forr t it b => stmtDen fun ρ st => sbnd ((den it).i ρ st) ρ fun J st1 =>
      loopF (fun st i => J.at st i) (fun d ρ st => sbnd ((den t).g d ρ st) ρ fun ρ1 st2 => (den b).ss ρ1 st2) W 0 ρ st1
  | .whl c b => stmtDen fun ρ st => whileF (tru (den c).e) (den b).ss W ρ st
  | .raise c as => stmtDen fun ρ st => sbnd ((den as).a ρ st) ρ fun ds st1 => .exc ⟨c, ds⟩ ρ st1
  | .tryx b cs slot h => stmtDen fun ρ st => handle cs slot (den h).ss ((den b).ss ρ st)
end

def startD (d : Def) (ds : List A) : Env := ds.map some ++ List.replicate (d.n - ds.length) none

/-- how a def's body ends -/
def endD (r : SR) : Res D :=
  match r with
  | .next _ st => .ok .non st
  | .ret v st => .ok v st
  | .exc x _ st => .exc x st
  | .brk _ _ => .stuck
  | .stuck => .stuck
/-- the call of a value, to a depth -/
def callN (P : Prog) (W : Nat) : Nat → A → List A → Store → Res D
  | 0, _, _, _ => .stuck
  | n + 1, f, as, st => match f with
    | .d (.fn i) => match P.defs[i]? with
      | some d => if as.length = d.ps then endD ((den W (callN P W n) d.body).ss (startD d as) st) else .stuck
      | none => .stuck
    | .d (.lam d) => match plainAs as with
      | some ds => if ds.length = d.ps then (den W (callN P W n) d.body).e (startD d (ds.map .d)) st else .stuck
      | none => .stuck
    | .clo d caps => match plainAs as with
      | some ds => if ds.length = d.ps then (den W (callN P W n) d.body).e (startD d (ds.map .d ++ caps)) st else .stuck
      | none => .stuck
    | _ => .stuck
end PF

set_option Elab.async false
set_option linter.all false
set_option maxRecDepth 100000
/-! The relation between the pure form's values and store, and the hand layer's values and abstract heap. -/
namespace PF
open PySem PySem.Spec PyProof.Rows L2

/-- what is known of a lambda of the text -/
structure LamI where
  qual : Str
  params : Arguments
  body : Expr
  scope : Scope
  N : List Str
  ps : List Str
  fr : List Str
/-- what is known of a law's text: where its defs and classes stand; a class's field; its lambdas; its code tables -/
structure Info where
  K : PySem.W.Frag
  fa : Nat → Option Addr
  ca : Nat → Option Addr
  fld : Nat → Option Str
  lamP : Def → LamI → Prop
  T : List (Addr × Str)
  na : Option Addr

abbrev AH := List Addr

/-- the object of a lambda -/
def LamO (f : Addr) (L : LamI) (cl : List (Str × Addr)) (c' : Addr) : HO :=
  .ext fun h => ∃ pm ctv, h.get? f = some (PySem.W.kla_obj "<lambda>" L.qual L.params L.body L.scope cl pm c' ctv)
/-- a frozen cell -/
def cellU : HO := .ext fun _ => True
def unfrz (cl : List (Str × Addr)) (H : Hp) : Hp := fun b => if b ∈ cl.map (·.2) then none else H b

/-- a list that is only read -/
def SqR (K : PySem.W.Frag) (H : Hp) (a : Addr) (xs : List V) : Prop :=
  (∃ o, H a = some (.frz o (.lst xs))) ∨
    ∃ (o : Obj) (its : Array Value) (n : Nat), K.lookup a = some o ∧ o.cls = .type "list" ∧ o.dict = none ∧ o.data = .seq its n ∧ its.size ≤ sizeLine ∧ Vals xs its.toList
theorem SqR.sq {K : PySem.W.Frag} {H : Hp} {a : Addr} {xs : List V} (h : SqR K H a xs) : SqL K H a xs := h.imp (fun z => .inr z) fun z => z

section
variable (I : Info) (m : AH)
mutual
inductive RepD (H : Hp) : D → V → Prop
  | non : RepD H .non .non
  | bl (b : Bool) : RepD H (.bl b) (.bl b)
  | int (i : Int) : RepD H (.int i) (.int i)
  | str (s : List Nat) : RepD H (.str s) (.str ⟨s.toArray⟩)
  | tup {a : Addr} {vs : List V} {ds : List D} : SqT I.K H a vs → RepDs H ds vs → RepD H (.tup ds) (.ref a)
  | loc {n : Nat} {a : Addr} : m[n]? = some a → RepD H (.loc n) (.ref a)
  | rol {a : Addr} {vs : List V} {ds : List D} : SqR I.K H a vs → RepDs H ds vs → RepD H (.rol ds) (.ref a)
  | fn {i : Nat} {f : Addr} : I.fa i = some f → RepD H (.fn i) (.ref f)
  | lam {l : Def} {L : LamI} {f c' : Addr} : I.lamP l L → H f = some (LamO f L [] c') → H c' = some (LamX.CodeO c' L.qual) → L.fr = [] → RepD H (.lam l) (.ref f)
inductive RepDs (H : Hp) : List D → List V → Prop
  | nil : RepDs H [] []
  | cons {d : D} {ds : List D} {v : V} {vs : List V} : RepD H d v → RepDs H ds vs → RepDs H (d :: ds) (v :: vs)
end
end

section
variable {I : Info} {m m1 m2 : AH} {H H1 H2 : Hp}

/-- how the heap and the places of the store's objects grow: what is no list of the store and no table stays -/
structure Gr (m : AH) (H : Hp) (m1 : AH) (H1 : Hp) : Prop where
  pre : ∃ r, m1 = m ++ r ∧ ∀ a ∈ r, H a = none
  keep : ∀ a o, H a = some o → a ∉ m → (∀ ps, o ≠ .tbl ps) → H1 a = some o
  dom : ∀ a o, H a = some o → ∃ o', H1 a = some o'
theorem Gr.refl (m : AH) (H : Hp) : Gr m H m H := ⟨⟨[], by simp, by simp⟩, fun _ _ h _ _ => h, fun _ o h => ⟨o, h⟩⟩
theorem Gr.get (g : Gr m H m1 H1) {n : Nat} {a : Addr} (h : m[n]? = some a) : m1[n]? = some a := by
  obtain ⟨r, rfl, _⟩ := g.pre
  have hn : n < m.length := (List.getElem?_eq_some_iff.mp h).1
  rw [List.getElem?_append_left hn]
  exact h
theorem Gr.out (g : Gr m H m1 H1) {a : Addr} (h : a ∉ m) (h2 : H a ≠ none) : a ∉ m1 := by
  obtain ⟨r, rfl, hr⟩ := g.pre
  intro z
  rcases List.mem_append.mp z with z | z
  · exact h z
  · exact h2 (hr a z)
theorem Gr.trans (g : Gr m H m1 H1) (k : Gr m1 H1 m2 H2) : Gr m H m2 H2 := by
  obtain ⟨r, e1, h1⟩ := g.pre
  obtain ⟨t, e2, h2⟩ := k.pre
  refine ⟨⟨r ++ t, by rw [e2, e1, List.append_assoc], fun a ha => ?_⟩, fun a o h n p => ?_, fun a o h => ?_⟩
  · rcases List.mem_append.mp ha with z | z
    · exact h1 a z
    · cases e : H a with
      | none => rfl
      | some o =>
        obtain ⟨o', q⟩ := g.dom a o e
        rw [h2 a z] at q
        cases q
  · exact k.keep a o (g.keep a o h n p) (g.out n (by rw [h]; simp)) p
  · obtain ⟨o', q⟩ := g.dom a o h
    exact k.dom a o' q
/-- only lists stand at the places of the store -/
def MOk (m : AH) (H : Hp) : Prop := ∀ a ∈ m, ∃ xs, H a = some (.lst xs)
theorem MOk.ne (h : MOk m H) {a : Addr} {o : HO} (e : H a = some o) (n : ∀ xs, o ≠ .lst xs) : a ∉ m := fun z => by
  obtain ⟨xs, q⟩ := h a z
  rw [e] at q
  exact n xs (Option.some.inj q)
theorem Gr.tup (g : Gr m H m1 H1) (k : MOk m H) {a : Addr} {xs : List V} (h : SqT I.K H a xs) : SqT I.K H1 a xs := by
  rcases h with (h | ⟨o, h⟩) | h
  · exact .inl (.inl (g.keep a _ h (k.ne h fun _ z => by cases z) fun _ z => by cases z))
  · exact .inl (.inr ⟨o, g.keep a _ h (k.ne h fun _ z => by cases z) fun _ z => by cases z⟩)
  · exact .inr h
theorem Gr.rol (g : Gr m H m1 H1) (k : MOk m H) {a : Addr} {xs : List V} (h : SqR I.K H a xs) : SqR I.K H1 a xs := by
  rcases h with ⟨o, h⟩ | h
  · exact .inl ⟨o, g.keep a _ h (k.ne h fun _ z => by cases z) fun _ z => by cases z⟩
  · exact .inr h
theorem Gr.ext (g : Gr m H m1 H1) (k : MOk m H) {a : Addr} {φ : Heap → Prop} (h : H a = some (.ext φ)) : H1 a = some (.ext φ) :=
  g.keep a _ h (k.ne h fun _ z => by cases z) fun _ z => by cases z
mutual
theorem RepD.mono (g : Gr m H m1 H1) (k : MOk m H) : ∀ {d : D} {v : V}, RepD I m H d v → RepD I m1 H1 d v
  | _, _, .non => .non
  | _, _, .bl b => .bl b
  | _, _, .int i => .int i
  | _, _, .str s => .str s
  | _, _, .tup h r => .tup (g.tup k h) (RepDs.mono g k r)
  | _, _, .loc h => .loc (g.get h)
  | _, _, .rol h r => .rol (g.rol k h) (RepDs.mono g k r)
  | _, _, .fn h => .fn h
  | _, _, .lam h1 h2 h3 h4 => .lam h1 (g.ext k h2) (g.ext k h3) h4
theorem RepDs.mono (g : Gr m H m1 H1) (k : MOk m H) : ∀ {ds : List D} {vs : List V}, RepDs I m H ds vs → RepDs I m1 H1 ds vs
  | _, _, .nil => .nil
  | _, _, .cons h r => .cons (RepD.mono g k h) (RepDs.mono g k r)
end

mutual
/-- more places -/
theorem RepD.more (g : ∀ (n : Nat) (a : Addr), m[n]? = some a → m1[n]? = some a) : ∀ {d : D} {v : V}, RepD I m H d v → RepD I m1 H d v
  | _, _, .non => .non
  | _, _, .bl b => .bl b
  | _, _, .int i => .int i
  | _, _, .str s => .str s
  | _, _, .tup h r => .tup h (RepDs.more g r)
  | _, _, .loc h => .loc (g _ _ h)
  | _, _, .rol h r => .rol h (RepDs.more g r)
  | _, _, .fn h => .fn h
  | _, _, .lam h1 h2 h3 h4 => .lam h1 h2 h3 h4
theorem RepDs.more (g : ∀ (n : Nat) (a : Addr), m[n]? = some a → m1[n]? = some a) : ∀ {ds : List D} {vs : List V}, RepDs I m H ds vs → RepDs I m1 H ds vs
  | _, _, .nil => .nil
  | _, _, .cons h r => .cons (RepD.more g h) (RepDs.more g r)
end

/-- the store -/
structure RepSt (I : Info) (m : AH) (H : Hp) (st : Store) : Prop where
  len : m.length = st.length
  nd : m.Nodup
  ob : ∀ (n : Nat) (a : Addr) (ds : List D), m[n]? = some a → st[n]? = some (.lst ds) → ∃ vs, H a = some (.lst vs) ∧ RepDs I m H ds vs
  tabs : LamX.Tabs I.T H
theorem RepSt.mok {st : Store} (s : RepSt I m H st) : MOk m H := fun a ha => by
  obtain ⟨n, hn, e⟩ := List.getElem_of_mem ha
  have h1 : m[n]? = some a := by rw [List.getElem?_eq_getElem hn, e]
  have h2 : n < st.length := by rw [← s.len]; exact hn
  have h3 : st[n]? = some st[n] := List.getElem?_eq_getElem h2
  cases q : st[n] with
  | lst ds =>
    rw [q] at h3
    obtain ⟨vs, h, _⟩ := s.ob n a ds h1 h3
    exact ⟨vs, h⟩

/-- an error: its class, its own dict -/
def RepX (I : Info) (m : AH) (H : Hp) (x : Xn) (cls : Value) (dd : Option Addr) : Prop :=
  ∃ C, I.ca x.c = some C ∧ cls = .ref C ∧ match I.fld x.c with
    | none => dd = none
    | some f => ∃ d v e, dd = some d ∧ x.fs = [e] ∧ H d = some (.xd [(f, v)]) ∧ RepD I m H e v

mutual
/-- what a slot holds; xh: the error in hand (its place, class, dict) -/
inductive RepA (I : Info) (m : AH) (xh : Option (Addr × Value × Option Addr)) : Hp → A → V → Prop
  | d {H : Hp} {d : D} {v : V} : RepD I m H d v → RepA I m xh H (.d d) v
  | clo {H : Hp} {l : Def} {L : LamI} {f c' : Addr} {cl : List (Str × Addr)} {caps : List A} {vs : List V} : I.lamP l L → H f = some (LamO f L cl c') → H c' = some (LamX.CodeO c' L.qual) →
      (∀ p ∈ cl, ∃ oc w, H p.2 = some (.frz oc cellU) ∧ oc.data = .cell w) → (∀ x y c, cl.lookup x = some c → cl.lookup y = some c → x = y) →
      (∀ (j : Nat) (y : Str), L.fr[j]? = some y → ∃ c oc u v, cl.lookup y = some c ∧ H c = some (.frz oc cellU) ∧ oc.data = .cell (some u) ∧ vs[j]? = some v ∧ RelV v u) → vs.length = L.fr.length →
      RepAs I m xh (unfrz cl H) caps vs → RepA I m xh H (.clo l caps) (.ref f)
  | exn {H : Hp} {a : Addr} {cls : Value} {dd : Option Addr} {c : Nat} {fs : List D} : xh = some (a, cls, dd) → RepX I m H ⟨c, fs⟩ cls dd → RepA I m xh H (.exn c fs) (.ref a)
inductive RepAs (I : Info) (m : AH) (xh : Option (Addr × Value × Option Addr)) : Hp → List A → List V → Prop
  | nil {H : Hp} : RepAs I m xh H [] []
  | cons {H : Hp} {a : A} {as : List A} {v : V} {vs : List V} : RepA I m xh H a v → RepAs I m xh H as vs → RepAs I m xh H (a :: as) (v :: vs)
end
theorem Gr.frz (g : Gr m H m1 H1) (k : MOk m H) {a : Addr} {o : Obj} {u : HO} (h : H a = some (.frz o u)) : H1 a = some (.frz o u) :=
  g.keep a _ h (k.ne h fun _ z => by cases z) fun _ z => by cases z
theorem Gr.xd (g : Gr m H m1 H1) (k : MOk m H) {a : Addr} {fs : List (Str × V)} (h : H a = some (.xd fs)) : H1 a = some (.xd fs) :=
  g.keep a _ h (k.ne h fun _ z => by cases z) fun _ z => by cases z
theorem RepX.mono (g : Gr m H m1 H1) (k : MOk m H) {x : Xn} {cls : Value} {dd : Option Addr} (h : RepX I m H x cls dd) : RepX I m1 H1 x cls dd := by
  obtain ⟨C, h1, h2, h3⟩ := h
  refine ⟨C, h1, h2, ?_⟩
  cases e : I.fld x.c with
  | none =>
    rw [e] at h3
    exact h3
  | some f =>
    rw [e] at h3
    obtain ⟨d, v, e', h4, h5, h6, h7⟩ := h3
    exact ⟨d, v, e', h4, h5, g.xd k h6, h7.mono g k⟩
/-- the frozen cells of a lambda -/
def FrzAll (cl : List (Str × Addr)) (H : Hp) : Prop := ∀ c ∈ cl.map (·.2), ∃ oc, H c = some (.frz oc cellU)
theorem Gr.unfrz (g : Gr m H m1 H1) (k : MOk m H) {cl : List (Str × Addr)} (f : FrzAll cl H) : Gr m (unfrz cl H) m1 (unfrz cl H1) := by
  refine ⟨?_, fun a o h n p => ?_, fun a o h => ?_⟩
  · obtain ⟨r, e, h⟩ := g.pre
    refine ⟨r, e, fun a ha => ?_⟩
    unfold PF.unfrz
    split
    · rfl
    · exact h a ha
  · unfold PF.unfrz at h ⊢
    split at h
    · cases h
    · rename_i z
      rw [if_neg z]
      exact g.keep a o h n p
  · unfold PF.unfrz at h ⊢
    split at h
    · cases h
    · rename_i z
      rw [if_neg z]
      exact g.dom a o h
theorem MOk.unfrz (k : MOk m H) {cl : List (Str × Addr)} (f : FrzAll cl H) : MOk m (unfrz cl H) := fun a ha => by
  obtain ⟨xs, h⟩ := k a ha
  unfold PF.unfrz
  rw [if_neg]
  · exact ⟨xs, h⟩
  · intro z
    obtain ⟨oc, q⟩ := f a z
    rw [h] at q
    cases q
theorem frzAll_of {cl : List (Str × Addr)} (h : ∀ p ∈ cl, ∃ oc w, H p.2 = some (.frz oc cellU) ∧ oc.data = .cell w) : FrzAll cl H := fun c hc => by
  obtain ⟨p, hp, e⟩ := List.mem_map.mp hc
  obtain ⟨oc, w, q, _⟩ := h p hp
  exact ⟨oc, by rw [← e]; exact q⟩
end
mutual
theorem RepA.mono {I : Info} {m m1 : AH} {xh : Option (Addr × Value × Option Addr)} : ∀ {H H1 : Hp} {a : A} {v : V}, Gr m H m1 H1 → MOk m H → RepA I m xh H a v → RepA I m1 xh H1 a v
  | _, _, _, _, g, k, .d h => .d (h.mono g k)
  | _, _, _, _, g, k, .clo h1 h2 h3 h4 h5 h6 h7 h8 => .clo h1 (g.ext k h2) (g.ext k h3)
      (fun p hp => let ⟨oc, w, q, z⟩ := h4 p hp; ⟨oc, w, g.frz k q, z⟩) h5
      (fun j y e => let ⟨c, oc, u, v, a1, a2, a3, a4, a5⟩ := h6 j y e; ⟨c, oc, u, v, a1, g.frz k a2, a3, a4, a5⟩) h7
      (RepAs.mono (g.unfrz k (frzAll_of h4)) (k.unfrz (frzAll_of h4)) h8)
  | _, _, _, _, g, k, .exn h1 h2 => .exn h1 (h2.mono g k)
theorem RepAs.mono {I : Info} {m m1 : AH} {xh : Option (Addr × Value × Option Addr)} : ∀ {H H1 : Hp} {as : List A} {vs : List V}, Gr m H m1 H1 → MOk m H → RepAs I m xh H as vs → RepAs I m1 xh H1 as vs
  | _, _, _, _, _, _, .nil => .nil
  | _, _, _, _, g, k, .cons h r => .cons (RepA.mono g k h) (RepAs.mono g k r)
end
theorem RepDs.length {I : Info} {m : AH} {H : Hp} : ∀ {ds : List D} {vs : List V}, RepDs I m H ds vs → ds.length = vs.length
  | _, _, .nil => rfl
  | _, _, .cons _ r => by simp [RepDs.length r]
theorem RepAs.length {I : Info} {m : AH} {xh : Option (Addr × Value × Option Addr)} {H : Hp} : ∀ {ds : List A} {vs : List V}, RepAs I m xh H ds vs → ds.length = vs.length
  | _, _, .nil => rfl
  | _, _, .cons _ r => by simp [RepAs.length r]
theorem RepDs.get {I : Info} {m : AH} {H : Hp} : ∀ {ds : List D} {vs : List V} {i : Nat} {d : D}, RepDs I m H ds vs → ds[i]? = some d → ∃ v, vs[i]? = some v ∧ RepD I m H d v
  | _, _, _, _, .nil, e => by simp at e
  | _, _, 0, _, .cons h _, e => by simp at e; subst e; exact ⟨_, rfl, h⟩
  | _, _, i + 1, _, .cons _ r, e => by simpa using RepDs.get r (i := i) (by simpa using e)
theorem RepAs.get {I : Info} {m : AH} {xh : Option (Addr × Value × Option Addr)} {H : Hp} : ∀ {ds : List A} {vs : List V} {i : Nat} {d : A}, RepAs I m xh H ds vs → ds[i]? = some d → ∃ v, vs[i]? = some v ∧ RepA I m xh H d v
  | _, _, _, _, .nil, e => by simp at e
  | _, _, 0, _, .cons h _, e => by simp at e; subst e; exact ⟨_, rfl, h⟩
  | _, _, i + 1, _, .cons _ r, e => by simpa using RepAs.get r (i := i) (by simpa using e)
theorem RepDs.append {I : Info} {m : AH} {H : Hp} : ∀ {ds es : List D} {vs ws : List V}, RepDs I m H ds vs → RepDs I m H es ws → RepDs I m H (ds ++ es) (vs ++ ws)
  | _, _, _, _, .nil, s => s
  | _, _, _, _, .cons h r, s => .cons h (RepDs.append r s)
theorem RepDs.take {I : Info} {m : AH} {H : Hp} : ∀ (n : Nat) {ds : List D} {vs : List V}, RepDs I m H ds vs → RepDs I m H (ds.take n) (vs.take n)
  | 0, _, _, _ => by simpa using .nil
  | _ + 1, _, _, .nil => .nil
  | n + 1, _, _, .cons h r => .cons h (RepDs.take n r)
theorem RepDs.drop {I : Info} {m : AH} {H : Hp} : ∀ (n : Nat) {ds : List D} {vs : List V}, RepDs I m H ds vs → RepDs I m H (ds.drop n) (vs.drop n)
  | 0, _, _, r => by simpa using r
  | _ + 1, _, _, .nil => .nil
  | n + 1, _, _, .cons _ r => RepDs.drop n r
theorem RepDs.set {I : Info} {m : AH} {H : Hp} {d : D} {v : V} (h : RepD I m H d v) : ∀ (n : Nat) {ds : List D} {vs : List V}, RepDs I m H ds vs → RepDs I m H (ds.set n d) (vs.set n v)
  | _, _, _, .nil => .nil
  | 0, _, _, .cons _ r => .cons h r
  | n + 1, _, _, .cons q r => .cons q (RepDs.set h n r)
theorem RepDs.rep {I : Info} {m : AH} {H : Hp} {ds : List D} {vs : List V} (h : RepDs I m H ds vs) : ∀ k : Nat, RepDs I m H (List.replicate k ds).flatten (List.replicate k vs).flatten
  | 0 => .nil
  | k + 1 => by
    simp only [List.replicate_succ, List.flatten_cons]
    exact h.append (RepDs.rep h k)

/-! ### slots -/
structure RepEnv (I : Info) (m : AH) (xh : Option (Addr × Value × Option Addr)) (H : Hp) (σ : L2.St) (ρ : Env) : Prop where
  len : σ.length = ρ.length
  at_ : ∀ (i : Nat) (a : A), ρ[i]? = some (some a) → ∃ v, σ[i]? = some (some v) ∧ RepA I m xh H a v
theorem RepEnv.mono {I : Info} {m m1 : AH} {xh : Option (Addr × Value × Option Addr)} {H H1 : Hp} {σ : L2.St} {ρ : Env} (e : RepEnv I m xh H σ ρ) (g : Gr m H m1 H1) (k : MOk m H) : RepEnv I m1 xh H1 σ ρ :=
  ⟨e.len, fun i a h => let ⟨v, h1, h2⟩ := e.at_ i a h; ⟨v, h1, h2.mono g k⟩⟩
theorem RepEnv.set {I : Info} {m : AH} {xh : Option (Addr × Value × Option Addr)} {H : Hp} {σ : L2.St} {ρ : Env} (e : RepEnv I m xh H σ ρ) {a : A} {v : V} (r : RepA I m xh H a v) (i : Nat) : RepEnv I m xh H (σ.set i (some v)) (ρ.set i (some a)) := by
  refine ⟨by simp [e.len], fun j b h => ?_⟩
  by_cases hj : i = j
  · subst hj
    by_cases hi : i < ρ.length
    · rw [List.getElem?_set_self hi] at h
      cases h
      exact ⟨v, by rw [List.getElem?_set_self (by rw [e.len]; exact hi)], r⟩
    · rw [List.getElem?_eq_none (by simpa using hi)] at h
      cases h
  · rw [List.getElem?_set_ne hj] at h
    obtain ⟨w, h1, h2⟩ := e.at_ j b h
    exact ⟨w, by rw [List.getElem?_set_ne hj]; exact h1, h2⟩
theorem RepEnv.unset {I : Info} {m : AH} {xh : Option (Addr × Value × Option Addr)} {H : Hp} {σ : L2.St} {ρ : Env} (e : RepEnv I m xh H σ ρ) (i : Nat) (s : Option V) : RepEnv I m xh H (σ.set i s) (ρ.set i none) := by
  refine ⟨by simp [e.len], fun j b h => ?_⟩
  by_cases hj : i = j
  · subst hj
    by_cases hi : i < ρ.length
    · rw [List.getElem?_set_self hi] at h
      cases h
    · rw [List.getElem?_eq_none (by simpa using hi)] at h
      cases h
  · rw [List.getElem?_set_ne hj] at h
    obtain ⟨w, h1, h2⟩ := e.at_ j b h
    exact ⟨w, by rw [List.getElem?_set_ne hj]; exact h1, h2⟩
theorem RepEnv.wipe {I : Info} {m : AH} {xh : Option (Addr × Value × Option Addr)} {H : Hp} {σ : L2.St} {ρ : Env} (e : RepEnv I m xh H σ ρ) : ∀ is : List Nat, RepEnv I m xh H (L2.wipe σ is) (PF.wipe ρ is)
  | [] => e
  | i :: is => (RepEnv.wipe e is).unset i none

/-! ### ends -/
section
variable {α β γ : Type}
/-- what is wanted of a result: Rep tells values of it -/
def PostR (I : Info) (Rep : AH → Hp → α → β → Prop) (m : AH) (H : Hp) (r : Res α) (Q : β → Hp → Prop) (E : XK) : Prop :=
  match r with
  | .ok a st => ∀ m1 H1 b, Gr m H m1 H1 → RepSt I m1 H1 st → Rep m1 H1 a b → Q b H1
  | .exc x st => ∀ m1 H1 cls dd, Gr m H m1 H1 → RepSt I m1 H1 st → RepX I m1 H1 x cls dd → E cls dd H1
  | .stuck => False
theorem PostR.mono {I : Info} {Rep : AH → Hp → α → β → Prop} {m m1 : AH} {H H1 : Hp} {r : Res α} {Q : β → Hp → Prop} {E : XK} (h : PostR I Rep m H r Q E) (g : Gr m H m1 H1) : PostR I Rep m1 H1 r Q E := by
  cases r with
  | ok a st => exact fun m2 H2 b g2 => h m2 H2 b (g.trans g2)
  | exc x st => exact fun m2 H2 c d g2 => h m2 H2 c d (g.trans g2)
  | stuck => exact h
theorem PostR.imp {I : Info} {Rep : AH → Hp → α → β → Prop} {m : AH} {H : Hp} {r : Res α} {Q Q' : β → Hp → Prop} {E : XK} (h : PostR I Rep m H r Q E) (q : ∀ b H1, Q b H1 → Q' b H1) : PostR I Rep m H r Q' E := by
  cases r with
  | ok a st => exact fun m2 H2 b g2 s2 r2 => q _ _ (h m2 H2 b g2 s2 r2)
  | exc x st => exact h
  | stuck => exact h
/-- behind the first of two -/
structure Mid (I : Info) (R1 : AH → Hp → α → β → Prop) (R2 : AH → Hp → γ → δ → Prop) (m : AH) (H : Hp) (r : Res α) (f : α → Store → Res γ) (Q : δ → Hp → Prop) (E : XK) (b : β) (H1 : Hp) (a : α) (m1 : AH) (st1 : Store) : Prop where
  eq : r = .ok a st1
  gr : Gr m H m1 H1
  st : RepSt I m1 H1 st1
  rep : R1 m1 H1 a b
  post : PostR I R2 m1 H1 (f a st1) Q E
theorem PostR.bind {δ : Type} {I : Info} {R1 : AH → Hp → α → β → Prop} {R2 : AH → Hp → γ → δ → Prop} {m : AH} {H : Hp} {r : Res α} {f : α → Store → Res γ} {Q : δ → Hp → Prop} {E : XK} (h : PostR I R2 m H (bnd r f) Q E) :
    PostR I R1 m H r (fun b H1 => ∃ a m1 st1, Mid I R1 R2 m H r f Q E b H1 a m1 st1) E := by
  cases r with
  | ok a st =>
    have h : PostR I R2 m H (f a st) Q E := h
    exact fun m1 H1 b g s rp => ⟨a, m1, st, rfl, g, s, rp, h.mono g⟩
  | exc x st => exact h
  | stuck => exact h
end
end PF

set_option Elab.async false
set_option linter.all false
set_option maxRecDepth 100000
/-! Readings of the pure form, and the rules of expressions. -/
namespace PF
open PySem PySem.Spec PyProof.Rows L2

abbrev XH := Option (Addr × Value × Option Addr)
section
variable (I : Info) (xh : XH) (W : WX)
/-- the reading of a result -/
def TR {α β : Type} (Rep : AH → Hp → α → β → Prop) (f : Env → Store → Res α) : L2.St → Hp → (β → Hp → Prop) → Prop := fun σ H Q =>
  ∃ m ρ st, RepSt I m H st ∧ RepEnv I m xh H σ ρ ∧ PostR I Rep m H (f ρ st) Q fun c d H' => W c d σ H'
abbrev rD : AH → Hp → D → V → Prop := fun m H d v => RepD I m H d v
abbrev rDs : AH → Hp → List D → List V → Prop := fun m H d v => RepDs I m H d v
abbrev rEq {α : Type} : AH → Hp → α → α → Prop := fun _ _ a b => a = b
abbrev TD (f : Env → Store → Res D) : TE := TR I xh W (rD I) f
abbrev TDs (f : Env → Store → Res (List D)) : TA := TR I xh W (rDs I) f
abbrev TBl (f : Env → Store → Res Bool) : TT := TR I xh W rEq f
abbrev TOi (f : Env → Store → Res (Option Int)) : TO := TR I xh W rEq f
end

theorem weakE {X : Cx} {e : Expr} {t t' : TE} (h : PE X e t) (w : ∀ σ H Q, t' σ H Q → t σ H Q) : PE X e t' := ⟨fun pins s σ H Q i q => h.run pins s σ H Q i (w σ H Q q)⟩
theorem weakT {X : Cx} {e : Expr} {t t' : TT} (h : PT X e t) (w : ∀ σ H Q, t' σ H Q → t σ H Q) : PT X e t' := ⟨fun pins s σ H Q i q => h.run pins s σ H Q i (w σ H Q q)⟩
theorem weakW {X : Cx} {e : Expr} {t t' : TT} (h : PW X e t) (w : ∀ σ H Q, t' σ H Q → t σ H Q) : PW X e t' := ⟨fun wh pins s σ H Q i q => h.run wh pins s σ H Q i (w σ H Q q)⟩
theorem weakA {X : Cx} {e : List Expr} {t t' : TA} (h : PA X e t) (w : ∀ σ H Q, t' σ H Q → t σ H Q) : PA X e t' := ⟨fun pos pins s σ H Q i q => h.run pos pins s σ H Q i (w σ H Q q)⟩
theorem weakS {X : Cx} {e : Stmt} {t t' : TS} (h : PS X e t) (w : ∀ D σ H, t' D σ H → t D σ H) : PS X e t' := ⟨fun pins s σ H Q i q => h.run pins s σ H Q i (w Q σ H q)⟩
theorem weakSs {X : Cx} {e : List Stmt} {t t' : TS} (h : PSs X e t) (w : ∀ D σ H, t' D σ H → t D σ H) : PSs X e t' := ⟨fun pins s σ H Q i q => h.run pins s σ H Q i (w Q σ H q)⟩

section
variable {I : Info} {xh : XH} {W : WX} {α β γ δ : Type} {R1 : AH → Hp → α → β → Prop} {R2 : AH → Hp → γ → δ → Prop} {σ : L2.St} {H : Hp} {Q : δ → Hp → Prop}
/-- the first of two, then the rest in the state behind it -/
theorem TR.bind {f : Env → Store → Res α} {g : Env → α → Store → Res γ} (h : TR I xh W R2 (fun ρ st => bnd (f ρ st) (g ρ)) σ H Q) {Q1 : β → Hp → Prop}
    (k : ∀ b H1 a m1 ρ st1, RepSt I m1 H1 st1 → RepEnv I m1 xh H1 σ ρ → R1 m1 H1 a b → PostR I R2 m1 H1 (g ρ a st1) Q (fun c d H' => W c d σ H') → Q1 b H1) : TR I xh W R1 f σ H Q1 := by
  obtain ⟨m, ρ, st, hs, he, hp⟩ := h
  exact ⟨m, ρ, st, hs, he, hp.bind.imp fun b H1 ⟨a, m1, st1, M⟩ => k b H1 a m1 ρ st1 M.st (he.mono M.gr hs.mok) M.rep M.post⟩
/-- .. where the rest is a reading of its own -/
theorem TR.seq {R3 : AH → Hp → α' → β' → Prop} {f : Env → Store → Res α} {g : Env → α → Store → Res α'} {h' : Env → α → α' → Store → Res γ} (h : TR I xh W R2 (fun ρ st => bnd (f ρ st) fun a st1 => bnd (g ρ a st1) (h' ρ a)) σ H Q) {Q1 : β → β' → Hp → Prop}
    (k : ∀ b c H1 H2 a a' m1 m2 ρ st2, R1 m1 H1 a b → Gr m1 H1 m2 H2 → MOk m1 H1 → RepSt I m2 H2 st2 → RepEnv I m2 xh H2 σ ρ → R3 m2 H2 a' c → PostR I R2 m2 H2 (h' ρ a a' st2) Q (fun c d H' => W c d σ H') → Q1 b c H2) :
    TR I xh W R1 f σ H (fun b H1 => ∃ m1 ρ a st1, RepSt I m1 H1 st1 ∧ RepEnv I m1 xh H1 σ ρ ∧ PostR I R3 m1 H1 (g ρ a st1) (Q1 b) (fun c d H' => W c d σ H')) := by
  refine TR.bind (g := fun ρ a st1 => bnd (g ρ a st1) (h' ρ a)) h fun b H1 a m1 ρ st1 s1 e1 r1 p1 => ⟨m1, ρ, a, st1, s1, e1, p1.bind.imp fun c H2 ⟨a', m2, st2, M⟩ => ?_⟩
  exact k b c H1 H2 a a' m1 m2 ρ st2 r1 M.gr s1.mok M.st (e1.mono M.gr s1.mok) M.rep M.post
theorem PostR.oth {I : Info} {R : AH → Hp → α → β → Prop} {m : AH} {H : Hp} {o : Option α} {st : Store} {Q : β → Hp → Prop} {E : XK} (h : PostR I R m H (oth o st) Q E) : ∃ a, o = some a ∧ PostR I R m H (.ok a st) Q E := by
  cases o with
  | none => exact h.elim
  | some a => exact ⟨a, rfl, h⟩
theorem PostR.here {I : Info} {R : AH → Hp → α → β → Prop} {m : AH} {H : Hp} {a : α} {st : Store} {Q : β → Hp → Prop} {E : XK} {b : β} (h : PostR I R m H (.ok a st) Q E) (s : RepSt I m H st) (r : R m H a b) : Q b H :=
  h m H b (Gr.refl m H) s r
end

section
variable {I : Info} {xh : XH} {W : WX} {X : Cx}
/-! ### constants, names -/
theorem e_const {e : Expr} {d : D} {v : V} (h : PE X e (tC v)) (r : ∀ m H, RepD I m H d v) : PE X e (TD I xh W fun _ st => .ok d st) :=
  weakE h fun σ H Q ⟨m, ρ, st, hs, he, hp⟩ => hp.here hs (r m H)
theorem e_var {i : Nat} {e : Expr} (h : PE X e (tVar i)) : PE X e (TD I xh W (slotD i)) :=
  weakE h fun σ H Q ⟨m, ρ, st, hs, he, hp⟩ => by
    unfold slotD at hp
    cases q : ρ[i]? with
    | none => rw [q] at hp; exact hp.elim
    | some o =>
      cases o with
      | none => rw [q] at hp; exact hp.elim
      | some a =>
        rw [q] at hp
        cases a with
        | d d =>
          obtain ⟨v, h1, h2⟩ := he.at_ i _ q
          cases h2 with
          | d h2 => exact ⟨v, h1, hp.here hs h2⟩
        | clo => exact hp.elim
        | exn => exact hp.elim

/-! ### new objects -/
theorem Tabs.upd {T : List (Addr × Str)} {H : Hp} {p : Addr} {o : HO} (h : LamX.Tabs T H) (hp : H p = none) : LamX.Tabs T (upd H p o) :=
  h.ext fun b u e => by rw [upd_ne (ne_of_none e hp)]; exact e
theorem Gr.new {m : AH} {H : Hp} {p : Addr} {o : HO} (hp : H p = none) : Gr m H m (upd H p o) :=
  ⟨⟨[], by simp, by simp⟩, fun a u h _ _ => by rw [upd_ne (ne_of_none h hp)]; exact h, fun a u h => ⟨u, by rw [upd_ne (ne_of_none h hp)]; exact h⟩⟩
theorem Gr.newL {m : AH} {H : Hp} {p : Addr} {o : HO} (hp : H p = none) : Gr m H (m ++ [p]) (upd H p o) :=
  ⟨⟨[p], rfl, by simpa using hp⟩, fun a u h _ _ => by rw [upd_ne (ne_of_none h hp)]; exact h, fun a u h => ⟨u, by rw [upd_ne (ne_of_none h hp)]; exact h⟩⟩
theorem RepSt.new {m : AH} {H : Hp} {st : Store} {p : Addr} {o : HO} (s : RepSt I m H st) (hp : H p = none) : RepSt I m (upd H p o) st :=
  ⟨s.len, s.nd, fun n a ds h1 h2 => by
    obtain ⟨vs, h3, h4⟩ := s.ob n a ds h1 h2
    exact ⟨vs, by rw [upd_ne (ne_of_none h3 hp)]; exact h3, h4.mono (Gr.new hp) s.mok⟩, Tabs.upd s.tabs hp⟩
theorem RepSt.newL {m : AH} {H : Hp} {st : Store} {p : Addr} {vs : List V} {ds : List D} (s : RepSt I m H st) (hp : H p = none) (r : RepDs I m H ds vs) : RepSt I (m ++ [p]) (upd H p (.lst vs)) (st ++ [.lst ds]) := by
  have np : p ∉ m := fun z => by
    obtain ⟨xs, q⟩ := s.mok p z
    rw [hp] at q
    cases q
  refine ⟨by simp [s.len], ?_, fun n a es h1 h2 => ?_, Tabs.upd s.tabs hp⟩
  · rw [List.nodup_append]
    exact ⟨s.nd, by simp, fun a ha b hb => by simp at hb; subst hb; exact fun z => np (z ▸ ha)⟩
  · by_cases hn : n < m.length
    · rw [List.getElem?_append_left hn] at h1
      rw [List.getElem?_append_left (by rw [← s.len]; exact hn)] at h2
      obtain ⟨ws, h3, h4⟩ := s.ob n a es h1 h2
      exact ⟨ws, by rw [upd_ne (ne_of_none h3 hp)]; exact h3, h4.mono (Gr.newL hp) s.mok⟩
    · have e1 : n = m.length := by
        have z := (List.getElem?_eq_some_iff.mp h1).1
        simp at z
        omega
      subst e1
      rw [List.getElem?_append_right (Nat.le_refl _)] at h1
      rw [s.len, List.getElem?_append_right (Nat.le_refl _)] at h2
      simp at h1 h2
      subst h1
      subst h2
      exact ⟨vs, upd_same, r.mono (Gr.newL hp) s.mok⟩
theorem lim_size : LIM = sizeLine := by rw [sizeLine_eq]; rfl
theorem post_newTup {m : AH} {H : Hp} {ds : List D} {vs : List V} {st : Store} {Q : VK} {E : XK} (h : PostR I (rD I) m H (newTup ds st) Q E) (s : RepSt I m H st) (r : RepDs I m H ds vs) : vs.length ≤ sizeLine ∧ ∀ p, H p = none → Q (.ref p) (upd H p (.tup vs)) := by
  unfold newTup at h
  split at h
  · rename_i z
    rw [lim_size, r.length] at z
    refine ⟨z, fun p hp => ?_⟩
    exact h m _ _ (Gr.new hp) (s.new hp) (.tup (SqT.of upd_same) (r.mono (Gr.new hp) s.mok))
  · exact h.elim
theorem post_alloc {m : AH} {H : Hp} {ds : List D} {vs : List V} {st : Store} {Q : VK} {E : XK} (h : PostR I (rD I) m H (alloc st (.lst ds)) Q E) (s : RepSt I m H st) (r : RepDs I m H ds vs) : ∀ p, H p = none → Q (.ref p) (upd H p (.lst vs)) := fun p hp =>
  h (m ++ [p]) _ _ (Gr.newL hp) (s.newL hp r) (.loc (by rw [← s.len]; simp))
theorem post_newList {m : AH} {H : Hp} {ds : List D} {vs : List V} {st : Store} {Q : VK} {E : XK} (h : PostR I (rD I) m H (newList ds st) Q E) (s : RepSt I m H st) (r : RepDs I m H ds vs) : vs.length ≤ sizeLine ∧ ∀ p, H p = none → Q (.ref p) (upd H p (.lst vs)) := by
  unfold newList at h
  split at h
  · rename_i z
    rw [lim_size, r.length] at z
    exact ⟨z, post_alloc h s r⟩
  · exact h.elim

/-! ### displays, arguments -/
theorem a_nil : PA X [] (TDs I xh W fun _ st => .ok [] st) := weakA pa_nil fun σ H Q ⟨m, ρ, st, hs, he, hp⟩ => hp.here hs .nil
theorem a_cons {e : Expr} {es : List Expr} {f : Env → Store → Res D} {g : Env → Store → Res (List D)} (ha : PE X e (TD I xh W f)) (hr : PA X es (TDs I xh W g)) (hs : starEach (e :: es) X.env = (false, eval e X.env) :: starEach es X.env) :
    PA X (e :: es) (TDs I xh W fun ρ st => bnd (f ρ st) fun d st1 => bnd (g ρ st1) fun ds st2 => .ok (d :: ds) st2) :=
  weakA (pa_cons ha hr hs) fun σ H Q h => by
    refine TR.bind h fun v H1 d m1 ρ st1 s1 e1 r1 p1 => ⟨m1, ρ, st1, s1, e1, p1.bind.imp fun vs H2 ⟨ds, m2, st2, M⟩ => ?_⟩
    exact M.post.here M.st (.cons (r1.mono M.gr s1.mok) M.rep)
theorem e_tup {es : List Expr} {k : Nat} {pos : Pos} {g : Env → Store → Res (List D)} (h : PA X es (TDs I xh W g)) : PE X (.Tuple es k pos) (TD I xh W fun ρ st => bnd (g ρ st) newTup) :=
  weakE (pe_tup h) fun σ H Q h => TR.bind h fun vs H1 ds m1 ρ st1 s1 e1 r1 p1 => post_newTup p1 s1 r1
theorem e_lst {es : List Expr} {pos : Pos} {g : Env → Store → Res (List D)} (h : PA X es (TDs I xh W g)) : PE X (.List es pos) (TD I xh W fun ρ st => bnd (g ρ st) newList) :=
  weakE (pe_lst h) fun σ H Q h => TR.bind h fun vs H1 ds m1 ρ st1 s1 e1 r1 p1 => post_newList p1 s1 r1
end
end PF

set_option Elab.async false
set_option linter.all false
set_option maxRecDepth 100000
/-! Operators, comparisons, truth, subscripts. -/
namespace PF
open PySem PySem.Spec PyProof.Rows L2

section
variable {I : Info} {xh : XH} {W : WX} {X : Cx}
/-- a two-place operation by values -/
def OpS (I : Info) (X : Cx) (f : Value → Value → Sem Value) (sem : Store → D → D → Res D) : Prop :=
  ∃ r : R2, OpR X f r ∧ ∀ {m : AH} {H : Hp} {st : Store} {d e : D} {x y : V} {Q : VK} {E : XK}, RepSt I m H st → RepD I m H d x → RepD I m H e y → PostR I (rD I) m H (sem st d e) Q E → r x y H Q

theorem e_bin {op : Operator} {a b : Expr} {pos : Pos} {f g : Env → Store → Res D} {sem : Store → D → D → Res D} (h : OpS I X (binaryOp op) sem) (ha : PE X a (TD I xh W f)) (hb : PE X b (TD I xh W g)) :
    PE X (.BinOp a op b pos) (TD I xh W fun ρ st => bnd (f ρ st) fun x st1 => bnd (g ρ st1) fun y st2 => sem st2 x y) := by
  obtain ⟨r, hr, hq⟩ := h
  exact weakE (pe_op hr ha hb) fun σ H Q h => TR.bind h fun v H1 d m1 ρ st1 s1 e1 r1 p1 => ⟨m1, ρ, st1, s1, e1, p1.bind.imp fun w H2 ⟨d2, m2, st2, M⟩ => hq M.st (r1.mono M.gr s1.mok) M.rep M.post⟩

theorem str_app (x y : List Nat) : (⟨x.toArray⟩ : Str) ++ ⟨y.toArray⟩ = ⟨(x ++ y).toArray⟩ := by
  show (⟨x.toArray ++ y.toArray⟩ : Str) = _
  simp
theorem str_len (x : List Nat) : (⟨x.toArray⟩ : Str).length = x.length := by
  show x.toArray.size = _
  simp
theorem big_ok {i : Int} (h : big i = true) : -(2 ^ 64) < i ∧ i < 2 ^ 64 := by
  unfold big at h
  have h := of_decide_eq_true h
  omega
theorem or_true {a b : Bool} (h : (a || b) = true) : a = true ∨ b = true := by simpa using h
theorem and_true {a b : Bool} (h : (a && b) = true) : a = true ∧ b = true := by simpa using h

/-- a + b -/
theorem os_add (hK : X.K = I.K) : OpS I X (binaryOp .Add) fun st => binD st .add := by
  refine ⟨_, op_add.or (op_add_str.or (op_catA.or op_cat)), fun {m H st d e x y Q E} hs hd he hp => ?_⟩
  cases hd with
  | int i => cases he with
    | int j => exact .inl ⟨i, j, rfl, rfl, hp.here hs (.int _)⟩
    | _ => exact hp.elim
  | str s => cases he with
    | str t =>
      simp only [binD] at hp
      split at hp
      · rename_i z
        refine .inr (.inl ⟨_, _, rfl, rfl, by rw [str_len, str_len, ← lim_size]; exact z, ?_⟩)
        rw [str_app]
        exact hp.here hs (.str _)
      · exact hp.elim
    | _ => exact hp.elim
  | @tup a vs ds h r => cases he with
    | @tup b ws es h2 r2 =>
      simp only [binD] at hp
      obtain ⟨z, q⟩ := post_newTup hp hs (r.append r2)
      rw [hK]
      refine .inr (.inr (.inl ⟨a, b, vs, ws, rfl, rfl, h, h2, by simpa using z, fun e => ?_, fun _ e => ?_, fun _ _ => q⟩))
      · subst e
        cases r
        unfold newTup at hp
        split at hp
        · exact hp.here hs (.tup h2 (by simpa using r2))
        · exact hp.elim
      · subst e
        cases r2
        unfold newTup at hp
        split at hp
        · exact hp.here hs (.tup h (by simpa using r))
        · exact hp.elim
    | _ => exact hp.elim
  | @loc n a h => cases he with
    | @loc k b h2 =>
      simp only [binD] at hp
      cases q1 : st[n]? with
      | none => rw [q1] at hp; exact hp.elim
      | some o1 =>
        cases o1 with
        | lst xs =>
          cases q2 : st[k]? with
          | none => rw [q1, q2] at hp; exact hp.elim
          | some o2 =>
            cases o2 with
            | lst ys =>
              rw [q1, q2] at hp
              obtain ⟨vs, h3, h4⟩ := hs.ob n a xs h q1
              obtain ⟨ws, h5, h6⟩ := hs.ob k b ys h2 q2
              obtain ⟨z, q⟩ := post_newList hp hs (h4.append h6)
              exact .inr (.inr (.inr ⟨a, b, vs, ws, rfl, rfl, h3, h5, by simpa using z, q⟩))
    | _ => exact hp.elim
  | _ => first | exact hp.elim | (cases he <;> exact hp.elim)

theorem os_sub : OpS I X (binaryOp .Sub) fun st => binD st .sub := by
  refine ⟨_, op_sub, fun {m H st d e x y Q E} hs hd he hp => ?_⟩
  cases hd with
  | int i => cases he with
    | int j => exact ⟨i, j, rfl, rfl, hp.here hs (.int _)⟩
    | _ => exact hp.elim
  | _ => first | exact hp.elim | (cases he <;> exact hp.elim)
theorem os_mul (hK : X.K = I.K) : OpS I X (binaryOp .Mult) fun st => binD st .mul := by
  refine ⟨_, op_mul.or (op_repT.or op_rep), fun {m H st d e x y Q E} hs hd he hp => ?_⟩
  cases hd with
  | int i => cases he with
    | int j =>
      simp only [binD] at hp
      split at hp
      · rename_i z
        refine .inl ⟨i, j, rfl, rfl, ?_, hp.here hs (.int _)⟩
        rcases or_true z with z | z
        · exact .inl (big_ok z)
        · exact .inr (big_ok z)
      · exact hp.elim
    | _ => exact hp.elim
  | @tup a vs ds h r => cases he with
    | int j =>
      simp only [binD] at hp
      split at hp
      · rename_i z
        simp only [Bool.and_eq_true, decide_eq_true_eq, Bool.not_eq_true', List.isEmpty_eq_false_iff] at z
        obtain ⟨⟨⟨z1, z2⟩, z3⟩, z4⟩ := z
        rw [hK]
        refine .inr (.inl ⟨a, j, vs, rfl, rfl, h, ?_, z1, z2, by rw [← r.length]; exact z3, fun p hq => ?_⟩)
        · intro e
          subst e
          cases r
          exact z4 rfl
        · exact hp m _ _ (Gr.new hq) (hs.new hq) (.tup (SqT.of upd_same) ((r.rep _).mono (Gr.new hq) hs.mok))
      · exact hp.elim
    | _ => exact hp.elim
  | @loc n a h => cases he with
    | int j =>
      simp only [binD] at hp
      cases q1 : st[n]? with
      | none => rw [q1] at hp; exact hp.elim
      | some o1 =>
        cases o1 with
        | lst xs =>
          rw [q1] at hp
          dsimp only at hp
          split at hp
          · rename_i z
            simp only [Bool.and_eq_true, decide_eq_true_eq] at z
            obtain ⟨⟨z1, z2⟩, z3⟩ := z
            obtain ⟨vs, h3, h4⟩ := hs.ob n a xs h q1
            obtain ⟨z5, q⟩ := post_newList hp hs (h4.rep j.toNat)
            refine .inr (.inr ⟨a, j, vs, rfl, rfl, h3, by omega, by omega, ?_, q⟩)
            simpa [Nat.mul_comm] using z5
          · exact hp.elim
    | _ => exact hp.elim
  | _ => first | exact hp.elim | (cases he <;> exact hp.elim)
theorem os_fdiv : OpS I X (binaryOp .FloorDiv) fun st => binD st .fdiv := by
  refine ⟨_, op_fdiv, fun {m H st d e x y Q E} hs hd he hp => ?_⟩
  cases hd with
  | int i => cases he with
    | int j =>
      simp only [binD] at hp
      split at hp
      · rename_i z
        simp only [Bool.and_eq_true, decide_eq_true_eq] at z
        exact ⟨i, j, rfl, rfl, z, hp.here hs (.int _)⟩
      · exact hp.elim
    | _ => exact hp.elim
  | _ => first | exact hp.elim | (cases he <;> exact hp.elim)
theorem os_mod : OpS I X (binaryOp .Mod) fun st => binD st .mod := by
  refine ⟨_, op_mod, fun {m H st d e x y Q E} hs hd he hp => ?_⟩
  cases hd with
  | int i => cases he with
    | int j =>
      simp only [binD] at hp
      split at hp
      · rename_i z
        exact ⟨i, j, rfl, rfl, of_decide_eq_true z, hp.here hs (.int _)⟩
      · exact hp.elim
    | _ => exact hp.elim
  | _ => first | exact hp.elim | (cases he <;> exact hp.elim)
theorem os_pow : OpS I X (binaryOp .Pow) fun st => binD st .pow := by
  refine ⟨_, op_pow, fun {m H st d e x y Q E} hs hd he hp => ?_⟩
  cases hd with
  | int i => cases he with
    | int j =>
      simp only [binD] at hp
      split at hp
      · rename_i z
        simp only [Bool.and_eq_true, decide_eq_true_eq] at z
        obtain ⟨⟨z1, z2⟩, z3⟩ := z
        have z4 := big_ok z3
        exact ⟨i, j, rfl, rfl, ⟨z1, by omega, by omega⟩, hp.here hs (.int _)⟩
      · exact hp.elim
    | _ => exact hp.elim
  | _ => first | exact hp.elim | (cases he <;> exact hp.elim)

theorem e_neg {a : Expr} {pos : Pos} {f : Env → Store → Res D} (ha : PE X a (TD I xh W f)) : PE X (.UnaryOp .USub a pos) (TD I xh W fun ρ st => bnd (f ρ st) fun x st1 => oth ((intOf x).map fun i => .int (-i)) st1) :=
  weakE (pe_un un_neg ha) fun σ H Q h => TR.bind h fun v H1 d m1 ρ st1 s1 e1 r1 p1 => by
    obtain ⟨z, hz, p2⟩ := p1.oth
    cases r1 with
    | int i =>
      simp only [intOf, Option.map_some, Option.some.injEq] at hz
      subst hz
      exact ⟨i, rfl, p2.here s1 (.int _)⟩
    | _ => cases hz

/-! ### truth -/
theorem listAt_some {st : Store} {n : Nat} {ds : List D} (h : listAt st n = some ds) : st[n]? = some (.lst ds) := by
  unfold listAt at h
  cases e : st[n]? with
  | none => rw [e] at h; cases h
  | some o => cases o with
    | lst xs => rw [e] at h; cases h; rfl
theorem RepDs.isEmpty {m : AH} {H : Hp} {ds : List D} {vs : List V} (r : RepDs I m H ds vs) : ds.isEmpty = vs.isEmpty := by
  cases r <;> rfl
theorem tru_rep {m : AH} {H : Hp} {st : Store} {d : D} {v : V} {b : Bool} (hs : RepSt I m H st) (r : RepD I m H d v) (h : truth st d = some b) : TruV I.K v H b := by
  cases r with
  | non => cases h; rfl
  | bl c => cases h; rfl
  | int i => cases h; rfl
  | str s =>
    simp only [truth] at h
    split at h
    · rename_i hz
      refine ⟨by rw [str_len, ← lim_size]; exact hz, ?_⟩
      cases h
      rw [str_len]
      cases s with
      | nil => rfl
      | cons a r =>
        have e : (((a :: r).length : Nat) : Int) ≠ 0 := by simp; omega
        simp only [List.isEmpty_cons, Bool.not_false]
        exact (bne_iff_ne.mpr e).symm
    · cases h
  | @tup a vs ds h1 r1 =>
    cases h
    exact .inr (.inl ⟨vs, h1, by rw [r1.isEmpty]⟩)
  | @loc n a h1 =>
    simp only [truth] at h
    cases e : listAt st n with
    | none => rw [e] at h; cases h
    | some ds =>
      rw [e] at h
      cases h
      obtain ⟨vs, h3, h4⟩ := hs.ob n a ds h1 (listAt_some e)
      exact .inl ⟨vs, SqL.of h3, by show (!ds.isEmpty) = _; rw [h4.isEmpty]⟩
  | @rol a vs ds h1 r1 =>
    cases h
    exact .inl ⟨vs, h1.sq, by rw [r1.isEmpty]⟩
  | fn => cases h
  | lam => cases h
theorem e_not (hK : X.K = I.K) {a : Expr} {pos : Pos} {f : Env → Store → Res D} (ha : PE X a (TD I xh W f)) : PE X (.UnaryOp .Not a pos) (TD I xh W fun ρ st => bnd (tru f ρ st) fun b st1 => .ok (.bl (!b)) st1) :=
  weakE (pe_notT ha) fun σ H Q ⟨m, ρ, st, hs, he, hp⟩ => by
    refine TR.bind (R2 := rD I) (g := fun ρ d st1 => bnd (oth (truth st1 d) st1) fun b st2 => .ok (.bl (!b)) st2) (Q := Q) ⟨m, ρ, st, hs, he, ?_⟩ fun v H1 d m1 ρ st1 s1 e1 r1 p1 => ?_
    · have e : bnd (tru f ρ st) (fun b st1 => Res.ok (D.bl (!b)) st1) = bnd (f ρ st) fun d st1 => bnd (oth (truth st1 d) st1) fun b st2 => .ok (.bl (!b)) st2 := by
        unfold tru
        cases f ρ st <;> rfl
      dsimp only at hp
      rw [e] at hp
      exact hp
    · cases q : truth st1 d with
      | none =>
        rw [q] at p1
        exact p1.elim
      | some b =>
        rw [q] at p1
        rw [hK]
        exact ⟨b, tru_rep s1 r1 q, PostR.here (a := D.bl (!b)) p1 s1 (.bl _)⟩
/-- a value's truth as a test -/
theorem t_plain (hK : X.K = I.K) {a : Expr} {f : Env → Store → Res D} (ha : PE X a (TD I xh W f)) (he : ∀ whole, isTrue a X.env whole = (do let v ← whole; standAt a.pos; holding [v] (truthy v))) : PT X a (TBl I xh W (tru f)) :=
  weakT (pt_truth ha he) fun σ H Q h => TR.bind (R1 := rD I) h fun v H1 d m1 ρ st1 s1 e1 r1 p1 => by
    obtain ⟨b, q, p2⟩ := p1.oth
    rw [hK]
    exact ⟨b, tru_rep s1 r1 q, p2.here s1 rfl⟩
theorem t_not {a : Expr} {pos : Pos} {f : Env → Store → Res D} (ha : PT X a (TBl I xh W (tru f))) : PT X (.UnaryOp .Not a pos) (TBl I xh W (tru fun ρ st => bnd (tru f ρ st) fun b st1 => .ok (.bl (!b)) st1)) :=
  weakT (pt_not ha) fun σ H Q ⟨m, ρ, st, hs, he, hp⟩ => by
    refine TR.bind (R2 := rEq) (g := fun ρ b st1 => .ok (!b) st1) (Q := Q) ⟨m, ρ, st, hs, he, ?_⟩ fun v H1 d m1 ρ st1 s1 e1 r1 p1 => ?_
    · have e : tru (fun ρ st => bnd (tru f ρ st) fun b st1 => Res.ok (D.bl (!b)) st1) ρ st = bnd (tru f ρ st) fun b st1 => .ok (!b) st1 := by
        show bnd (bnd (tru f ρ st) fun b st1 => Res.ok (D.bl (!b)) st1) _ = _
        cases tru f ρ st <;> rfl
      rw [e] at hp
      exact hp
    · cases r1
      exact p1.here s1 rfl

/-! ### and, or -/
def andE (f g : Env → Store → Res D) : Env → Store → Res D := fun ρ st => bnd (f ρ st) fun x st1 => bnd (oth (truth st1 x) st1) fun r st2 => if r then g ρ st2 else .ok x st2
def orE (f g : Env → Store → Res D) : Env → Store → Res D := fun ρ st => bnd (f ρ st) fun x st1 => bnd (oth (truth st1 x) st1) fun r st2 => if r then .ok x st2 else g ρ st2
theorem e_and (hK : X.K = I.K) {a b : Expr} {rest : List Expr} {pos : Pos} {f g : Env → Store → Res D} (ha : PE X a (TD I xh W f)) (hb : PE X (.BoolOp .And (b :: rest) pos) (TD I xh W g)) : PE X (.BoolOp .And (a :: b :: rest) pos) (TD I xh W (andE f g)) :=
  weakE (pe_andT ha hb) fun σ H Q h => TR.bind h fun v H1 d m1 ρ st1 s1 e1 r1 p1 => by
    cases q : truth st1 d with
    | none =>
      rw [q] at p1
      exact p1.elim
    | some k =>
      rw [q] at p1
      rw [hK]
      refine ⟨k, tru_rep s1 r1 q, ?_⟩
      cases k with
      | true => exact ⟨m1, ρ, st1, s1, e1, p1⟩
      | false => exact PostR.here (a := d) p1 s1 r1
theorem e_or (hK : X.K = I.K) {a b : Expr} {rest : List Expr} {pos : Pos} {f g : Env → Store → Res D} (ha : PE X a (TD I xh W f)) (hb : PE X (.BoolOp .Or (b :: rest) pos) (TD I xh W g)) : PE X (.BoolOp .Or (a :: b :: rest) pos) (TD I xh W (orE f g)) :=
  weakE (pe_orT ha hb) fun σ H Q h => TR.bind h fun v H1 d m1 ρ st1 s1 e1 r1 p1 => by
    cases q : truth st1 d with
    | none =>
      rw [q] at p1
      exact p1.elim
    | some k =>
      rw [q] at p1
      rw [hK]
      refine ⟨k, tru_rep s1 r1 q, ?_⟩
      cases k with
      | false => exact ⟨m1, ρ, st1, s1, e1, p1⟩
      | true => exact PostR.here (a := d) p1 s1 r1
theorem tru_and (f g : Env → Store → Res D) (ρ : Env) (st : Store) : tru (andE f g) ρ st = bnd (tru f ρ st) fun b st1 => if b then tru g ρ st1 else .ok false st1 := by
  unfold tru andE
  cases h : f ρ st with
  | ok d st1 =>
    simp only [bnd]
    cases q : truth st1 d with
    | none => rfl
    | some b =>
      cases b with
      | true => rfl
      | false =>
        simp only [oth, bnd, Bool.false_eq_true, if_false, q]
  | exc => rfl
  | stuck => rfl
theorem tru_or (f g : Env → Store → Res D) (ρ : Env) (st : Store) : tru (orE f g) ρ st = bnd (tru f ρ st) fun b st1 => if b then .ok true st1 else tru g ρ st1 := by
  unfold tru orE
  cases h : f ρ st with
  | ok d st1 =>
    simp only [bnd]
    cases q : truth st1 d with
    | none => rfl
    | some b =>
      cases b with
      | false => rfl
      | true =>
        simp only [oth, bnd, if_true, q]
  | exc => rfl
  | stuck => rfl
theorem t_and {a b : Expr} {rest : List Expr} {pos : Pos} {f g : Env → Store → Res D} (ha : PT X a (TBl I xh W (tru f))) (hb : PW X (.BoolOp .And (b :: rest) pos) (TBl I xh W (tru g))) : PW X (.BoolOp .And (a :: b :: rest) pos) (TBl I xh W (tru (andE f g))) :=
  weakW (pw_and ha hb) fun σ H Q ⟨m, ρ, st, hs, he, hp⟩ => by
    rw [tru_and] at hp
    refine TR.bind (R2 := rEq) (g := fun ρ b st1 => if b then tru g ρ st1 else .ok false st1) (Q := Q) ⟨m, ρ, st, hs, he, hp⟩ fun v H1 d m1 ρ st1 s1 e1 r1 p1 => ?_
    cases r1
    cases v with
    | true => exact ⟨m1, ρ, st1, s1, e1, p1⟩
    | false => exact PostR.here (a := false) p1 s1 rfl
theorem t_or {a b : Expr} {rest : List Expr} {pos : Pos} {f g : Env → Store → Res D} (ha : PT X a (TBl I xh W (tru f))) (hb : PW X (.BoolOp .Or (b :: rest) pos) (TBl I xh W (tru g))) : PW X (.BoolOp .Or (a :: b :: rest) pos) (TBl I xh W (tru (orE f g))) :=
  weakW (pw_or ha hb) fun σ H Q ⟨m, ρ, st, hs, he, hp⟩ => by
    rw [tru_or] at hp
    refine TR.bind (R2 := rEq) (g := fun ρ b st1 => if b then .ok true st1 else tru g ρ st1) (Q := Q) ⟨m, ρ, st, hs, he, hp⟩ fun v H1 d m1 ρ st1 s1 e1 r1 p1 => ?_
    cases r1
    cases v with
    | false => exact ⟨m1, ρ, st1, s1, e1, p1⟩
    | true => exact PostR.here (a := true) p1 s1 rfl
theorem e_ite {c a b : Expr} {pos : Pos} {t f g : Env → Store → Res D} (hc : PT X c (TBl I xh W (tru t))) (ha : PE X a (TD I xh W f)) (hb : PE X b (TD I xh W g)) :
    PE X (.IfExp c a b pos) (TD I xh W fun ρ st => bnd (tru t ρ st) fun r st1 => if r then f ρ st1 else g ρ st1) :=
  weakE (pe_ifExp hc ha hb) fun σ H Q h => TR.bind h fun v H1 d m1 ρ st1 s1 e1 r1 p1 => by
    cases r1
    cases v with
    | true => exact ⟨m1, ρ, st1, s1, e1, p1⟩
    | false => exact ⟨m1, ρ, st1, s1, e1, p1⟩
end
end PF

set_option Elab.async false
set_option linter.all false
set_option maxRecDepth 100000
/-! Data: ==, !=, in. -/
namespace PF
open PySem PySem.Spec PyProof.Rows L2

mutual
def pyW (q : Nat → List PyData) : D → PyData
  | .non => .none
  | .bl b => .bool b
  | .int i => .int i
  | .str s => .str ⟨s.toArray⟩
  | .tup ds => .tuple (pysW q ds)
  | .loc n => .list (q n)
  | .rol _ => .none
  | .fn _ => .none
  | .lam _ => .none
def pysW (q : Nat → List PyData) : List D → List PyData
  | [] => []
  | d :: ds => pyW q d :: pysW q ds
end
def pyF (st : Store) : Nat → D → PyData
  | 0 => pyW fun _ => []
  | k + 1 => pyW fun n => match listAt st n with
    | some ds => pysW (fun n => match pyF st k (.loc n) with
      | .list xs => xs
      | _ => []) ds
    | none => []

section
variable {I : Info} {xh : XH} {W : WX} {X : Cx} {m : AH} {H : Hp}
mutual
theorem dp_W {p : Nat → Bool} {q : Nat → List PyData} (hq : ∀ n a, p n = true → m[n]? = some a → Dp I.K H (.ref a) (.list (q n))) : ∀ {d : D} {v : V}, dataW p d = true → RepD I m H d v → Dp I.K H v (pyW q d)
  | _, _, _, .non => by simp only [pyW]; exact .non
  | _, _, _, .bl b => by simp only [pyW]; exact .bl b
  | _, _, _, .int i => by simp only [pyW]; exact .int i
  | _, _, _, .str s => by simp only [pyW]; exact .str _
  | _, _, h, .tup h1 r => by
    simp only [pyW]
    simp only [dataW] at h
    exact .tup h1 (dps_W hq h r)
  | _, _, h, .loc h1 => by
    simp only [pyW]
    simp only [dataW] at h
    exact hq _ _ h h1
  | _, _, h, .rol _ _ => by simp [dataW] at h
  | _, _, h, .fn _ => by simp [dataW] at h
  | _, _, h, .lam _ _ _ _ => by simp [dataW] at h
theorem dps_W {p : Nat → Bool} {q : Nat → List PyData} (hq : ∀ n a, p n = true → m[n]? = some a → Dp I.K H (.ref a) (.list (q n))) : ∀ {ds : List D} {vs : List V}, datasW p ds = true → RepDs I m H ds vs → DpAll I.K H vs (pysW q ds)
  | _, _, _, .nil => by simp only [pysW]; exact .nil
  | _, _, h, .cons h1 r => by
    simp only [pysW]
    simp only [datasW, Bool.and_eq_true] at h
    exact .cons (dp_W hq h.1 h1) (dps_W hq h.2 r)
end
theorem dataF_loc {st : Store} {k n : Nat} (h : dataF st k (.loc n) = true) : ∃ k' ds, k = k' + 1 ∧ listAt st n = some ds ∧ datasW (fun n => dataF st k' (.loc n)) ds = true := by
  cases k with
  | zero => simp [dataF, dataW] at h
  | succ k =>
    simp only [dataF, dataW] at h
    cases e : listAt st n with
    | none => rw [e] at h; cases h
    | some ds => rw [e] at h; exact ⟨k, ds, rfl, rfl, h⟩
def lstF (st : Store) (k n : Nat) : List PyData := match pyF st k (.loc n) with
  | .list xs => xs
  | _ => []
theorem pyF_loc (st : Store) (k n : Nat) : pyF st k (.loc n) = .list (lstF st k n) := by
  unfold lstF
  cases k with
  | zero => simp [pyF, pyW]
  | succ k => simp only [pyF, pyW]
theorem lstF_succ (st : Store) (k n : Nat) : lstF st (k + 1) n = match listAt st n with
    | some ds => pysW (lstF st k) ds
    | none => [] := by
  unfold lstF
  simp only [pyF, pyW]
theorem pyF_eq (st : Store) : ∀ (k : Nat) (d : D), pyF st k d = pyW (lstF st k) d := by
  intro k d
  cases k with
  | zero =>
    have e : lstF st 0 = fun _ => [] := by funext n; simp [lstF, pyF, pyW]
    rw [e]
    rfl
  | succ k =>
    have e : lstF st (k + 1) = fun n => match listAt st n with
      | some ds => pysW (lstF st k) ds
      | none => [] := by funext n; exact lstF_succ st k n
    rw [e]
    rfl
theorem dataF_eq (st : Store) (k : Nat) (d : D) : dataF st k d = dataW (fun n => dataF st k (.loc n)) d := by
  cases k with
  | zero =>
    have e : (fun n => dataF st 0 (.loc n)) = fun _ => false := by funext n; simp [dataF, dataW]
    rw [e]
    rfl
  | succ k =>
    have e : (fun n => dataF st (k + 1) (.loc n)) = fun n => match listAt st n with
      | some ds => datasW (fun n => dataF st k (.loc n)) ds
      | none => false := by funext n; simp only [dataF, dataW] <;> rfl
    rw [e]
    rfl
theorem dp_loc {st : Store} (hs : RepSt I m H st) : ∀ (k n : Nat) (a : Addr), dataF st k (.loc n) = true → m[n]? = some a → Dp I.K H (.ref a) (.list (lstF st k n))
  | 0, n, a, h, _ => by simp [dataF, dataW] at h
  | k + 1, n, a, h, ha => by
    obtain ⟨k', ds, e, h1, h2⟩ := dataF_loc h
    cases e
    obtain ⟨vs, h3, h4⟩ := hs.ob n a ds ha (listAt_some h1)
    rw [lstF_succ, h1]
    exact .lst (SqL.of h3) (dps_W (fun n a hp hm => dp_loc hs k n a hp hm) h2 h4)
theorem dp_F {st : Store} (hs : RepSt I m H st) {k : Nat} {d : D} {v : V} (h : dataF st k d = true) (r : RepD I m H d v) : Dp I.K H v (pyF st k d) := by
  rw [dataF_eq] at h
  rw [pyF_eq]
  exact dp_W (fun n a hp hm => dp_loc hs k n a hp hm) h r

/-! equality -/
theorem str_beq (x y : List Nat) : ((⟨x.toArray⟩ : Str) == ⟨y.toArray⟩) = (x == y) := by
  rw [Bool.eq_iff_iff]
  simp
mutual
theorem eqv_W {p : Nat → Bool} {q : Nat → List PyData} {r : Nat → Nat → Bool} (hr : ∀ n k, p n = true → p k = true → PyData.eqvAll (q n) (q k) = r n k) : ∀ (a b : D), dataW p a = true → dataW p b = true → PyData.eqv (pyW q a) (pyW q b) = eqW r a b
  | .non, b, _, hb => by cases b <;> simp_all [dataW, pyW, PyData.eqv, eqW]
  | .bl x, b, _, hb => by cases b <;> simp_all [dataW, pyW, PyData.eqv, eqW]
  | .int i, b, _, hb => by cases b <;> simp_all [dataW, pyW, PyData.eqv, eqW]
  | .str s, b, _, hb => by
    cases b with
    | str t => simp only [pyW, PyData.eqv, eqW]; exact str_beq s t
    | _ => simp_all [dataW, pyW, PyData.eqv, eqW]
  | .tup xs, b, ha, hb => by
    cases b with
    | tup ys =>
      simp only [pyW, PyData.eqv, eqW]
      simp only [dataW] at ha hb
      exact eqvs_W hr xs ys ha hb
    | _ => simp_all [dataW, pyW, PyData.eqv, eqW]
  | .loc n, b, ha, hb => by
    cases b with
    | loc k =>
      simp only [pyW, PyData.eqv, eqW]
      simp only [dataW] at ha hb
      exact hr n k ha hb
    | _ => simp_all [dataW, pyW, PyData.eqv, eqW]
  | .rol _, _, h, _ => by simp [dataW] at h
  | .fn _, _, h, _ => by simp [dataW] at h
  | .lam _, _, h, _ => by simp [dataW] at h
theorem eqvs_W {p : Nat → Bool} {q : Nat → List PyData} {r : Nat → Nat → Bool} (hr : ∀ n k, p n = true → p k = true → PyData.eqvAll (q n) (q k) = r n k) : ∀ (xs ys : List D), datasW p xs = true → datasW p ys = true → PyData.eqvAll (pysW q xs) (pysW q ys) = eqsW r xs ys
  | [], [], _, _ => by simp [pysW, PyData.eqvAll, eqsW]
  | [], _ :: _, _, _ => by simp [pysW, PyData.eqvAll, eqsW]
  | _ :: _, [], _, _ => by simp [pysW, PyData.eqvAll, eqsW]
  | x :: xs, y :: ys, ha, hb => by
    simp only [datasW, Bool.and_eq_true] at ha hb
    simp only [pysW, PyData.eqvAll, eqsW]
    rw [eqv_W hr x y ha.1 hb.1, eqvs_W hr xs ys ha.2 hb.2]
end
theorem eqF_eq (st : Store) (k : Nat) (a b : D) : eqF st k a b = eqW (fun n m => eqF st k (.loc n) (.loc m)) a b := by
  cases k with
  | zero =>
    have e : (fun n m => eqF st 0 (.loc n) (.loc m)) = fun _ _ => false := by funext n m; simp [eqF, eqW]
    rw [e]
    rfl
  | succ k =>
    have e : (fun n m => eqF st (k + 1) (.loc n) (.loc m)) = fun n m => match listAt st n, listAt st m with
      | some xs, some ys => eqsW (fun n m => eqF st k (.loc n) (.loc m)) xs ys
      | _, _ => false := by funext n m; simp only [eqF, eqW] <;> rfl
    rw [e]
    rfl
theorem eqv_loc (st : Store) : ∀ (k n l : Nat), dataF st k (.loc n) = true → dataF st k (.loc l) = true → PyData.eqvAll (lstF st k n) (lstF st k l) = eqF st k (.loc n) (.loc l)
  | 0, n, l, h, _ => by simp [dataF, dataW] at h
  | k + 1, n, l, h, h' => by
    obtain ⟨k1, xs, e1, h1, h2⟩ := dataF_loc h
    cases e1
    obtain ⟨k2, ys, e2, h3, h4⟩ := dataF_loc h'
    cases e2
    rw [lstF_succ, lstF_succ, h1, h3]
    have e : eqF st (k + 1) (.loc n) (.loc l) = eqsW (fun n m => eqF st k (.loc n) (.loc m)) xs ys := by
      simp only [eqF, eqW, h1, h3]
    rw [e]
    exact eqvs_W (p := fun n => dataF st k (.loc n)) (fun n l a b => eqv_loc st k n l a b) xs ys h2 h4
theorem eqv_F {st : Store} {k : Nat} {a b : D} (ha : dataF st k a = true) (hb : dataF st k b = true) : PyData.eqv (pyF st k a) (pyF st k b) = eqF st k a b := by
  rw [dataF_eq] at ha hb
  rw [pyF_eq, pyF_eq, eqF_eq]
  exact eqv_W (fun n l x y => eqv_loc st k n l x y) a b ha hb

/-! it can be laid; its depth -/
mutual
theorem lay_W {p : Nat → Bool} {q : Nat → List PyData} (hq : ∀ n, p n = true → PyData.canLayAll0 (q n) = true) : ∀ (d : D), dataW p d = true → (pyW q d).canLay0 = true
  | .non, _ => by simp [pyW, PyData.canLay0]
  | .bl _, _ => by simp [pyW, PyData.canLay0]
  | .int _, _ => by simp [pyW, PyData.canLay0]
  | .str s, h => by
    simp only [dataW, Bool.and_eq_true, decide_eq_true_eq, List.all_eq_true] at h
    simp only [pyW, PyData.canLay0, PyData.strOk]
    rw [List.all_toArray, List.all_eq_true]
    intro c hc
    have := h.2 c hc
    exact decide_eq_true (by omega)
  | .tup xs, h => by
    simp only [dataW] at h
    simp only [pyW, PyData.canLay0]
    exact lays_W hq xs h
  | .loc n, h => by
    simp only [dataW] at h
    simp only [pyW, PyData.canLay0]
    exact hq n h
  | .rol _, h => by simp [dataW] at h
  | .fn _, h => by simp [dataW] at h
  | .lam _, h => by simp [dataW] at h
theorem lays_W {p : Nat → Bool} {q : Nat → List PyData} (hq : ∀ n, p n = true → PyData.canLayAll0 (q n) = true) : ∀ (ds : List D), datasW p ds = true → PyData.canLayAll0 (pysW q ds) = true
  | [], _ => by simp [pysW, PyData.canLayAll0]
  | d :: ds, h => by
    simp only [datasW, Bool.and_eq_true] at h
    simp only [pysW, PyData.canLayAll0, Bool.and_eq_true]
    exact ⟨lay_W hq d h.1, lays_W hq ds h.2⟩
end
theorem lay_loc (st : Store) : ∀ (k n : Nat), dataF st k (.loc n) = true → PyData.canLayAll0 (lstF st k n) = true
  | 0, n, h => by simp [dataF, dataW] at h
  | k + 1, n, h => by
    obtain ⟨k1, xs, e1, h1, h2⟩ := dataF_loc h
    cases e1
    rw [lstF_succ, h1]
    exact lays_W (fun n a => lay_loc st k n a) xs h2
theorem lay_F {st : Store} {k : Nat} {d : D} (h : dataF st k d = true) : (pyF st k d).canLay0 = true := by
  rw [dataF_eq] at h
  rw [pyF_eq]
  exact lay_W (fun n a => lay_loc st k n a) d h
mutual
theorem dep_W {q : Nat → List PyData} {r : Nat → Nat} (hr : ∀ n, PyData.depthAll (q n) + 1 ≤ r n + 1) : ∀ (d : D), (pyW q d).depth ≤ depW (fun n => r n + 1) d
  | .non => by simp [pyW, PyData.depth]
  | .bl _ => by simp [pyW, PyData.depth]
  | .int _ => by simp [pyW, PyData.depth]
  | .str _ => by simp [pyW, PyData.depth]
  | .tup xs => by
    simp only [pyW, PyData.depth, depW]
    exact Nat.succ_le_succ (deps_W hr xs)
  | .loc n => by
    simp only [pyW, PyData.depth, depW]
    exact hr n
  | .rol _ => by simp [pyW, PyData.depth]
  | .fn _ => by simp [pyW, PyData.depth]
  | .lam _ => by simp [pyW, PyData.depth]
theorem deps_W {q : Nat → List PyData} {r : Nat → Nat} (hr : ∀ n, PyData.depthAll (q n) + 1 ≤ r n + 1) : ∀ (ds : List D), PyData.depthAll (pysW q ds) ≤ depsW (fun n => r n + 1) ds
  | [] => by simp [pysW, PyData.depthAll]
  | d :: ds => by
    simp only [pysW, PyData.depthAll, depsW]
    have h1 := dep_W hr d
    have h2 := deps_W hr ds
    omega
end
theorem depF_loc (st : Store) (k n : Nat) : depF st (k + 1) (.loc n) = (match listAt st n with
    | some ds => depsW (fun n => depF st k (.loc n)) ds
    | none => 0) + 1 := by
  simp only [depF, depW]
  cases listAt st n <;> rfl
theorem depF_eq (st : Store) (k : Nat) (d : D) : depF st k d = depW (fun n => (depF st k (.loc n) - 1) + 1) d := by
  cases k with
  | zero =>
    have e : (fun n => (depF st 0 (.loc n) - 1) + 1) = fun _ => 1 := by funext n; simp [depF, depW]
    rw [e]
    rfl
  | succ k =>
    have e : (fun n => (depF st (k + 1) (.loc n) - 1) + 1) = fun n => match listAt st n with
      | some ds => depsW (fun n => depF st k (.loc n)) ds + 1
      | none => 1 := by
      funext n
      rw [depF_loc]
      cases listAt st n <;> simp
    rw [e]
    rfl
theorem depF_loc_pos (st : Store) (k n : Nat) : depF st k (.loc n) - 1 + 1 = depF st k (.loc n) := by
  cases k with
  | zero => simp [depF, depW]
  | succ k => rw [depF_loc]; simp
theorem dep_loc (st : Store) : ∀ (k n : Nat), PyData.depthAll (lstF st k n) + 1 ≤ (depF st k (.loc n) - 1) + 1
  | 0, n => by simp [lstF, pyF, pyW, PyData.depthAll]
  | k + 1, n => by
    rw [lstF_succ, depF_loc]
    cases e : listAt st n with
    | none => simp [PyData.depthAll]
    | some ds =>
      have h := deps_W (q := lstF st k) (r := fun n => depF st k (.loc n) - 1) (dep_loc st k) ds
      have e2 : (fun n => (depF st k (.loc n) - 1) + 1) = fun n => depF st k (.loc n) := by funext n; exact depF_loc_pos st k n
      rw [e2] at h
      simpa using h
theorem dep_F (st : Store) (k : Nat) (d : D) : (pyF st k d).depth ≤ depF st k d := by
  rw [pyF_eq, depF_eq]
  exact dep_W (dep_loc st k) d

/-- == and != of values -/
def rEqM (K : PySem.W.Frag) : R2 := fun x y H Q => ∃ d e, Dp K H x d ∧ Dp K H y e ∧ d.canLay0 = true ∧ e.canLay0 = true ∧ min d.depth e.depth ≤ 64 ∧ Q (.bl (PyData.eqv d e)) H
def rNeM (K : PySem.W.Frag) : R2 := fun x y H Q => ∃ d e, Dp K H x d ∧ Dp K H y e ∧ d.canLay0 = true ∧ e.canLay0 = true ∧ min d.depth e.depth ≤ 64 ∧ Q (.bl (!PyData.eqv d e)) H
theorem op_eqM (hu : X.A.units + 64 < cLine) : OpR X (compareOp .Eq) (rEqM X.K) := by
  intro pins s σ H x y v u Q I rx ry h
  obtain ⟨d, e, hd, he, sd, se, hm, q⟩ := h
  obtain ⟨as, r1⟩ := Dp.reads I d x v hd rx
  obtain ⟨bs, r2⟩ := Dp.reads I e y u he ry
  exact SeqAt.compareEq_reads r1 r2 sd se (by omega) ⟨.bl _, H, I, rfl, q⟩
theorem op_neM (hu : X.A.units + 64 < cLine) : OpR X (compareOp .NotEq) (rNeM X.K) := by
  intro pins s σ H x y v u Q I rx ry h
  obtain ⟨d, e, hd, he, sd, se, hm, q⟩ := h
  obtain ⟨as, r1⟩ := Dp.reads I d x v hd rx
  obtain ⟨bs, r2⟩ := Dp.reads I e y u he ry
  exact SeqAt.compareNe_reads r1 r2 sd se (by omega) ⟨.bl _, H, I, rfl, q⟩
theorem eqD_some {st : Store} {a b : D} {r : Bool} (h : eqD st a b = some r) : dataF st LV a = true ∧ dataF st LV b = true ∧ min (depF st LV a) (depF st LV b) ≤ 64 ∧ r = eqF st LV a b := by
  unfold eqD at h
  split at h
  · rename_i z
    simp only [Bool.and_eq_true, decide_eq_true_eq] at z
    exact ⟨z.1.1, z.1.2, z.2, (Option.some.inj h).symm⟩
  · cases h
/-- a comparison by values -/
abbrev CmpS (I : Info) (X : Cx) (op : CmpOp) (o : Cmp) : Prop := OpS I X (compareOp op) fun st d e => oth ((cmpD st o d e).map .bl) st
theorem PostR.othmap {I : Info} {m : AH} {H : Hp} {o : Option Bool} {st : Store} {Q : VK} {E : XK} (h : PostR I (rD I) m H (PF.oth (o.map D.bl) st) Q E) (s : RepSt I m H st) : ∃ b, o = some b ∧ Q (.bl b) H := by
  cases o with
  | none => exact h.elim
  | some b => exact ⟨b, rfl, PostR.here (a := D.bl b) h s (.bl b)⟩
theorem cs_eq (hK : X.K = I.K) (hu : X.A.units + 64 < cLine) : CmpS I X .Eq .eq := by
  refine ⟨_, op_eqM hu, fun {m H st d e x y Q E} hs hd he hp => ?_⟩
  obtain ⟨b, hb, q⟩ := hp.othmap hs
  obtain ⟨h1, h2, h3, rfl⟩ := eqD_some (show eqD st d e = some b from hb)
  rw [hK]
  refine ⟨_, _, dp_F hs h1 hd, dp_F hs h2 he, lay_F h1, lay_F h2, ?_, by rw [eqv_F h1 h2]; exact q⟩
  have a1 := dep_F st LV d
  have a2 := dep_F st LV e
  omega
theorem cs_ne (hK : X.K = I.K) (hu : X.A.units + 64 < cLine) : CmpS I X .NotEq .ne := by
  refine ⟨_, op_neM hu, fun {m H st d e x y Q E} hs hd he hp => ?_⟩
  obtain ⟨b, hb, q⟩ := hp.othmap hs
  have hb : (eqD st d e).map (!·) = some b := hb
  cases e2 : eqD st d e with
  | none => rw [e2] at hb; cases hb
  | some c =>
    rw [e2] at hb
    cases hb
    obtain ⟨h1, h2, h3, rfl⟩ := eqD_some e2
    rw [hK]
    refine ⟨_, _, dp_F hs h1 hd, dp_F hs h2 he, lay_F h1, lay_F h2, ?_, by rw [eqv_F h1 h2]; exact q⟩
    have a1 := dep_F st LV d
    have a2 := dep_F st LV e
    omega
/-! ### order of ints, is, in -/
theorem cs_lt0 : ∀ {d e : D} {st : Store} {b : Bool}, cmpD st .lt d e = some b → (∃ i j, d = .int i ∧ e = .int j ∧ b = decide (i < j)) ∨ ∃ x y, d = .tup x ∧ e = .tup y ∧ ltD (.tup x) (.tup y) = some b := by
  intro d e st b h
  cases d with
  | int i => cases e with
    | int j => exact .inl ⟨i, j, rfl, rfl, (Option.some.inj h).symm⟩
    | _ => cases h
  | tup x => cases e with
    | tup y => exact .inr ⟨x, y, rfl, rfl, h⟩
    | _ => cases h
  | _ => first | (cases h; done) | (cases e <;> cases h)
theorem cs_le : CmpS I X .LtE .le := by
  refine ⟨_, op_le, fun {m H st d e x y Q E} hs hd he hp => ?_⟩
  obtain ⟨b, hb, q⟩ := hp.othmap hs
  cases hd with
  | int i => cases he with
    | int j => cases hb; exact ⟨i, j, rfl, rfl, q⟩
    | _ => cases hb
  | _ => first | (cases hb; done) | (cases he <;> cases hb)
theorem cs_gt : CmpS I X .Gt .gt := by
  refine ⟨_, op_gt, fun {m H st d e x y Q E} hs hd he hp => ?_⟩
  obtain ⟨b, hb, q⟩ := hp.othmap hs
  cases hd with
  | int i => cases he with
    | int j => cases hb; exact ⟨i, j, rfl, rfl, q⟩
    | _ => cases hb
  | _ => first | (cases hb; done) | (cases he <;> cases hb)
theorem cs_ge : CmpS I X .GtE .ge := by
  refine ⟨_, op_ge, fun {m H st d e x y Q E} hs hd he hp => ?_⟩
  obtain ⟨b, hb, q⟩ := hp.othmap hs
  cases hd with
  | int i => cases he with
    | int j => cases hb; exact ⟨i, j, rfl, rfl, q⟩
    | _ => cases hb
  | _ => first | (cases hb; done) | (cases he <;> cases hb)
theorem is_two {d e : D} {b : Bool} (h : isD d e = some b) {m : AH} {H : Hp} {x y : V} (hd : RepD I m H d x) (he : RepD I m H e y) : (y = .non ∧ b = decide (x = .non)) ∨ ∃ p q, x = .bl p ∧ y = .bl q ∧ b = decide (p = q) := by
  cases hd <;> cases he <;> first
    | (cases h; done)
    | (cases h; exact .inl ⟨rfl, by simp⟩)
    | (cases h; exact .inr ⟨_, _, rfl, rfl, by rw [Bool.beq_eq_decide_eq]⟩)
theorem cs_is : CmpS I X .Is .is := by
  refine ⟨_, op_isN.or op_is_bl, fun {m H st d e x y Q E} hs hd he hp => ?_⟩
  obtain ⟨b, hb, q⟩ := hp.othmap hs
  have hb : isD d e = some b := by cases d <;> exact hb
  rcases is_two hb hd he with ⟨h1, h2⟩ | ⟨p, r, h1, h2, h3⟩
  · exact .inl ⟨h1, by rw [← h2]; exact q⟩
  · exact .inr ⟨p, r, h1, h2, by rw [← h3]; exact q⟩
theorem cs_isnot : CmpS I X .IsNot .isnot := by
  refine ⟨_, op_notN.or op_isnot_bl, fun {m H st d e x y Q E} hs hd he hp => ?_⟩
  obtain ⟨b, hb, q⟩ := hp.othmap hs
  have hb : (isD d e).map (!·) = some b := by cases d <;> exact hb
  cases e2 : isD d e with
  | none => rw [e2] at hb; cases hb
  | some c =>
    rw [e2] at hb
    cases hb
    rcases is_two e2 hd he with ⟨h1, h2⟩ | ⟨p, r, h1, h2, h3⟩
    · exact .inl ⟨h1, by rw [← h2]; exact q⟩
    · exact .inr ⟨p, r, h1, h2, by rw [← h3]; exact q⟩
theorem flat_rep {d : D} {v : V} (r : RepD I m H d v) (h : flatD d = true) : flatV v = true := by
  cases r <;> first | rfl | cases h
theorem flats_rep : ∀ {ds : List D} {vs : List V}, RepDs I m H ds vs → ds.all flatD = true → vs.all flatV = true
  | _, _, .nil, _ => rfl
  | _, _, .cons h r, e => by
    simp only [List.all_cons, Bool.and_eq_true] at e ⊢
    exact ⟨flat_rep h e.1, flats_rep r e.2⟩
theorem eqP_rep {d e : D} {v w : V} (r : RepD I m H d v) (s : RepD I m H e w) (h : flatD d = true) (h' : flatD e = true) : eqV v w = eqP d e := by
  cases r <;> first
    | (cases h; done)
    | (cases s <;> first
        | (cases h'; done)
        | rfl
        | (simp only [eqV, eqP, eqW]; exact str_beq _ _))
theorem any_rep {x : D} {v : V} (rx : RepD I m H x v) (fx : flatD x = true) : ∀ {ds : List D} {vs : List V}, RepDs I m H ds vs → ds.all flatD = true → (vs.any fun y => eqV y v) = ds.any fun d => eqP d x
  | _, _, .nil, _ => rfl
  | _, _, .cons h r, e => by
    simp only [List.all_cons, Bool.and_eq_true] at e
    simp only [List.any_cons]
    rw [any_rep rx fx r e.2, eqP_rep h rx e.1 fx]
theorem any_pys {q : Nat → List PyData} {p : PyData → Bool} {r : D → Bool} {P : Nat → Bool} (h : ∀ d, dataW P d = true → p (pyW q d) = r d) : ∀ ds : List D, datasW P ds = true → (pysW q ds).any p = ds.any r
  | [], _ => by simp [pysW]
  | d :: ds, e => by
    simp only [datasW, Bool.and_eq_true] at e
    simp only [pysW, List.any_cons]
    rw [h d e.1, any_pys h ds e.2]
theorem inT_some {x : D} {ds : List D} {b : Bool} (h : inT x ds = some b) : flatD x = true ∧ ds.all flatD = true ∧ b = ds.any fun d => eqP d x := by
  unfold inT at h
  split at h
  · rename_i z
    simp only [Bool.and_eq_true] at z
    exact ⟨z.1, z.2, (Option.some.inj h).symm⟩
  · cases h
theorem inL_some {st : Store} {x : D} {n : Nat} {b : Bool} (h : inL st x n = some b) : ∃ ds, listAt st n = some ds ∧ ((flatD x = true ∧ ds.all flatD = true ∧ b = ds.any fun d => eqP d x) ∨
    (dataF st 6 (.loc n) = true ∧ dataF st 5 x = true ∧ depF st 6 (.loc n) ≤ 64 ∧ depF st 5 x ≤ 64 ∧ b = ds.any fun d => eqF st 5 d x)) := by
  unfold inL at h
  cases e : listAt st n with
  | none => rw [e] at h; cases h
  | some ds =>
    rw [e] at h
    dsimp only at h
    refine ⟨ds, rfl, ?_⟩
    split at h
    · rename_i z
      simp only [Bool.and_eq_true] at z
      exact .inl ⟨z.1, z.2, (Option.some.inj h).symm⟩
    · split at h
      · rename_i z
        simp only [Bool.and_eq_true, decide_eq_true_eq] at z
        exact .inr ⟨z.1.1.1, z.1.1.2, z.1.2, z.2, (Option.some.inj h).symm⟩
      · cases h
/-- in, not in -/
theorem in_two {st : Store} {x : D} {e : D} {b : Bool} (hs : RepSt I m H st) {v w : V} (hx : RepD I m H x v) (he : RepD I m H e w) (h : cmpD st .inn x e = some b) :
    (∃ p xs, w = .ref p ∧ (SqL I.K H p xs ∨ SqT I.K H p xs) ∧ flatV v = true ∧ xs.all flatV = true ∧ b = inV v xs) ∨
    ∃ d ds, Dp I.K H v d ∧ Dp I.K H w (.list ds) ∧ SeqAt.shaped d = true ∧ SeqAt.shaped (.list ds) = true ∧ b = ds.any fun z => PyData.eqv z d := by
  cases he with
  | @tup a vs ds h1 r =>
    have h : inT x ds = some b := by cases x <;> exact h
    obtain ⟨f1, f2, rfl⟩ := inT_some h
    exact .inl ⟨a, vs, rfl, .inr h1, flat_rep hx f1, flats_rep r f2, (any_rep hx f1 r f2).symm⟩
  | @loc n a h1 =>
    have h : inL st x n = some b := by cases x <;> exact h
    obtain ⟨ds, e, z⟩ := inL_some h
    obtain ⟨vs, h3, h4⟩ := hs.ob n a ds h1 (listAt_some e)
    rcases z with ⟨f1, f2, rfl⟩ | ⟨f1, f2, f3, f4, rfl⟩
    · exact .inl ⟨a, vs, rfl, .inl (SqL.of h3), flat_rep hx f1, flats_rep h4 f2, (any_rep hx f1 h4 f2).symm⟩
    · refine .inr ⟨pyF st 5 x, lstF st 6 n, dp_F hs f2 hx, dp_loc hs 6 n a f1 h1, ?_, ?_, ?_⟩
      · unfold SeqAt.shaped
        rw [lay_F f2, Bool.true_and]
        exact decide_eq_true (Nat.le_trans (dep_F st 5 x) f4)
      · unfold SeqAt.shaped
        have e1 : (PyData.list (lstF st 6 n)).canLay0 = true := by
          simp only [PyData.canLay0]
          exact lay_loc st 6 n f1
        rw [e1, Bool.true_and]
        refine decide_eq_true ?_
        simp only [PyData.depth]
        have := dep_loc st 6 n
        omega
      · obtain ⟨k', ds', e1, e2, e3⟩ := dataF_loc f1
        cases e1
        rw [e] at e2
        cases e2
        rw [lstF_succ, e]
        refine (any_pys (P := fun n => dataF st 5 (.loc n)) (fun d hd => ?_) ds e3).symm
        rw [← pyF_eq]
        exact eqv_F (by rw [dataF_eq]; exact hd) f2
  | _ => first | (cases h; done) | (cases x <;> cases h)
theorem cs_in (hK : X.K = I.K) (hu : X.A.units + 65 < cLine) : CmpS I X .In .inn := by
  refine ⟨_, op_in_seq.or (op_inD hu), fun {m H st d e x y Q E} hs hd he hp => ?_⟩
  obtain ⟨b, hb, q⟩ := hp.othmap hs
  rw [hK]
  rcases in_two hs hd he hb with ⟨p, xs, h1, h2, h3, h4, rfl⟩ | ⟨z, zs, h1, h2, h3, h4, rfl⟩
  · exact .inl ⟨p, xs, h1, h2, h3, h4, q⟩
  · exact .inr ⟨z, zs, h1, h2, h3, h4, q⟩
theorem cs_notin (hK : X.K = I.K) (hu : X.A.units + 65 < cLine) : CmpS I X .NotIn .notin := by
  refine ⟨_, op_notIn_seq.or (op_notInD hu), fun {m H st d e x y Q E} hs hd he hp => ?_⟩
  obtain ⟨b, hb, q⟩ := hp.othmap hs
  have hb2 : ∃ c, cmpD st .inn d e = some c ∧ b = !c := by
    cases he with
    | @tup a vs ds h1 r =>
      have h : (inT d ds).map (!·) = some b := by cases d <;> exact hb
      cases e2 : inT d ds with
      | none => rw [e2] at h; cases h
      | some c => rw [e2] at h; exact ⟨c, by cases d <;> exact e2, (Option.some.inj h).symm⟩
    | @loc n a h1 =>
      have h : (inL st d n).map (!·) = some b := by cases d <;> exact hb
      cases e2 : inL st d n with
      | none => rw [e2] at h; cases h
      | some c => rw [e2] at h; exact ⟨c, by cases d <;> exact e2, (Option.some.inj h).symm⟩
    | _ => first | (cases hb; done) | (cases d <;> cases hb)
  obtain ⟨c, hc, rfl⟩ := hb2
  rw [hK]
  rcases in_two hs hd he hc with ⟨p, xs, h1, h2, h3, h4, rfl⟩ | ⟨z, zs, h1, h2, h3, h4, rfl⟩
  · exact .inl ⟨p, xs, h1, h2, h3, h4, q⟩
  · exact .inr ⟨z, zs, h1, h2, h3, h4, q⟩
end
end PF

set_option Elab.async false
set_option linter.all false
set_option maxRecDepth 100000
/-! Comparisons as expressions and tests; subscripts and slices; built-ins; isinstance. -/
namespace PF
open PySem PySem.Spec PyProof.Rows L2
section
variable {I : Info} {xh : XH} {W : WX} {X : Cx}

def cmpE (o : Cmp) (f g : Env → Store → Res D) : Env → Store → Res D := fun ρ st => bnd (f ρ st) fun x st1 => bnd (g ρ st1) fun y st2 => oth ((cmpD st2 o x y).map .bl) st2
/-- its value is a bool -/
def IsB (f : Env → Store → Res D) : Prop := ∀ ρ st d st1, f ρ st = .ok d st1 → ∃ b, d = .bl b
theorem bnd_ok {α β : Type} {r : Res α} {f : α → Store → Res β} {b : β} {st : Store} (h : bnd r f = .ok b st) : ∃ a st1, r = .ok a st1 ∧ f a st1 = .ok b st := by
  cases r with
  | ok a st1 => exact ⟨a, st1, rfl, h⟩
  | exc => cases h
  | stuck => cases h
theorem oth_bl {o : Option Bool} {st st1 : Store} {d : D} (h : oth (o.map D.bl) st = .ok d st1) : ∃ b, d = .bl b := by
  cases o with
  | none => cases h
  | some b =>
    cases h
    exact ⟨b, rfl⟩
theorem isB_cmp (o : Cmp) (f g : Env → Store → Res D) : IsB (cmpE o f g) := fun ρ st d st1 h => by
  obtain ⟨a, s1, h1, h2⟩ := bnd_ok h
  obtain ⟨b, s2, h3, h4⟩ := bnd_ok h2
  exact oth_bl h4
theorem tru_test {f : Env → Store → Res D} (hb : IsB f) {σ : L2.St} {H : Hp} {Q : Bool → Hp → Prop} (h : TBl I xh W (tru f) σ H Q) : TD I xh W f σ H fun x H' => ∃ k, x = .bl k ∧ Q k H' := by
  obtain ⟨m, ρ, st, hs, he, hp⟩ := h
  refine ⟨m, ρ, st, hs, he, ?_⟩
  unfold tru at hp
  cases e : f ρ st with
  | ok d st1 =>
    rw [e] at hp
    obtain ⟨b, rfl⟩ := hb ρ st d st1 e
    intro m1 H1 v g s r
    cases r
    exact ⟨b, rfl, hp m1 H1 b g s rfl⟩
  | exc x st1 =>
    rw [e] at hp
    exact hp
  | stuck =>
    rw [e] at hp
    exact hp.elim
theorem e_cmp {op : CmpOp} {o : Cmp} {a b : Expr} {pos : Pos} {f g : Env → Store → Res D} (h : CmpS I X op o) (ha : PE X a (TD I xh W f)) (hb : PE X b (TD I xh W g)) (hm : behindInMarks op b = false) : PE X (.Compare a [op] [b] pos) (TD I xh W (cmpE o f g)) := by
  obtain ⟨r, hr, hq⟩ := h
  exact weakE (pe_cmpR hr ha hb hm) fun σ H Q h => TR.bind h fun v H1 d m1 ρ st1 s1 e1 r1 p1 => ⟨m1, ρ, st1, s1, e1, p1.bind.imp fun w H2 ⟨d2, m2, st2, M⟩ => hq M.st (r1.mono M.gr s1.mok) M.rep M.post⟩
theorem t_cmp {op : CmpOp} {o : Cmp} {a b : Expr} {pos : Pos} {f g : Env → Store → Res D} (h : CmpS I X op o) (ha : PE X a (TD I xh W f)) (hb : PE X b (TD I xh W g)) (hm : behindInMarks op b = false) : PT X (.Compare a [op] [b] pos) (TBl I xh W (tru (cmpE o f g))) := by
  obtain ⟨r, hr, hq⟩ := h
  refine weakT (pt_cmpR hr ha hb hm) fun σ H Q h => ?_
  exact TR.bind (tru_test (isB_cmp o f g) h) fun v H1 d m1 ρ st1 s1 e1 r1 p1 => ⟨m1, ρ, st1, s1, e1, p1.bind.imp fun w H2 ⟨d2, m2, st2, M⟩ => hq M.st (r1.mono M.gr s1.mok) M.rep M.post⟩
def chainE (o p : Cmp) (f g h : Env → Store → Res D) : Env → Store → Res D := fun ρ st => bnd (f ρ st) fun x st1 => bnd (g ρ st1) fun y st2 => bnd (oth (cmpD st2 o x y) st2) fun r st3 =>
      if r then bnd (h ρ st3) fun z st4 => oth ((cmpD st4 p y z).map .bl) st4 else .ok (.bl false) st3
theorem isB_chain (o p : Cmp) (f g h : Env → Store → Res D) : IsB (chainE o p f g h) := fun ρ st d st1 e => by
  obtain ⟨a, s1, h1, h2⟩ := bnd_ok e
  obtain ⟨b, s2, h3, h4⟩ := bnd_ok h2
  obtain ⟨c, s3, h5, h6⟩ := bnd_ok h4
  cases c with
  | true =>
    obtain ⟨z, s4, h7, h8⟩ := bnd_ok h6
    exact oth_bl h8
  | false =>
    cases h6
    exact ⟨false, rfl⟩
theorem chain_read {o p : Cmp} {op op' : CmpOp} {f g h : Env → Store → Res D} {r r' : R2}
    (hq : ∀ {m : AH} {H : Hp} {st : Store} {d e : D} {x y : V} {Q : VK} {E : XK}, RepSt I m H st → RepD I m H d x → RepD I m H e y → PostR I (rD I) m H (oth ((cmpD st o d e).map .bl) st) Q E → r x y H Q)
    (hq' : ∀ {m : AH} {H : Hp} {st : Store} {d e : D} {x y : V} {Q : VK} {E : XK}, RepSt I m H st → RepD I m H d x → RepD I m H e y → PostR I (rD I) m H (oth ((cmpD st p d e).map .bl) st) Q E → r' x y H Q)
    {σ : L2.St} {H : Hp} {Q : VK} (hw : TD I xh W (chainE o p f g h) σ H Q) : tChain r r' (TD I xh W f) (TD I xh W g) (TD I xh W h) σ H Q := by
  refine TR.bind hw fun v H1 d m1 ρ st1 s1 e1 r1 p1 => ⟨m1, ρ, st1, s1, e1, p1.bind.imp fun w H2 ⟨d2, m2, st2, M⟩ => ?_⟩
  have p2 := M.post
  cases q : cmpD st2 o d d2 with
  | none =>
    rw [q] at p2
    exact p2.elim
  | some k =>
    rw [q] at p2
    refine hq (E := fun _ _ _ => False) M.st (r1.mono M.gr s1.mok) M.rep ?_
    rw [q]
    intro m3 H3 z g3 s3 r3
    cases r3
    refine ⟨k, rfl, ?_⟩
    cases k with
    | false => exact PostR.here (a := D.bl false) (p2.mono g3) s3 (.bl false)
    | true =>
      have e3 := (e1.mono M.gr s1.mok).mono g3 M.st.mok
      refine ⟨m3, ρ, st2, s3, e3, (PostR.mono (r := bnd (h ρ st2) fun z st4 => oth ((cmpD st4 p d2 z).map D.bl) st4) p2 g3).bind.imp fun w' H4 ⟨d4, m4, st4, M4⟩ => ?_⟩
      exact hq' M4.st ((M.rep.mono g3 M.st.mok).mono M4.gr s3.mok) M4.rep M4.post
theorem e_chain {op op' : CmpOp} {o p : Cmp} {a b c : Expr} {pos : Pos} {f g h : Env → Store → Res D} (h1 : CmpS I X op o) (h2 : CmpS I X op' p) (ha : PE X a (TD I xh W f)) (hb : PE X b (TD I xh W g)) (hc : PE X c (TD I xh W h)) (hm : lastMarks [op, op'] [b, c] = false) :
    PE X (.Compare a [op, op'] [b, c] pos) (TD I xh W (chainE o p f g h)) := by
  obtain ⟨r, hr, hq⟩ := h1
  obtain ⟨r', hr', hq'⟩ := h2
  exact weakE (pe_chain hr hr' ha hb hc hm) fun σ H Q hw => chain_read (op := op) (op' := op') hq hq' hw
theorem t_chain {op op' : CmpOp} {o p : Cmp} {a b c : Expr} {pos : Pos} {f g h : Env → Store → Res D} (h1 : CmpS I X op o) (h2 : CmpS I X op' p) (ha : PE X a (TD I xh W f)) (hb : PE X b (TD I xh W g)) (hc : PE X c (TD I xh W h)) (hm : lastMarks [op, op'] [b, c] = false) :
    PT X (.Compare a [op, op'] [b, c] pos) (TBl I xh W (tru (chainE o p f g h))) := by
  obtain ⟨r, hr, hq⟩ := h1
  obtain ⟨r', hr', hq'⟩ := h2
  exact weakT (pt_chain hr hr' ha hb hc hm) fun σ H Q hw => chain_read (op := op) (op' := op') hq hq' (tru_test (isB_chain o p f g h) hw)

/-! ### subscripts -/
theorem ixN_eq (n : Nat) (i : Int) : PF.ixN n i = L2.ixN n i := rfl
theorem atI_rep {m : AH} {H : Hp} {ds : List D} {vs : List V} {i : Int} {d : D} (r : RepDs I m H ds vs) (h : PF.atI ds i = some d) : ∃ v, L2.atI vs i = some v ∧ RepD I m H d v := by
  unfold PF.atI at h
  unfold L2.atI
  rw [← r.length, ← ixN_eq]
  cases e : PF.ixN ds.length i with
  | none => rw [e] at h; cases h
  | some j =>
    rw [e] at h
    exact r.get h
theorem plainIx {b : Expr} (h : ∀ a c d p, b ≠ .Slice a c d p) : PlainIx b := by
  intro o i
  cases b with
  | Slice a c d p => exact absurd rfl (h a c d p)
  | _ => rfl
def idxE (f g : Env → Store → Res D) : Env → Store → Res D := fun ρ st => bnd (f ρ st) fun x st1 => bnd (g ρ st1) fun y st2 => oth (idxD st2 x y) st2
theorem idx_read (hK : X.K = I.K) {m : AH} {H : Hp} {st : Store} {d e : D} {x y : V} {Q : VK} {E : XK} (hs : RepSt I m H st) (hd : RepD I m H d x) (he : RepD I m H e y) (hp : PostR I (rD I) m H (oth (idxD st d e) st) Q E) : rIx X.K x y H Q := by
  obtain ⟨z, hz, p⟩ := hp.oth
  rw [hK]
  cases hd with
  | @tup a vs ds h r => cases he with
    | int i =>
      obtain ⟨v, h1, h2⟩ := atI_rep r (show PF.atI ds i = some z from hz)
      exact .inr (.inl ⟨a, vs, i, v, rfl, rfl, h, h1, p.here hs h2⟩)
    | _ => cases hz
  | @loc n a h => cases he with
    | int i =>
      simp only [idxD] at hz
      cases e2 : listAt st n with
      | none => rw [e2] at hz; cases hz
      | some ds =>
        rw [e2] at hz
        obtain ⟨vs, h3, h4⟩ := hs.ob n a ds h (listAt_some e2)
        obtain ⟨v, h1, h2⟩ := atI_rep h4 (show PF.atI ds i = some z from hz)
        exact .inl ⟨a, vs, i, v, rfl, rfl, SqL.of h3, h1, p.here hs h2⟩
    | _ => cases hz
  | @rol a vs ds h r => cases he with
    | int i =>
      obtain ⟨v, h1, h2⟩ := atI_rep r (show PF.atI ds i = some z from hz)
      exact .inl ⟨a, vs, i, v, rfl, rfl, h.sq, h1, p.here hs h2⟩
    | _ => cases hz
  | str s => cases he with
    | int i =>
      simp only [idxD] at hz
      split at hz
      · rename_i hl
        cases e2 : PF.atI s i with
        | none => rw [e2] at hz; cases hz
        | some c =>
          rw [e2] at hz
          cases hz
          refine .inr (.inr ⟨_, i, c, rfl, rfl, by rw [str_len, ← lim_size]; exact hl, ?_, p.here hs (.str [c])⟩)
          unfold PF.atI at e2
          unfold L2.atI
          rw [← ixN_eq]
          exact e2
      · cases hz
    | _ => cases hz
  | _ => first | (cases hz; done) | (cases he <;> cases hz)
theorem e_idx (hK : X.K = I.K) {a b : Expr} {pos : Pos} {f g : Env → Store → Res D} (ha : PE X a (TD I xh W f)) (hb : PE X b (TD I xh W g)) (hs : ∀ x c d p, b ≠ .Slice x c d p) : PE X (.Subscript a b pos) (TD I xh W (idxE f g)) :=
  weakE (pe_ix ix_seq ha hb (plainIx hs)) fun σ H Q h => TR.bind h fun v H1 d m1 ρ st1 s1 e1 r1 p1 => ⟨m1, ρ, st1, s1, e1, p1.bind.imp fun w H2 ⟨d2, m2, st2, M⟩ => idx_read hK M.st (r1.mono M.gr s1.mok) M.rep M.post⟩

/-! ### slices -/
theorem o_none : PO X none (TOi I xh W fun _ st => .ok none st) := ⟨fun pins s σ H Q i ⟨m, ρ, st, hs, he, hp⟩ => po_none.run pins s σ H Q i (hp.here hs rfl)⟩
theorem o_some {e : Expr} {f : Env → Store → Res D} (h : PE X e (TD I xh W f)) : PO X (some e) (TOi I xh W fun ρ st => bnd (f ρ st) fun d st1 => oth ((intOf d).map some) st1) :=
  ⟨fun pins s σ H Q i hq => (po_some h).run pins s σ H Q i (TR.bind hq fun v H1 d m1 ρ st1 s1 e1 r1 p1 => by
    obtain ⟨z, hz, p⟩ := p1.oth
    cases r1 with
    | int j =>
      cases hz
      exact ⟨j, rfl, p.here s1 rfl⟩
    | _ => cases hz)⟩
theorem sIx_eq (n d : Nat) (o : Option Int) : PF.sIx n d o = HT.sIx n d o := by cases o <;> rfl
theorem cut_rep {m : AH} {H : Hp} {ds : List D} {vs : List V} (r : RepDs I m H ds vs) (lo hi : Option Int) : RepDs I m H (cut ds lo hi) (cutV vs lo hi) := by
  unfold cut cutV
  rw [← r.length, sIx_eq, sIx_eq]
  exact (r.drop _).take _
theorem cut_whole {α : Type} (ds : List α) (lo hi : Option Int) (h : PF.sIx ds.length 0 lo = 0 ∧ PF.sIx ds.length ds.length hi = ds.length) : cut ds lo hi = ds := by
  unfold cut
  rw [h.1, h.2]
  simp
def slE (f : Env → Store → Res D) (g h : Env → Store → Res (Option Int)) : Env → Store → Res D := fun ρ st => bnd (f ρ st) fun x st1 => bnd (g ρ st1) fun l st2 => bnd (h ρ st2) fun u st3 => slD st3 l u x
theorem e_sl (hK : X.K = I.K) {a : Expr} {lo hi : Option Expr} {p2 pos : Pos} {f : Env → Store → Res D} {g h : Env → Store → Res (Option Int)} (ha : PE X a (TD I xh W f)) (hl : PO X lo (TOi I xh W g)) (hu : PO X hi (TOi I xh W h)) :
    PE X (.Subscript a (.Slice lo hi none p2) pos) (TD I xh W (slE f g h)) :=
  weakE (pe_slice (sl_tupA.or sl_list) ha hl hu) fun σ H Q hw => TR.bind hw fun v H1 d m1 ρ st1 s1 e1 r1 p1 => ⟨m1, ρ, st1, s1, e1, p1.bind.imp fun l H2 ⟨d2, m2, st2, M⟩ =>
    ⟨m2, ρ, st2, M.st, e1.mono M.gr s1.mok, M.post.bind.imp fun u H3 ⟨d3, m3, st3, N⟩ => by
      have e2 := M.rep
      have e3 := N.rep
      cases e2
      cases e3
      have r3 := (r1.mono M.gr s1.mok).mono N.gr M.st.mok
      have p3 := N.post
      rw [hK]
      cases r3 with
      | @tup a vs ds h1 r =>
        have p3 : PostR I (rD I) m3 H3 (.ok (.tup (cut ds l u)) st3) Q _ := p3
        refine .inl ⟨a, vs, rfl, h1, fun w => ?_, fun _ p hp => ?_⟩
        · rw [← r.length, ← sIx_eq, ← sIx_eq] at w
          rw [cut_whole ds l u w] at p3
          exact p3.here N.st (.tup h1 r)
        · exact p3 m3 _ _ (Gr.new hp) (N.st.new hp) (.tup (SqT.of upd_same) ((cut_rep r l u).mono (Gr.new hp) N.st.mok))
      | @loc n a h1 =>
        simp only [slD] at p3
        cases e4 : listAt st3 n with
        | none =>
          rw [e4] at p3
          exact p3.elim
        | some ds =>
          rw [e4] at p3
          obtain ⟨vs, h3, h4⟩ := N.st.ob n a ds h1 (listAt_some e4)
          exact .inr ⟨a, vs, rfl, SqL.of h3, post_alloc p3 N.st (cut_rep h4 l u)⟩
      | _ => exact p3.elim⟩⟩

/-! ### built-in calls -/
theorem star_eq {e : Expr} {es : List Expr} {env : PySem.Env} (h : ∀ x p, e ≠ .Starred x p) : starEach (e :: es) env = (false, eval e env) :: starEach es env := by
  cases e with
  | Starred x p => exact absurd rfl (h x p)
  | _ => rfl
def noStar : Expr → Bool
  | .Starred _ _ => false
  | _ => true
theorem noStar_ne {e : Expr} (h : noStar e = true) : ∀ x p, e ≠ .Starred x p := fun x p z => by subst z; cases h
theorem star_any {pos : Pos} {env : PySem.Env} : ∀ {es : List Expr}, es.all noStar = true → (backTo pos (starEach es env)).any (·.1) = false
  | [], _ => rfl
  | e :: es, h => by
    simp only [List.all_cons, Bool.and_eq_true] at h
    rw [star_eq (noStar_ne h.1)]
    have ih := star_any (pos := pos) (env := env) h.2
    unfold backTo at ih ⊢
    simpa using ih
/-- a built-in called with values -/
def CalS (I : Info) (X : Cx) (f : Value) (sem : Store → List D → Res D) : Prop :=
  ∃ r : List V → Hp → VK → Prop, CallR X f r ∧ ∀ {m : AH} {H : Hp} {st : Store} {ds : List D} {vs : List V} {Q : VK} {E : XK}, RepSt I m H st → RepDs I m H ds vs → PostR I (rD I) m H (sem st ds) Q E → r vs H Q
theorem e_callB {x : Str} {id : String} {p pos : Pos} {e : Expr} {es : List Expr} {g : Env → Store → Res (List D)} {sem : Store → List D → Res D} (h : CalS I X (.builtin id) sem) (hg : Gl X x) (hm : X.mg x = none) (hv : bootBuiltins x = some (.builtin id))
    (ha : PA X (e :: es) (TDs I xh W g)) (hn : x ≠ "__name__") (hdb : (x == ("__debug__" : Str)) = false) (hst : (e :: es).all noStar = true) : PE X (.Call (.Name x p) (e :: es) [] pos) (TD I xh W fun ρ st => bnd (g ρ st) fun ds st1 => sem st1 ds) := by
  obtain ⟨r, hr, hq⟩ := h
  simp only [List.all_cons, Bool.and_eq_true] at hst
  exact weakE (pe_callB hr hg hm hv ha hn hdb (star_eq (noStar_ne hst.1)) (star_any hst.2)) fun σ H Q h => TR.bind h fun vs H1 ds m1 ρ st1 s1 e1 r1 p1 => hq s1 r1 p1
theorem e_callT {x : Str} {T : String} {p pos : Pos} {e : Expr} {es : List Expr} {g : Env → Store → Res (List D)} {sem : Store → List D → Res D} (h : CalS I X (.type T) sem) (hg : Gl X x) (hm : X.mg x = none) (hv : bootBuiltins x = some (.type T))
    (ha : PA X (e :: es) (TDs I xh W g)) (hn : x ≠ "__name__") (hdb : (x == ("__debug__" : Str)) = false) (hst : (e :: es).all noStar = true) : PE X (.Call (.Name x p) (e :: es) [] pos) (TD I xh W fun ρ st => bnd (g ρ st) fun ds st1 => sem st1 ds) := by
  obtain ⟨r, hr, hq⟩ := h
  simp only [List.all_cons, Bool.and_eq_true] at hst
  exact weakE (pe_callTy hr hg hm hv ha hn hdb (star_eq (noStar_ne hst.1)) (star_any hst.2)) fun σ H Q h => TR.bind h fun vs H1 ds m1 ρ st1 s1 e1 r1 p1 => hq s1 r1 p1
theorem seq_rep {m : AH} {H : Hp} {st : Store} {d : D} {v : V} {ds : List D} (hs : RepSt I m H st) (r : RepD I m H d v) (h : seqOf st d = some ds) : ∃ p ys, v = .ref p ∧ RepDs I m H ds ys ∧ ((SqL I.K H p ys ∧ ∀ es, d ≠ .tup es) ∨ (SqT I.K H p ys ∧ d = .tup ds)) := by
  cases r with
  | @tup a vs es h1 r =>
    cases h
    exact ⟨a, vs, rfl, r, .inr ⟨h1, rfl⟩⟩
  | @loc n a h1 =>
    obtain ⟨vs, h3, h4⟩ := hs.ob n a ds h1 (listAt_some h)
    exact ⟨a, vs, rfl, h4, .inl ⟨SqL.of h3, fun _ z => by cases z⟩⟩
  | @rol a vs es h1 r =>
    cases h
    exact ⟨a, vs, rfl, r, .inl ⟨h1.sq, fun _ z => by cases z⟩⟩
  | _ => cases h
theorem p1_of {m : AH} {H : Hp} {ds : List D} {vs : List V} {f : D → Res D} {Q : VK} {E : XK} (r : RepDs I m H ds vs) (h : PostR I (rD I) m H (p1 ds f) Q E) : ∃ d v, vs = [v] ∧ RepD I m H d v ∧ PostR I (rD I) m H (f d) Q E := by
  cases r with
  | nil => exact h.elim
  | cons a b =>
    cases b with
    | nil => exact ⟨_, _, rfl, a, h⟩
    | cons _ _ => exact False.elim h
theorem p2_of {m : AH} {H : Hp} {ds : List D} {vs : List V} {f : D → D → Res D} {Q : VK} {E : XK} (r : RepDs I m H ds vs) (h : PostR I (rD I) m H (p2 ds f) Q E) : ∃ d e v w, vs = [v, w] ∧ RepD I m H d v ∧ RepD I m H e w ∧ PostR I (rD I) m H (f d e) Q E := by
  cases r with
  | nil => exact h.elim
  | cons a b =>
    cases b with
    | nil => exact False.elim h
    | cons c b =>
      cases b with
      | nil => exact ⟨_, _, _, _, rfl, a, c, h⟩
      | cons _ _ => exact False.elim h
theorem PostR.othm {α : Type} {I : Info} {m : AH} {H : Hp} {o : Option α} {g : α → D} {st : Store} {Q : VK} {E : XK} (h : PostR I (rD I) m H (PF.oth (o.map g) st) Q E) : ∃ b, o = some b ∧ PostR I (rD I) m H (.ok (g b) st) Q E := by
  cases o with
  | none => exact h.elim
  | some b => exact ⟨b, rfl, h⟩
theorem cl_len (hK : X.K = I.K) : CalS I X (.builtin "len") fun st => primD st .len := by
  refine ⟨_, call_len_seq.or call_len_str, fun {m H st ds vs Q E} hs r hp => ?_⟩
  rw [hK]
  obtain ⟨d, v, rfl, r1, p⟩ := p1_of r hp
  obtain ⟨n, hn, p⟩ := PostR.othm p
  cases r1 with
  | str s =>
    simp only [lenOf] at hn
    split at hn
    · rename_i z
      cases hn
      refine .inr ⟨_, rfl, by rw [str_len, ← lim_size]; exact z, ?_⟩
      rw [str_len]
      exact p.here hs (.int _)
    · cases hn
  | @tup a ys es h1 r2 =>
    cases hn
    exact .inl ⟨a, ys, rfl, .inr h1, by rw [← r2.length]; exact p.here hs (.int _)⟩
  | @rol a ys es h1 r2 =>
    cases hn
    exact .inl ⟨a, ys, rfl, .inl h1.sq, by rw [← r2.length]; exact p.here hs (.int _)⟩
  | @loc k a h1 =>
    simp only [lenOf] at hn
    cases e : listAt st k with
    | none => rw [e] at hn; cases hn
    | some es =>
      rw [e] at hn
      cases hn
      obtain ⟨ys, h3, h4⟩ := hs.ob k a es h1 (listAt_some e)
      exact .inl ⟨a, ys, rfl, .inl (SqL.of h3), by rw [← h4.length]; exact p.here hs (.int _)⟩
  | _ => cases hn
theorem cl_abs : CalS I X (.builtin "abs") fun st => primD st .abs := by
  refine ⟨_, call_abs, fun {m H st ds vs Q E} hs r hp => ?_⟩
  obtain ⟨d, v, rfl, r1, p⟩ := p1_of r hp
  obtain ⟨n, hn, p⟩ := PostR.othm p
  cases r1 with
  | int i => cases hn; exact ⟨_, rfl, p.here hs (.int _)⟩
  | _ => cases hn
theorem cl_int : CalS I X (.type "int") fun st => primD st .int := by
  refine ⟨_, call_int1, fun {m H st ds vs Q E} hs r hp => ?_⟩
  obtain ⟨d, v, rfl, r1, p⟩ := p1_of r hp
  obtain ⟨n, hn, p⟩ := PostR.oth p
  cases r1 with
  | int i => cases hn; exact .inl ⟨i, rfl, p.here hs (.int _)⟩
  | bl b => cases hn; exact .inr ⟨b, rfl, p.here hs (.int _)⟩
  | _ => cases hn
theorem cl_max2 (hc : X.calm = true) : CalS I X (.builtin "max") fun st => primD st .max2 := by
  refine ⟨_, call_max2 hc, fun {m H st ds vs Q E} hs r hp => ?_⟩
  obtain ⟨d, e, v, w, rfl, r1, r2, p⟩ := p2_of r hp
  cases r1 with
  | int i => cases r2 with
    | int j => exact ⟨i, j, rfl, p.here hs (.int _)⟩
    | _ => exact p.elim
  | _ => first | exact p.elim | (cases r2 <;> exact p.elim)
theorem cl_min2 (hc : X.calm = true) : CalS I X (.builtin "min") fun st => primD st .min2 := by
  refine ⟨_, call_min2 hc, fun {m H st ds vs Q E} hs r hp => ?_⟩
  obtain ⟨d, e, v, w, rfl, r1, r2, p⟩ := p2_of r hp
  cases r1 with
  | int i => cases r2 with
    | int j => exact ⟨i, j, rfl, p.here hs (.int _)⟩
    | _ => exact p.elim
  | _ => first | exact p.elim | (cases r2 <;> exact p.elim)
theorem ints_rep {m : AH} {H : Hp} : ∀ {ds : List D} {vs : List V} {ns : List Int}, RepDs I m H ds vs → intsOf ds = some ns → vs = ns.map V.int
  | _, _, _, .nil, h => by cases h; rfl
  | _, _, _, .cons h r, e => by
    cases h with
    | @int i =>
      simp only [intsOf] at e
      rename_i ds vs
      cases q : intsOf ds with
      | none => rw [q] at e; cases e
      | some ms =>
        rw [q] at e
        cases e
        rw [ints_rep r q]
        rfl
    | _ => cases e
theorem bls_rep {m : AH} {H : Hp} : ∀ {ds : List D} {vs : List V} {ns : List Bool}, RepDs I m H ds vs → boolsOf ds = some ns → vs = ns.map V.bl
  | _, _, _, .nil, h => by cases h; rfl
  | _, _, _, .cons h r, e => by
    cases h with
    | @bl i =>
      simp only [boolsOf] at e
      rename_i ds vs
      cases q : boolsOf ds with
      | none => rw [q] at e; cases e
      | some ms =>
        rw [q] at e
        cases e
        rw [bls_rep r q]
        rfl
    | _ => cases e
theorem strs_rep {m : AH} {H : Hp} : ∀ {ds : List D} {vs : List V} {ns : List (List Nat)}, RepDs I m H ds vs → strsOf ds = some ns → vs = ns.map fun s => V.str ⟨s.toArray⟩
  | _, _, _, .nil, h => by cases h; rfl
  | _, _, _, .cons h r, e => by
    cases h with
    | @str i =>
      simp only [strsOf] at e
      rename_i ds vs
      cases q : strsOf ds with
      | none => rw [q] at e; cases e
      | some ms =>
        rw [q] at e
        cases e
        rw [strs_rep r q]
        rfl
    | _ => cases e
theorem intLs_rep {m : AH} {H : Hp} {st : Store} {d : D} {v : V} {ns : List Int} (hs : RepSt I m H st) (r : RepD I m H d v) (h : intLs st d = some ns) : ∃ a, v = .ref a ∧ SqL I.K H a (ns.map V.int) := by
  cases r with
  | @loc n a h1 =>
    simp only [intLs] at h
    cases e : listAt st n with
    | none => rw [e] at h; cases h
    | some ds =>
      rw [e] at h
      obtain ⟨vs, h3, h4⟩ := hs.ob n a ds h1 (listAt_some e)
      exact ⟨a, rfl, by rw [← ints_rep h4 h]; exact SqL.of h3⟩
  | _ => cases h
theorem blLs_rep {m : AH} {H : Hp} {st : Store} {d : D} {v : V} {ns : List Bool} (hs : RepSt I m H st) (r : RepD I m H d v) (h : blLs st d = some ns) : ∃ a, v = .ref a ∧ SqL I.K H a (ns.map V.bl) := by
  cases r with
  | @loc n a h1 =>
    simp only [blLs] at h
    cases e : listAt st n with
    | none => rw [e] at h; cases h
    | some ds =>
      rw [e] at h
      obtain ⟨vs, h3, h4⟩ := hs.ob n a ds h1 (listAt_some e)
      exact ⟨a, rfl, by rw [← bls_rep h4 h]; exact SqL.of h3⟩
  | _ => cases h
theorem strLs_rep {m : AH} {H : Hp} {st : Store} {d : D} {v : V} {ns : List (List Nat)} (hs : RepSt I m H st) (r : RepD I m H d v) (h : strLs st d = some ns) : ∃ a, v = .ref a ∧ H a = some (.lst (ns.map fun s => V.str ⟨s.toArray⟩)) := by
  cases r with
  | @loc n a h1 =>
    simp only [strLs] at h
    cases e : listAt st n with
    | none => rw [e] at h; cases h
    | some ds =>
      rw [e] at h
      obtain ⟨vs, h3, h4⟩ := hs.ob n a ds h1 (listAt_some e)
      exact ⟨a, rfl, by rw [← strs_rep h4 h]; exact h3⟩
  | _ => cases h
theorem maxI_ge : ∀ (ns : List Int) (a : Int), a ∈ ns → a ≤ maxI ns
  | [], _, h => by cases h
  | [b], a, h => by simp at h; subst h; exact Int.le_refl _
  | b :: c :: r, a, h => by
    have e : maxI (b :: c :: r) = max b (maxI (c :: r)) := rfl
    rw [e]
    rcases List.mem_cons.mp h with rfl | h
    · omega
    · have := maxI_ge (c :: r) a h
      omega
theorem maxI_mem : ∀ (b : Int) (r : List Int), maxI (b :: r) ∈ b :: r
  | b, [] => by simp [maxI]
  | b, c :: r => by
    have e : maxI (b :: c :: r) = max b (maxI (c :: r)) := rfl
    rw [e]
    have ih := maxI_mem c r
    rcases Int.le_total b (maxI (c :: r)) with h | h
    · rw [Int.max_eq_right h]
      exact List.mem_cons_of_mem _ ih
    · rw [Int.max_eq_left h]
      exact List.mem_cons_self
theorem minI_le : ∀ (ns : List Int) (a : Int), a ∈ ns → minI ns ≤ a
  | [], _, h => by cases h
  | [b], a, h => by simp at h; subst h; exact Int.le_refl _
  | b :: c :: r, a, h => by
    have e : minI (b :: c :: r) = min b (minI (c :: r)) := rfl
    rw [e]
    rcases List.mem_cons.mp h with rfl | h
    · omega
    · have := minI_le (c :: r) a h
      omega
theorem minI_mem : ∀ (b : Int) (r : List Int), minI (b :: r) ∈ b :: r
  | b, [] => by simp [minI]
  | b, c :: r => by
    have e : minI (b :: c :: r) = min b (minI (c :: r)) := rfl
    rw [e]
    have ih := minI_mem c r
    rcases Int.le_total b (minI (c :: r)) with h | h
    · rw [Int.min_eq_left h]
      exact List.mem_cons_self
    · rw [Int.min_eq_right h]
      exact List.mem_cons_of_mem _ ih
theorem some1_of {α : Type} {o : Option (List α)} {l : List α} (h : some1 o = some l) : o = some l ∧ ∃ a r, l = a :: r := by
  cases o with
  | none => cases h
  | some x => cases x with
    | nil => cases h
    | cons a r => cases h; exact ⟨rfl, a, r, rfl⟩
theorem cl_maxL (hK : X.K = I.K) (hc : X.calm = true) : CalS I X (.builtin "max") fun st => primD st .maxL := by
  refine ⟨_, cr_max hc, fun {m H st ds vs Q E} hs r hp => ?_⟩
  obtain ⟨d, v, rfl, r1, p⟩ := p1_of r hp
  obtain ⟨ns, hn, p⟩ := PostR.othm p
  obtain ⟨hn, b, t, rfl⟩ := some1_of hn
  obtain ⟨a, rfl, h⟩ := intLs_rep hs r1 hn
  rw [hK]
  refine ⟨a, _, rfl, h, by simp, fun k hk hm => ?_⟩
  have e : k = maxI (b :: t) := Int.le_antisymm (maxI_ge _ _ hk) (hm _ (maxI_mem b t))
  subst e
  exact p.here hs (.int _)
theorem cl_minL (hK : X.K = I.K) (hc : X.calm = true) : CalS I X (.builtin "min") fun st => primD st .minL := by
  refine ⟨_, cr_min hc, fun {m H st ds vs Q E} hs r hp => ?_⟩
  obtain ⟨d, v, rfl, r1, p⟩ := p1_of r hp
  obtain ⟨ns, hn, p⟩ := PostR.othm p
  obtain ⟨hn, b, t, rfl⟩ := some1_of hn
  obtain ⟨a, rfl, h⟩ := intLs_rep hs r1 hn
  rw [hK]
  refine ⟨a, _, rfl, h, by simp, fun k hk hm => ?_⟩
  have e : k = minI (b :: t) := Int.le_antisymm (hm _ (minI_mem b t)) (minI_le _ _ hk)
  subst e
  exact p.here hs (.int _)
theorem cl_sumL (hK : X.K = I.K) (hc : X.calm = true) : CalS I X (.builtin "sum") fun st => primD st .sumL := by
  refine ⟨_, cr_sum hc, fun {m H st ds vs Q E} hs r hp => ?_⟩
  obtain ⟨d, v, rfl, r1, p⟩ := p1_of r hp
  obtain ⟨ns, hn, p⟩ := PostR.othm p
  obtain ⟨a, rfl, h⟩ := intLs_rep hs r1 hn
  rw [hK]
  exact ⟨a, ns, rfl, h, p.here hs (.int _)⟩
theorem cl_all (hK : X.K = I.K) (hc : X.calm = true) : CalS I X (.builtin "all") fun st => primD st .all := by
  refine ⟨_, cr_all hc, fun {m H st ds vs Q E} hs r hp => ?_⟩
  obtain ⟨d, v, rfl, r1, p⟩ := p1_of r hp
  obtain ⟨ns, hn, p⟩ := PostR.othm p
  obtain ⟨a, rfl, h⟩ := blLs_rep hs r1 hn
  rw [hK]
  exact ⟨a, ns, rfl, h, p.here hs (.bl _)⟩
theorem cl_any (hK : X.K = I.K) (hc : X.calm = true) : CalS I X (.builtin "any") fun st => primD st .any := by
  refine ⟨_, cr_any hc, fun {m H st ds vs Q E} hs r hp => ?_⟩
  obtain ⟨d, v, rfl, r1, p⟩ := p1_of r hp
  obtain ⟨ns, hn, p⟩ := PostR.othm p
  obtain ⟨a, rfl, h⟩ := blLs_rep hs r1 hn
  rw [hK]
  exact ⟨a, ns, rfl, h, p.here hs (.bl _)⟩
theorem cl_tuple (hK : X.K = I.K) : CalS I X (.type "tuple") fun st => primD st .tuple := by
  refine ⟨_, call_tuple_of, fun {m H st ds vs Q E} hs r hp => ?_⟩
  obtain ⟨d, v, rfl, r1, p⟩ := p1_of r hp
  obtain ⟨es, hn, p⟩ := PostR.othm p
  obtain ⟨a, ys, rfl, r2, q⟩ := seq_rep hs r1 hn
  rw [hK]
  refine ⟨a, ys, rfl, ?_⟩
  rcases q with ⟨q, _⟩ | ⟨q, e⟩
  · exact .inl ⟨q, fun l hl => p m _ _ (Gr.new hl) (hs.new hl) (.tup (SqT.of upd_same) (r2.mono (Gr.new hl) hs.mok))⟩
  · exact .inr ⟨q, p.here hs (.tup q r2)⟩
theorem cl_list (hK : X.K = I.K) : CalS I X (.type "list") fun st => primD st .list := by
  refine ⟨_, call_list_of, fun {m H st ds vs Q E} hs r hp => ?_⟩
  obtain ⟨d, v, rfl, r1, p⟩ := p1_of r hp
  have p : PostR I (rD I) m H (listOfD st d) Q E := p
  unfold listOfD at p
  cases e : seqOf st d with
  | none => rw [e] at p; exact p.elim
  | some es =>
    rw [e] at p
    obtain ⟨a, ys, rfl, r2, q⟩ := seq_rep hs r1 e
    rw [hK]
    exact ⟨a, ys, rfl, q.imp (fun z => z.1) fun z => z.1, post_alloc p hs r2⟩
end
end PF

set_option Elab.async false
set_option linter.all false
set_option maxRecDepth 100000
/-! Methods, isinstance, targets, what is walked. -/
namespace PF
open PySem PySem.Spec PyProof.Rows L2
section
variable {I : Info} {xh : XH} {W : WX} {X : Cx}

/-! ### the store changes -/
theorem RepSt.put {m : AH} {H : Hp} {st : Store} {n : Nat} {a : Addr} {ds : List D} {vs : List V} (s : RepSt I m H st) (ha : m[n]? = some a) (r : RepDs I m H ds vs) : Gr m H m (upd H a (.lst vs)) ∧ RepSt I m (upd H a (.lst vs)) (st.set n (.lst ds)) := by
  have hm : a ∈ m := List.mem_of_getElem? ha
  obtain ⟨xs, hx⟩ := s.mok a hm
  have g : Gr m H m (upd H a (.lst vs)) := by
    refine ⟨⟨[], by simp, by simp⟩, fun b o h nb _ => ?_, fun b o h => ?_⟩
    · rw [upd_ne (fun z => nb (by rw [z]; exact hm))]
      exact h
    · by_cases e : b = a
      · rw [e, upd_same]; exact ⟨_, rfl⟩
      · rw [upd_ne e]; exact ⟨o, h⟩
  refine ⟨g, by simp [s.len], s.nd, fun k b es h1 h2 => ?_, ?_⟩
  · by_cases e : k = n
    · subst e
      rw [ha] at h1
      cases h1
      have hk : k < st.length := by rw [← s.len]; exact (List.getElem?_eq_some_iff.mp ha).1
      rw [List.getElem?_set_self hk] at h2
      cases h2
      exact ⟨vs, upd_same, r.mono g s.mok⟩
    · rw [List.getElem?_set_ne (Ne.symm e)] at h2
      obtain ⟨ws, h3, h4⟩ := s.ob k b es h1 h2
      have nb : b ≠ a := fun z => e (by
        rw [z] at h1
        obtain ⟨i1, e1⟩ := List.getElem?_eq_some_iff.mp h1
        obtain ⟨i2, e2⟩ := List.getElem?_eq_some_iff.mp ha
        exact (List.getElem_inj s.nd).mp (e1.trans e2.symm))
      exact ⟨ws, by rw [upd_ne nb]; exact h3, h4.mono g s.mok⟩
  · intro p hp
    obtain ⟨ps, t1, t2, t3⟩ := s.tabs p hp
    have np : ∀ b o, H b = some o → (∀ xs, o ≠ .lst xs) → upd H a (.lst vs) b = some o := fun b o h q => by
      rw [upd_ne (fun z => by rw [z, hx] at h; exact q xs (Option.some.inj h).symm)]
      exact h
    refine ⟨ps, np _ _ t1 (fun _ z => by cases z), t2, fun pos cv hc => ?_⟩
    obtain ⟨c, e1, e2⟩ := t3 pos cv hc
    exact ⟨c, e1, np _ _ e2 (fun _ z => by cases z)⟩

/-! ### methods -/
theorem attrBase {o : Expr} {name : Str} {env : PySem.Env} (h : ∀ f p, o ≠ .Call f [] [] p) : attributeBase o name env (eval o env) = eval o env := by
  unfold attributeBase
  cases o with
  | Call f as ks p =>
    cases as with
    | nil => cases ks with
      | nil => exact absurd rfl (h f p)
      | cons _ _ => cases f <;> rfl
    | cons _ _ => cases f <;> rfl
  | _ => rfl
def notCall0 : Expr → Bool
  | .Call _ [] [] _ => false
  | _ => true
theorem notCall0_ne {o : Expr} (h : notCall0 o = true) : ∀ f p, o ≠ .Call f [] [] p := fun f p z => by subst z; cases h
theorem PostR.recv {m : AH} {H : Hp} {o : Option D} {st : Store} {f : D → Store → Res D} {Q : VK} {E : XK} (h : PostR I (rD I) m H (bnd (PF.oth o st) f) Q E) : ∃ a, o = some a ∧ PostR I (rD I) m H (f a st) Q E := by
  cases o with
  | none => exact h.elim
  | some a => exact ⟨a, rfl, h⟩
/-- one argument -/
theorem arg1_bnd {g : Env → Store → Res D} {ρ : Env} {st : Store} {f : D → Store → Res D} : bnd (arg1 g ρ st) (fun ds st2 => p1 ds fun d => f d st2) = bnd (g ρ st) f := by
  unfold arg1
  cases g ρ st <;> rfl
abbrev methE (k : Meth) (f : Env → Store → Res D) (g : Env → Store → Res (List D)) : Env → Store → Res D := fun ρ st => bnd (f ρ st) fun x st1 => bnd (oth (recv k x) st1) fun x st1 => bnd (g ρ st1) fun ds st2 => methD st2 k x ds
theorem e_append {o e : Expr} {apos cpos : Pos} {f g : Env → Store → Res D} (ho : PE X o (TD I xh W f)) (he : PE X e (TD I xh W g)) (hb : notCall0 o = true) (hl : (apos.endLine == cpos.line) = true) (hn : noStar e = true) :
    PE X (.Call (.Attribute o "append" apos) [e] [] cpos) (TD I xh W (methE .append f (arg1 g))) := by
  have hs : starEach [e] X.env = [(false, eval e X.env)] := star_eq (noStar_ne hn)
  refine weakE (pe_bm PySem.F.plainAttrs_list PySem.F.slot_list_append PySem.F.type_list_append mt_append ho (pa_cons he pa_nil hs) (attrBase (notCall0_ne hb)) (by rw [hs]; rfl) hl hs rfl) fun σ H Q h => ?_
  refine TR.bind h fun v H1 d m1 ρ st1 s1 e1 r1 p1 => ?_
  obtain ⟨x, hx, p1⟩ := p1.recv
  cases r1 with
  | @loc n a h1 =>
    cases hx
    have p1 : PostR I (rD I) m1 H1 (bnd (arg1 g ρ st1) fun ds st2 => PF.p1 ds fun d => appendD st2 (.loc n) d) Q _ := p1
    rw [arg1_bnd (f := fun d st2 => appendD st2 (.loc n) d)] at p1
    refine ⟨?_, m1, ρ, st1, s1, e1, p1.bind.imp fun w H2 ⟨d2, m2, st2, M⟩ => ?_⟩
    · obtain ⟨xs, hx⟩ := s1.mok a (List.mem_of_getElem? h1)
      exact .inl ⟨rfl, xs, SqL.of hx⟩
    · have p2 := M.post
      simp only [appendD] at p2
      cases e4 : listAt st2 n with
      | none => rw [e4] at p2; exact p2.elim
      | some ds =>
        rw [e4] at p2
        dsimp only at p2
        split at p2
        · rename_i hz
          have h2 : m2[n]? = some a := M.gr.get h1
          obtain ⟨vs, h3, h4⟩ := M.st.ob n a ds h2 (listAt_some e4)
          obtain ⟨g2, s2⟩ := M.st.put h2 (h4.append (.cons M.rep .nil))
          exact ⟨a, vs, w, rfl, rfl, h3, by rw [← lim_size, ← h4.length]; exact hz, p2 _ _ _ g2 s2 .non⟩
        · exact p2.elim
  | _ => cases hx
theorem join_str (s : List Nat) : ∀ xs : List (List Nat), Str.join ⟨s.toArray⟩ (xs.map fun x => ⟨x.toArray⟩) = ⟨(joinS s xs).toArray⟩
  | [] => rfl
  | [a] => rfl
  | a :: b :: r => by
    have ih := join_str s (b :: r)
    show (⟨a.toArray⟩ : Str) ++ ⟨s.toArray⟩ ++ Str.join ⟨s.toArray⟩ ((b :: r).map fun x => ⟨x.toArray⟩) = _
    rw [ih, str_app, str_app]
    simp [joinS]
theorem e_join (hK : X.K = I.K) {o e : Expr} {apos cpos : Pos} {f g : Env → Store → Res D} (ho : PE X o (TD I xh W f)) (he : PE X e (TD I xh W g)) (hb : notCall0 o = true) (hl : (apos.endLine == cpos.line) = true) (hn : noStar e = true) :
    PE X (.Call (.Attribute o "join" apos) [e] [] cpos) (TD I xh W (methE .join f (arg1 g))) := by
  have hs : starEach [e] X.env = [(false, eval e X.env)] := star_eq (noStar_ne hn)
  refine weakE (pe_m1 F.slot_str_join F.type_str_join mt_join ho he hs (attrBase (notCall0_ne hb)) hl) fun σ H Q h => ?_
  refine TR.bind h fun v H1 d m1 ρ st1 s1 e1 r1 p1 => ?_
  obtain ⟨x, hx, p1⟩ := p1.recv
  cases r1 with
  | str s =>
    cases hx
    have p1 : PostR I (rD I) m1 H1 (bnd (arg1 g ρ st1) fun ds st2 => PF.p1 ds fun d => joinD st2 (.str s) d) Q _ := p1
    rw [arg1_bnd (f := fun d st2 => joinD st2 (.str s) d)] at p1
    refine ⟨⟨_, rfl⟩, m1, ρ, st1, s1, e1, p1.bind.imp fun w H2 ⟨d2, m2, st2, M⟩ => ?_⟩
    have p2 := M.post
    simp only [joinD] at p2
    cases e4 : strLs st2 d2 with
    | none => rw [e4] at p2; exact p2.elim
    | some xs =>
      rw [e4] at p2
      dsimp only at p2
      split at p2
      · rename_i hz
        obtain ⟨a, rfl, h⟩ := strLs_rep M.st M.rep e4
        have e5 : (xs.map fun s => V.str ⟨s.toArray⟩) = (xs.map fun x => (⟨x.toArray⟩ : Str)).map V.str := by simp
        rw [e5] at h
        rw [hK]
        refine ⟨_, a, xs.map fun x => ⟨x.toArray⟩, rfl, rfl, .inl (SqL.of h), ?_, ?_⟩
        · have e6 : ((xs.map fun x => (⟨x.toArray⟩ : Str)).map (·.length)) = xs.map (·.length) := by
            rw [List.map_map]
            apply List.map_congr_left
            intro x _
            exact str_len x
          rw [e6, List.length_map, str_len]
          exact hz
        · rw [show Txt.join ⟨s.toArray⟩ (xs.map fun x => (⟨x.toArray⟩ : Str)) = Str.join _ _ from TL.join_eq _ _, join_str]
          exact p2.here M.st (.str _)
      · exact p2.elim
  | _ => cases hx
/-- a written text split at a written sign; that the model splits it so is looked at -/
theorem e_split {s : List Nat} {c : Nat} {j k : Nat} {p p' apos cpos : Pos} (hl : (apos.endLine == cpos.line) = true) (hk : Txt.split ⟨s.toArray⟩ ⟨#[c]⟩ = (splitS c s).map fun x => ⟨x.toArray⟩) :
    PE X (.Call (.Attribute (.Constant (.str ⟨s.toArray⟩) j p) "split" apos) [.Constant (.str ⟨#[c]⟩) k p'] [] cpos) (TD I xh W (methE .split (fun _ st => .ok (.str s) st) (arg1 fun _ st => .ok (.str [c]) st))) := by
  refine weakE (pe_m1 F.slot_str_split F.type_str_split mt_split pe_str pe_str rfl rfl hl) fun σ H Q ⟨m, ρ, st, hs, he, hp⟩ => ?_
  have hp : PostR I (rD I) m H (splitD st (.str s) (.str [c])) Q _ := hp
  simp only [splitD] at hp
  split at hp
  · rename_i hz
    refine ⟨⟨_, rfl⟩, _, _, rfl, rfl, rfl, ?_, fun q hq => ?_⟩
    · rw [str_len, sizeLine_eq]; omega
    · rw [hk]
      have r : RepDs I m H ((splitS c s).map D.str) (((splitS c s).map fun x => (⟨x.toArray⟩ : Str)).map V.str) := by
        generalize splitS c s = l
        induction l with
        | nil => exact .nil
        | cons a r ih => exact .cons (.str a) ih
      exact post_alloc hp hs r q hq
  · exact hp.elim
end
end PF

set_option Elab.async false
set_option linter.all false
set_option maxRecDepth 100000
/-! Targets; what is walked. -/
namespace PF
open PySem PySem.Spec PyProof.Rows L2
section
variable {I : Info} {xh : XH} {W : WX} {X : Cx}

/-! ### targets -/
/-- the slots but those of own are as they were -/
structure SameO (own : List Nat) (σ σ1 : L2.St) : Prop where
  len : σ1.length = σ.length
  at_ : ∀ j, j ∉ own → σ1[j]? = σ[j]?
theorem SameO.refl (own : List Nat) (σ : L2.St) : SameO own σ σ := ⟨rfl, fun _ _ => rfl⟩
theorem SameO.trans {own : List Nat} {σ σ1 σ2 : L2.St} (a : SameO own σ σ1) (b : SameO own σ1 σ2) : SameO own σ σ2 := ⟨b.len.trans a.len, fun j h => (b.at_ j h).trans (a.at_ j h)⟩
theorem SameO.set {own : List Nat} (σ : L2.St) {i : Nat} (v : Option V) (h : i ∈ own) : SameO own σ (σ.set i v) := ⟨by simp, fun j hj => List.getElem?_set_ne (fun (e : i = j) => hj (by rw [← e]; exact h))⟩
abbrev rEnv (I : Info) (xh : XH) (own : List Nat) (σ : L2.St) : AH → Hp → Env → L2.St → Prop := fun m H ρ σ1 => RepEnv I m xh H σ1 ρ ∧ SameO own σ σ1
def TGt (I : Info) (xh : XH) (W : WX) (own : List Nat) (g : D → Env → Store → Res Env) : TG := fun v σ H Q =>
  ∃ m ρ st d, RepSt I m H st ∧ RepEnv I m xh H σ ρ ∧ RepD I m H d v ∧ PostR I (rEnv I xh own σ) m H (g d ρ st) Q fun c d H' => W c d σ H'
theorem PostR.noX {α β : Type} {R : AH → Hp → α → β → Prop} {m : AH} {H : Hp} {r : Res α} {Q : β → Hp → Prop} {E E' : XK} (h : PostR I R m H (PF.noX r) Q E) : PostR I R m H r Q E' := by
  cases r with
  | ok a st => exact h
  | exc x st => exact h.elim
  | stuck => exact h
theorem noX_bnd {α β : Type} (r : Res α) (f : α → Store → Res β) : noX (bnd r f) = bnd (noX r) fun a st => noX (f a st) := by
  cases r <;> rfl
def TGs' (I : Info) (xh : XH) (own : List Nat) (g : List D → Env → Store → Res Env) : TGs := fun vs σ H Q =>
  ∃ m ρ st ds, RepSt I m H st ∧ RepEnv I m xh H σ ρ ∧ RepDs I m H ds vs ∧ PostR I (rEnv I xh own σ) m H (noX (g ds ρ st)) Q fun _ _ _ => False
theorem weakG {e : Expr} {t t' : TG} (h : PG X e t) (w : ∀ v σ H Q, t' v σ H Q → t v σ H Q) : PG X e t' := ⟨fun pins s σ H v u Q i r q => h.run pins s σ H v u Q i r (w v σ H Q q)⟩
theorem weakGs {e : List Expr} {t t' : TGs} (h : PGs X e t) (w : ∀ v σ H Q, t' v σ H Q → t v σ H Q) : PGs X e t' := ⟨fun pins s σ H v u Q i r q => h.run pins s σ H v u Q i r (w v σ H Q q)⟩
theorem g_name {i : Nat} {x : Str} {pos : Pos} {own : List Nat} (ho : i ∈ own) (hN : X.N.Nodup) (hi : X.N[i]? = some x) (hx : Loc X.env.scope x) (hf : X.fn x = true ∨ X.env.scope.names.lookup x = some .local) : PG X (.Name x pos) (TGt I xh W own fun d ρ st => .ok (ρ.set i (some (.d d))) st) :=
  weakG (pg_name hN hi hx hf) fun v σ H Q ⟨m, ρ, st, d, hs, he, hd, hp⟩ => hp.here hs ⟨he.set (.d hd) i, SameO.set σ _ ho⟩
theorem gs_nil {own : List Nat} : PGs X [] (TGs' I xh own gsNil) :=
  weakGs pgs_nil fun vs σ H Q ⟨m, ρ, st, ds, hs, he, hd, hp⟩ => by
    cases hd with
    | nil => exact ⟨rfl, PostR.here (a := ρ) hp hs ⟨he, SameO.refl own σ⟩⟩
    | cons => exact False.elim hp
theorem PostR.imp2 {α β : Type} {R R' : AH → Hp → α → β → Prop} {m : AH} {H : Hp} {r : Res α} {Q : β → Hp → Prop} {E : XK} (h : PostR I R m H r Q E) (q : ∀ m1 H1 a b, R' m1 H1 a b → R m1 H1 a b) : PostR I R' m H r Q E := by
  cases r with
  | ok a st => exact fun m2 H2 b g2 s2 r2 => h m2 H2 b g2 s2 (q _ _ _ _ r2)
  | exc x st => exact h
  | stuck => exact h
theorem gs_cons {own : List Nat} {e : Expr} {es : List Expr} {g : D → Env → Store → Res Env} {gs : List D → Env → Store → Res Env} (h1 : PG X e (TGt I xh W own g)) (h2 : PGs X es (TGs' I xh own gs)) (hs : (assignEach (e :: es) X.env).map (·.2) = assign e X.env :: (assignEach es X.env).map (·.2)) :
    PGs X (e :: es) (TGs' I xh own (gsCons g gs)) :=
  weakGs (pgs_cons h1 h2 hs) fun vs σ H Q ⟨m, ρ, st, ds, hs, he, hd, hp⟩ => by
    cases hd with
    | nil => exact False.elim hp
    | @cons d ds v vs h r =>
      have hp : PostR I (rEnv I xh own σ) m H (noX (bnd (g d ρ st) fun ρ1 st1 => gs ds ρ1 st1)) Q _ := hp
      rw [noX_bnd] at hp
      refine ⟨_, _, rfl, m, ρ, st, d, hs, he, h, ?_⟩
      refine PostR.noX (PostR.imp (PostR.bind (R1 := rEnv I xh own σ) hp) fun σ1 H1 ⟨ρ1, m1, st1, M⟩ => ?_)
      exact ⟨m1, ρ1, st1, _, M.st, M.rep.1, r.mono M.gr hs.mok, M.post.imp2 fun _ _ _ _ z => ⟨z.1, M.rep.2.trans z.2⟩⟩
theorem g_tup0 (hK : X.K = I.K) {own : List Nat} {es : List Expr} {k n : Nat} {pos : Pos} {gs : List D → Env → Store → Res Env} (h : PG X (.Tuple es k pos) (gTup X.K n (TGs' I xh own gs)))
    (hl : ∀ ds ρ st, ds.length ≠ n → noX (gs ds ρ st) = .stuck) : PG X (.Tuple es k pos) (TGt I xh W own fun d ρ st => bnd (oth (unpack d) st) fun ds st1 => noX (gs ds ρ st1)) :=
  weakG h fun v σ H Q ⟨m, ρ, st, d, hs, he, hd, hp⟩ => by
    cases hd with
    | @tup a vs ds h1 r =>
      have hp : PostR I (rEnv I xh own σ) m H (noX (gs ds ρ st)) Q _ := hp
      by_cases e : ds.length = n
      · rw [hK]
        refine ⟨a, vs, rfl, h1, by rw [← r.length]; exact e, m, ρ, st, ds, hs, he, r, ?_⟩
        cases q : gs ds ρ st with
        | ok a st1 => rw [q] at hp; exact hp
        | exc x st1 => rw [q] at hp; exact hp
        | stuck => rw [q] at hp; exact hp
      · rw [hl ds ρ st e] at hp
        exact hp.elim
    | _ => exact hp.elim
theorem g_tup (hK : X.K = I.K) {own : List Nat} {es : List Expr} {k n : Nat} {pos : Pos} {gs : List D → Env → Store → Res Env} (hc : X.calm = true) (h : PGs X es (TGs' I xh own gs)) (hn : (assignEach es X.env).length = n) (hst : (assignEach es X.env).findIdx? (·.1) = none)
    (hl : ∀ ds ρ st, ds.length ≠ n → noX (gs ds ρ st) = .stuck) : PG X (.Tuple es k pos) (TGt I xh W own fun d ρ st => bnd (oth (unpack d) st) fun ds st1 => noX (gs ds ρ st1)) := g_tup0 hK (pg_tup hc h hn hst) hl
theorem setItem_rep {m : AH} {H : Hp} {st st1 : Store} {o i d : D} {x y v : V} (hs : RepSt I m H st) (ro : RepD I m H o x) (ri : RepD I m H i y) (rd : RepD I m H d v) (h : setItem st o i d = some st1) :
    ∃ p xs k j, x = .ref p ∧ y = .int k ∧ H p = some (.lst xs) ∧ L2.ixN xs.length k = some j ∧ Gr m H m (upd H p (.lst (xs.set j v))) ∧ RepSt I m (upd H p (.lst (xs.set j v))) st1 := by
  cases ro with
  | @loc n a h1 => cases ri with
    | int k =>
      simp only [setItem] at h
      cases e : st[n]? with
      | none => rw [e] at h; cases h
      | some ob =>
        cases ob with
        | lst ds =>
          rw [e] at h
          dsimp only at h
          cases e2 : PF.ixN ds.length k with
          | none => rw [e2] at h; cases h
          | some j =>
            rw [e2] at h
            cases h
            obtain ⟨vs, h3, h4⟩ := hs.ob n a ds h1 e
            obtain ⟨g, s1⟩ := hs.put h1 (RepDs.set rd j h4)
            exact ⟨a, vs, k, j, rfl, rfl, h3, by rw [← h4.length, ← ixN_eq]; exact e2, g, s1⟩
    | _ => cases h
  | _ => first | (cases h; done) | (cases ri <;> cases h)
theorem g_sub {own : List Nat} {o i : Expr} {pos : Pos} {f g : Env → Store → Res D} (ho : PE X o (TD I xh W f)) (hi : PE X i (TD I xh W g)) (hn : ∀ a b c p, i ≠ .Slice a b c p) :
    PG X (.Subscript o i pos) (TGt I xh W own fun d ρ st => bnd (f ρ st) fun x st1 => bnd (g ρ st1) fun y st2 => setD ρ d x y st2) :=
  weakG (pg_sub ho hi set_list (by intro v; cases i <;> first | rfl | exact absurd rfl (hn _ _ _ _))) fun v σ H Q ⟨m, ρ, st, d, hs, he, hd, hp⟩ => by
    refine ⟨m, ρ, st, hs, he, PostR.imp (PostR.bind (R1 := rD I) hp) fun x H1 ⟨o1, m1, st1, M⟩ => ?_⟩
    refine ⟨m1, ρ, st1, M.st, he.mono M.gr hs.mok, PostR.imp (PostR.bind (R1 := rD I) M.post) fun y H2 ⟨i1, m2, st2, M2⟩ => ?_⟩
    have p := M2.post
    unfold setD at p
    cases e : setItem st2 o1 i1 d with
    | none => rw [e] at p; exact p.elim
    | some st3 =>
      rw [e] at p
      have e2 := (he.mono M.gr hs.mok).mono M2.gr M.st.mok
      obtain ⟨q, xs, k, j, h1, h2, h3, h4, g3, s3⟩ := setItem_rep M2.st (M.rep.mono M2.gr M.st.mok) M2.rep ((hd.mono M.gr hs.mok).mono M2.gr M.st.mok) e
      exact ⟨q, xs, k, j, h1, h2, h3, h4, p _ _ _ g3 s3 ⟨e2.mono g3 M2.st.mok, SameO.refl own σ⟩⟩

/-! ### what is walked -/
inductive RepIt (I : Info) (m : AH) (H : Hp) : PF.It → L2.It → Prop
  | lst {n : Nat} {a : Addr} : m[n]? = some a → RepIt I m H (.lst n) (Itl I.K a)
  | tup {ds : List D} {vs : List V} {a : Addr} : SqT I.K H a vs → RepDs I m H ds vs → RepIt I m H (.tup ds) (Itt I.K a)
  | rng (lo : Int) (n : Nat) : RepIt I m H (.rng lo n) (Itr lo n)
  | str (s : List Nat) : RepIt I m H (.str s) (Its ⟨s.toArray⟩)
  | enL {n : Nat} {a : Addr} : m[n]? = some a → RepIt I m H (.enL n) (Ite I.K a)
  | zLL {n k : Nat} {a b : Addr} : m[n]? = some a → m[k]? = some b → RepIt I m H (.zLL n k) (Itz I.K a b)
  | zTT {xs ys : List D} {vs ws : List V} {a b : Addr} : SqT I.K H a vs → RepDs I m H xs vs → SqT I.K H b ws → RepDs I m H ys ws → RepIt I m H (.zTT xs ys) (RZ.ItzT I.K a b)
theorem RepIt.mono {m m1 : AH} {H H1 : Hp} {J : PF.It} {J' : L2.It} (h : RepIt I m H J J') (g : Gr m H m1 H1) (k : MOk m H) : RepIt I m1 H1 J J' := by
  cases h with
  | lst h => exact .lst (g.get h)
  | tup h r => exact .tup (g.tup k h) (r.mono g k)
  | rng lo n => exact .rng lo n
  | str s => exact .str s
  | enL h => exact .enL (g.get h)
  | zLL h h' => exact .zLL (g.get h) (g.get h')
  | zTT h r h' r' => exact .zTT (g.tup k h) (r.mono g k) (g.tup k h') (r'.mono g k)
abbrev rIt (I : Info) : AH → Hp → PF.It → L2.It → Prop := fun m H J J' => RepIt I m H J J'
abbrev TIt (I : Info) (xh : XH) (W : WX) (f : Env → Store → Res PF.It) : TI := TR I xh W (rIt I) f
theorem weakI {tg e : Expr} {t t' : TI} (h : PI X tg e t) (w : ∀ σ H R, t' σ H R → t σ H R) : PI X tg e t' := ⟨fun pins s σ H R i q => h.run pins s σ H R i (w σ H R q)⟩
/-- a value walked: a list, a tuple, a text -/
theorem i_val (hK : X.K = I.K) {tg e : Expr} {f : Env → Store → Res D} (h : PE X e (TD I xh W f)) : PI X tg e (TIt I xh W fun ρ st => bnd (f ρ st) fun x st1 => oth (itOf st1 x) st1) := by
  refine ⟨fun pins s σ H R iv hw => ?_⟩
  obtain ⟨m, ρ, st, hs, he, hp⟩ := hw
  dsimp only at hp
  cases q : f ρ st with
  | stuck => rw [q] at hp; exact hp.elim
  | exc x st1 =>
    rw [q] at hp
    refine (pi_list (tg := tg) h).run pins s σ H R iv ⟨m, ρ, st, hs, he, ?_⟩
    rw [q]
    exact hp
  | ok d st1 =>
    rw [q] at hp
    obtain ⟨J, hJ, p⟩ := PostR.oth hp
    cases d with
    | tup ds =>
      cases hJ
      refine (pi_tup (tg := tg) h).run pins s σ H R iv ⟨m, ρ, st, hs, he, ?_⟩
      rw [q, hK]
      intro m1 H1 v g1 s1 r1
      cases r1 with
      | tup h1 r => exact ⟨_, rfl, ⟨_, h1⟩, p m1 H1 _ g1 s1 (.tup h1 r)⟩
    | loc n =>
      simp only [itOf] at hJ
      cases e : listAt st1 n with
      | none => rw [e] at hJ; cases hJ
      | some ds =>
        rw [e] at hJ
        cases hJ
        refine (pi_list (tg := tg) h).run pins s σ H R iv ⟨m, ρ, st, hs, he, ?_⟩
        rw [q, hK]
        intro m1 H1 v g1 s1 r1
        cases r1 with
        | loc h1 =>
          obtain ⟨vs, h3, h4⟩ := s1.ob n _ ds h1 (listAt_some e)
          exact ⟨_, rfl, ⟨vs, SqL.of h3⟩, p m1 H1 _ g1 s1 (.lst h1)⟩
    | str z =>
      cases hJ
      refine (pi_str (tg := tg) h).run pins s σ H R iv ⟨m, ρ, st, hs, he, ?_⟩
      rw [q]
      intro m1 H1 v g1 s1 r1
      cases r1
      exact ⟨_, rfl, p m1 H1 _ g1 s1 (.str z)⟩
    | _ => cases hJ
theorem rng_ok {i : Int} (h : rngOk i = true) : -(2 ^ 62) ≤ i ∧ i < 2 ^ 62 := by
  unfold rngOk at h
  simp only [Bool.and_eq_true, decide_eq_true_eq] at h
  omega
theorem i_rng1 {tg e : Expr} {p pos : Pos} {f : Env → Store → Res D} (hg : Gl X "range") (hm : X.mg "range" = none) (h : PE X e (TD I xh W f)) (hn : noStar e = true) : PI X tg (.Call (.Name "range" p) [e] [] pos) (TIt I xh W fun ρ st => bnd (f ρ st) rng1) :=
  weakI (pi_range1 hg hm (pa_cons h pa_nil (star_eq (noStar_ne hn))) (star_eq (noStar_ne hn))) fun σ H R hw => TR.bind hw fun v H1 d m1 ρ st1 s1 e1 r1 p1 => by
    cases r1 with
    | int j =>
      simp only [rng1] at p1
      split at p1
      · rename_i z
        obtain ⟨z1, z2⟩ := rng_ok z
        exact ⟨j, rfl, z1, z2, p1.here s1 (.rng 0 _)⟩
      · exact p1.elim
    | _ => exact p1.elim
theorem i_rng2 {tg e e2 : Expr} {p pos : Pos} {f g : Env → Store → Res D} (hg : Gl X "range") (hm : X.mg "range" = none) (h : PE X e (TD I xh W f)) (h2 : PE X e2 (TD I xh W g)) (hn : noStar e = true) (hn2 : noStar e2 = true) :
    PI X tg (.Call (.Name "range" p) [e, e2] [] pos) (TIt I xh W fun ρ st => bnd (f ρ st) fun x st1 => bnd (g ρ st1) fun y st2 => rng2 x y st2) := by
  have s2 : starEach [e2] X.env = [(false, eval e2 X.env)] := star_eq (noStar_ne hn2)
  have s1 : starEach [e, e2] X.env = [(false, eval e X.env), (false, eval e2 X.env)] := by rw [star_eq (noStar_ne hn), s2]
  refine weakI (pi_range2 hg hm (pa_cons h (pa_cons h2 pa_nil s2) (star_eq (noStar_ne hn))) s1 s2) fun σ H R hw => TR.bind hw fun v H1 d m1 ρ st1 s1 e1 r1 p1 => ?_
  refine ⟨m1, ρ, st1, s1, e1, p1.bind.imp fun w H2 ⟨d2, m2, st2, M⟩ => ?_⟩
  have p2 := M.post
  have r1 := r1.mono M.gr s1.mok
  have r2 := M.rep
  cases r1 with
  | int i => cases r2 with
    | int j =>
      simp only [rng2] at p2
      split at p2
      · rename_i z
        simp only [Bool.and_eq_true] at z
        obtain ⟨z1, z2⟩ := rng_ok z.1
        obtain ⟨z3, z4⟩ := rng_ok z.2
        exact ⟨i, j, rfl, ⟨z1, z2, z3, z4⟩, p2.here M.st (.rng i _)⟩
      · exact p2.elim
    | _ => exact p2.elim
  | _ => first | exact p2.elim | (cases r2 <;> exact p2.elim)
theorem i_enum (hK : X.K = I.K) {e : Expr} {p pos tpos : Pos} {elts : List Expr} {kk : Nat} {f : Env → Store → Res D} (hg : Gl X "enumerate") (hm : X.mg "enumerate" = none) (h : PE X e (TD I xh W f)) (hn : noStar e = true) :
    PI X (.Tuple elts kk tpos) (.Call (.Name "enumerate" p) [e] [] pos) (TIt I xh W fun ρ st => bnd (f ρ st) enumOf) :=
  weakI (pi_enum hg hm (pa_cons h pa_nil (star_eq (noStar_ne hn))) (star_eq (noStar_ne hn))) fun σ H R hw => TR.bind hw fun v H1 d m1 ρ st1 s1 e1 r1 p1 => by
    cases r1 with
    | @loc n a h1 =>
      simp only [enumOf] at p1
      cases e : listAt st1 n with
      | none => rw [e] at p1; exact p1.elim
      | some ds =>
        rw [e] at p1
        obtain ⟨vs, h3, h4⟩ := s1.ob n a ds h1 (listAt_some e)
        rw [hK]
        exact ⟨a, vs, rfl, SqL.of h3, p1.here s1 (.enL h1)⟩
    | _ => exact p1.elim
theorem i_zip (hK : X.K = I.K) {e e2 : Expr} {p pos tpos : Pos} {elts : List Expr} {kk : Nat} {f g : Env → Store → Res D} (hg : Gl X "zip") (hm : X.mg "zip" = none) (h : PE X e (TD I xh W f)) (h2 : PE X e2 (TD I xh W g)) (hn : noStar e = true) (hn2 : noStar e2 = true) :
    PI X (.Tuple elts kk tpos) (.Call (.Name "zip" p) [e, e2] [] pos) (TIt I xh W fun ρ st => bnd (f ρ st) fun x st1 => bnd (g ρ st1) fun y st2 => zipOf x y st2) := by
  have s2 : starEach [e2] X.env = [(false, eval e2 X.env)] := star_eq (noStar_ne hn2)
  refine weakI (RZ.pi_zipA hg hm (pa_cons h (pa_cons h2 pa_nil s2) (star_eq (noStar_ne hn))) (star_eq (noStar_ne hn)) (by rw [s2]; rfl)) fun σ H R hw => TR.bind hw fun v H1 d m1 ρ st1 s1 e1 r1 p1 => ?_
  refine ⟨m1, ρ, st1, s1, e1, p1.bind.imp fun w H2 ⟨d2, m2, st2, M⟩ => ?_⟩
  have p2 := M.post
  have r1 := r1.mono M.gr s1.mok
  have r2 := M.rep
  rw [hK]
  cases r1 with
  | @loc n a h1 => cases r2 with
    | @loc k b h2 =>
      simp only [zipOf] at p2
      cases e3 : listAt st2 n with
      | none => rw [e3] at p2; exact p2.elim
      | some xs =>
        cases e4 : listAt st2 k with
        | none => rw [e3, e4] at p2; exact p2.elim
        | some ys =>
          rw [e3, e4] at p2
          obtain ⟨vs, h3, h4⟩ := M.st.ob n a xs h1 (listAt_some e3)
          obtain ⟨ws, h5, h6⟩ := M.st.ob k b ys h2 (listAt_some e4)
          exact ⟨a, b, vs, ws, rfl, .inl ⟨SqL.of h3, SqL.of h5, p2.here M.st (.zLL h1 h2)⟩⟩
    | _ => exact p2.elim
  | @tup a vs xs h1 r => cases r2 with
    | @tup b ws ys h2 r' => exact ⟨a, b, vs, ws, rfl, .inr ⟨h1, h2, PostR.here (a := PF.It.zTT xs ys) p2 M.st (.zTT h1 r h2 r')⟩⟩
    | _ => exact p2.elim
  | _ => first | exact p2.elim | (cases r2 <;> exact p2.elim)
end
end PF

set_option Elab.async false
set_option linter.all false
set_option maxRecDepth 100000
/-! Statements, loops, comprehensions. -/
namespace PF
open PySem PySem.Spec PyProof.Rows L2
section
variable {I : Info} {xh : XH} {W : WX} {X : Cx}

/-- what is wanted behind a statement -/
def PostS (I : Info) (xh : XH) (W : WX) (m : AH) (H : Hp) (r : SR) (D : Ends) : Prop :=
  match r with
  | .next ρ st => ∀ m1 H1 σ1, Gr m H m1 H1 → RepSt I m1 H1 st → RepEnv I m1 xh H1 σ1 ρ → D.nx σ1 H1
  | .ret d st => ∀ m1 H1 v, Gr m H m1 H1 → RepSt I m1 H1 st → RepD I m1 H1 d v → D.rt v H1
  | .brk ρ st => ∀ m1 H1 σ1, Gr m H m1 H1 → RepSt I m1 H1 st → RepEnv I m1 xh H1 σ1 ρ → D.bk σ1 H1
  | .exc x ρ st => ∀ m1 H1 σ1 cls dd, Gr m H m1 H1 → RepSt I m1 H1 st → RepEnv I m1 xh H1 σ1 ρ → RepX I m1 H1 x cls dd → W cls dd σ1 H1
  | .stuck => False
theorem PostS.mono {m m1 : AH} {H H1 : Hp} {r : SR} {D : Ends} (h : PostS I xh W m H r D) (g : Gr m H m1 H1) : PostS I xh W m1 H1 r D := by
  cases r with
  | next ρ st => exact fun m2 H2 σ g2 => h m2 H2 σ (g.trans g2)
  | ret d st => exact fun m2 H2 v g2 => h m2 H2 v (g.trans g2)
  | brk ρ st => exact fun m2 H2 σ g2 => h m2 H2 σ (g.trans g2)
  | exc x ρ st => exact fun m2 H2 σ c d g2 => h m2 H2 σ c d (g.trans g2)
  | stuck => exact h
def TSt (I : Info) (xh : XH) (W : WX) (f : Env → Store → SR) : TS := fun D σ H => ∃ m ρ st, RepSt I m H st ∧ RepEnv I m xh H σ ρ ∧ PostS I xh W m H (f ρ st) D
/-- an expression, then the rest of the statement -/
theorem TSt.bind {α β : Type} {R1 : AH → Hp → α → β → Prop} {f : Env → Store → Res α} {g : Env → α → Store → SR} {D : Ends} {σ : L2.St} {H : Hp} (h : TSt I xh W (fun ρ st => sbnd (f ρ st) ρ (g ρ)) D σ H) {Q1 : β → Hp → Prop}
    (k : ∀ b H1 a m1 ρ st1, RepSt I m1 H1 st1 → RepEnv I m1 xh H1 σ ρ → R1 m1 H1 a b → PostS I xh W m1 H1 (g ρ a st1) D → Q1 b H1) : TR I xh W R1 f σ H Q1 := by
  obtain ⟨m, ρ, st, hs, he, hp⟩ := h
  refine ⟨m, ρ, st, hs, he, ?_⟩
  dsimp only at hp
  cases q : f ρ st with
  | ok a st1 =>
    rw [q] at hp
    exact fun m1 H1 b g1 s1 r1 => k b H1 a m1 ρ st1 s1 (he.mono g1 hs.mok) r1 (PostS.mono hp g1)
  | exc x st1 =>
    rw [q] at hp
    exact fun m1 H1 c d g1 s1 r1 => hp m1 H1 σ c d g1 s1 (he.mono g1 hs.mok) r1
  | stuck =>
    rw [q] at hp
    exact hp.elim
theorem PostS.next {m : AH} {H : Hp} {ρ : Env} {st : Store} {D : Ends} {σ : L2.St} (h : PostS I xh W m H (.next ρ st) D) (s : RepSt I m H st) (e : RepEnv I m xh H σ ρ) : D.nx σ H := h m H σ (Gr.refl m H) s e
theorem PostS.ret {m : AH} {H : Hp} {d : D} {st : Store} {D : Ends} {v : V} (h : PostS I xh W m H (.ret d st) D) (s : RepSt I m H st) (e : RepD I m H d v) : D.rt v H := h m H v (Gr.refl m H) s e

/-! ### small statements, blocks -/
theorem ss_nil : PSs X [] (TSt I xh W fun ρ st => .next ρ st) := weakSs pss_nil fun D σ H ⟨m, ρ, st, hs, he, hp⟩ => hp.next hs he
theorem ss_cons {st : Stmt} {rest : List Stmt} {f g : Env → Store → SR} (h1 : PS X st (TSt I xh W f)) (h2 : PSs X rest (TSt I xh W g)) : PSs X (st :: rest) (TSt I xh W fun ρ s => seqS (f ρ s) g) :=
  weakSs (pss_cons h1 h2) fun D σ H ⟨m, ρ, st, hs, he, hp⟩ => by
    refine ⟨m, ρ, st, hs, he, ?_⟩
    dsimp only at hp
    cases q : f ρ st with
    | next ρ1 st1 =>
      rw [q] at hp
      exact fun m1 H1 σ1 g1 s1 e1 => ⟨m1, ρ1, st1, s1, e1, PostS.mono hp g1⟩
    | ret d st1 => rw [q] at hp; exact hp
    | brk ρ1 st1 => rw [q] at hp; exact hp
    | exc x ρ1 st1 => rw [q] at hp; exact hp
    | stuck => rw [q] at hp; exact hp
theorem s_pass {pos : Pos} : PS X (.Pass pos) (TSt I xh W fun ρ st => .next ρ st) := weakS ps_pass fun D σ H ⟨m, ρ, st, hs, he, hp⟩ => hp.next hs he
theorem s_brk {pos : Pos} : PS X (.Break pos) (TSt I xh W fun ρ st => .brk ρ st) := weakS ps_break fun D σ H ⟨m, ρ, st, hs, he, hp⟩ => hp m H σ (Gr.refl m H) hs he
theorem s_ret {e : Expr} {pos : Pos} {f : Env → Store → Res D} (h : PE X e (TD I xh W f)) : PS X (.Return (some e) pos) (TSt I xh W fun ρ st => sbnd (f ρ st) ρ fun d st1 => .ret d st1) :=
  weakS (ps_ret h) fun D σ H hw => TSt.bind hw fun v H1 d m1 ρ st1 s1 e1 r1 p1 => p1.ret s1 r1
theorem s_retN {pos : Pos} : PS X (.Return none pos) (TSt I xh W fun _ st => .ret .non st) := weakS ps_retN fun D σ H ⟨m, ρ, st, hs, he, hp⟩ => hp.ret hs .non
theorem s_ex {e : Expr} {pos : Pos} {f : Env → Store → Res D} (h : PE X e (TD I xh W f)) (hs : swapsWith e none pos.line X.env = pure false) : PS X (.Expr e pos) (TSt I xh W fun ρ st => sbnd (f ρ st) ρ fun _ st1 => .next ρ st1) :=
  weakS (ps_expr h hs) fun D σ H hw => TSt.bind hw fun v H1 d m1 ρ st1 s1 e1 r1 p1 => p1.next s1 e1
theorem s_if {c : Expr} {a b : List Stmt} {pos : Pos} {t : Env → Store → Res D} {f g : Env → Store → SR} (hc : PT X c (TBl I xh W (tru t))) (ha : PSs X a (TSt I xh W f)) (hb : PSs X b (TSt I xh W g)) :
    PS X (.If c a b pos) (TSt I xh W fun ρ st => sbnd (tru t ρ st) ρ fun r st1 => if r then f ρ st1 else g ρ st1) :=
  weakS (ps_if hc ha hb) fun D σ H hw => TSt.bind hw fun v H1 d m1 ρ st1 s1 e1 r1 p1 => by
    cases r1
    cases v with
    | true => exact ⟨m1, ρ, st1, s1, e1, p1⟩
    | false => exact ⟨m1, ρ, st1, s1, e1, p1⟩
/-- the end of an assignment -/
theorem asg_end {own : List Nat} {g : D → Env → Store → Res Env} {m : AH} {H : Hp} {ρ : Env} {st : Store} {d : D} {v : V} {D : Ends} {σ : L2.St} (hs : RepSt I m H st) (he : RepEnv I m xh H σ ρ) (hd : RepD I m H d v)
    (hp : PostS I xh W m H (sbnd (g d ρ st) ρ fun ρ1 st2 => .next ρ1 st2) D) : TGt I xh W own g v σ H D.nx := by
  refine ⟨m, ρ, st, d, hs, he, hd, ?_⟩
  cases q : g d ρ st with
  | ok ρ1 st1 => rw [q] at hp; exact fun m1 H1 σ1 g1 s1 r1 => hp m1 H1 σ1 g1 s1 r1.1
  | exc x st1 => rw [q] at hp; exact fun m1 H1 c d g1 s1 r1 => hp m1 H1 σ c d g1 s1 (he.mono g1 hs.mok) r1
  | stuck => rw [q] at hp; exact hp.elim
abbrev asgE (f : Env → Store → Res D) (g : D → Env → Store → Res Env) : Env → Store → SR := fun ρ st => sbnd (f ρ st) ρ fun d st1 => sbnd (g d ρ st1) ρ fun ρ1 st2 => .next ρ1 st2
theorem s_asg {own : List Nat} {tg e : Expr} {pos : Pos} {f : Env → Store → Res D} {g : D → Env → Store → Res Env} (he : PE X e (TD I xh W f)) (hg : PG X tg (TGt I xh W own g)) (hs : swapsWithSole [tg] e pos.line X.env = pure false) (hw : swappedStores [tg] e X.env = pure none)
    (h1 : (assignEach [tg] X.env).map (·.2) = [assign tg X.env]) : PS X (.Assign [tg] e pos) (TSt I xh W (asgE f g)) :=
  weakS (ps_asg he hg hs hw h1) fun D σ H hw => TSt.bind hw fun v H1 d m1 ρ st1 s1 e1 r1 p1 => asg_end s1 e1 r1 p1

/-! ### while -/
theorem s_while {c : Expr} {body : List Stmt} {pos : Pos} {t : Env → Store → Res D} {f : Env → Store → SR} {n : Nat} (hp : PassesOwn (model X.prog X.w) X.A X.env X.xe) (hc : PT X c (TBl I xh W (tru t))) (hb : PSs X body (TSt I xh W f)) :
    PS X (.While c body [] pos) (TSt I xh W fun ρ st => whileF (tru t) f n ρ st) :=
  weakS (ps_while hp hc hb) fun D σ H ⟨m, ρ, st, hs, he, hq⟩ => by
    refine ⟨fun k σ H => ∃ m ρ st, RepSt I m H st ∧ RepEnv I m xh H σ ρ ∧ PostS I xh W m H (whileF (tru t) f k ρ st) D, ⟨n, m, ρ, st, hs, he, hq⟩, ?_⟩
    intro k σ H ⟨m, ρ, st, hs, he, hq⟩
    cases k with
    | zero => exact hq.elim
    | succ k =>
      refine TSt.bind (f := tru t) (R1 := rEq) (g := fun ρ b st' => if b then (match f ρ st' with
      | .next ρ' st'' => whileF (tru t) f k ρ' st''
      | .brk ρ' st'' => .next ρ' st''
      | .ret d st'' => .ret d st''
      | .exc x ρ' st'' => .exc x ρ' st''
      | .stuck => .stuck) else .next ρ st') ⟨m, ρ, st, hs, he, hq⟩ fun v H1 d m1 ρ st1 s1 e1 r1 p1 => ?_
      cases r1
      cases v with
      | false => exact PostS.next (ρ := ρ) p1 s1 e1
      | true =>
        refine ⟨_, fun σ' H' w => ⟨k, Nat.lt_succ_self k, w⟩, m1, ρ, st1, s1, e1, ?_⟩
        rw [if_pos rfl] at p1
        cases q : f ρ st1 with
        | next ρ2 st2 => rw [q] at p1; exact fun m2 H2 σ2 g2 s2 e2 => ⟨m2, ρ2, st2, s2, e2, PostS.mono p1 g2⟩
        | ret d st2 => rw [q] at p1; exact p1
        | brk ρ2 st2 => rw [q] at p1; exact p1
        | exc x ρ2 st2 => rw [q] at p1; exact p1
        | stuck => rw [q] at p1; exact p1

/-! ### what an iterator yields -/
theorem it_stop {m : AH} {H : Hp} {st : Store} {J : PF.It} {J' : L2.It} {i : Nat} (hs : RepSt I m H st) (r : RepIt I m H J J') (h : J.at st i = some none) : J'.stop i H := by
  cases r with
  | @lst n a ha =>
    simp only [PF.It.at] at h
    cases e : listAt st n with
    | none => rw [e] at h; cases h
    | some ds =>
      rw [e] at h
      obtain ⟨vs, h3, h4⟩ := hs.ob n a ds ha (listAt_some e)
      refine ⟨vs, SqL.of h3, ?_⟩
      have h5 : ds[i]? = none := Option.some.inj h
      rw [← h4.length]
      exact List.getElem?_eq_none_iff.mp h5
  | @tup ds vs a ha r =>
    have h5 : ds[i]? = none := Option.some.inj h
    exact ⟨vs, ha, by rw [← r.length]; exact List.getElem?_eq_none_iff.mp h5⟩
  | rng lo n =>
    simp only [PF.It.at] at h
    split at h
    · cases h
    · rename_i z; exact Nat.le_of_not_lt z
  | str s =>
    simp only [PF.It.at] at h
    have h5 : (s[i]?.map fun c => D.str [c]) = none := Option.some.inj h
    have h6 : s[i]? = none := by cases e : s[i]? with
      | none => rfl
      | some c => rw [e] at h5; cases h5
    show s.toArray.size ≤ i
    simpa using List.getElem?_eq_none_iff.mp h6
  | @enL n a ha =>
    simp only [PF.It.at] at h
    cases e : listAt st n with
    | none => rw [e] at h; cases h
    | some ds =>
      rw [e] at h
      obtain ⟨vs, h3, h4⟩ := hs.ob n a ds ha (listAt_some e)
      refine ⟨vs, SqL.of h3, ?_⟩
      have h5 : (ds[i]?.map fun d => D.tup [.int i, d]) = none := Option.some.inj h
      have h6 : ds[i]? = none := by cases e : ds[i]? with
        | none => rfl
        | some c => rw [e] at h5; cases h5
      rw [← h4.length]
      exact List.getElem?_eq_none_iff.mp h6
  | @zLL n k a b ha hb =>
    simp only [PF.It.at] at h
    cases e : listAt st n with
    | none => rw [e] at h; cases h
    | some xs =>
      cases e2 : listAt st k with
      | none => rw [e, e2] at h; cases h
      | some ys =>
        rw [e, e2] at h
        obtain ⟨vs, h3, h4⟩ := hs.ob n a xs ha (listAt_some e)
        obtain ⟨ws, h5, h6⟩ := hs.ob k b ys hb (listAt_some e2)
        refine ⟨vs, ws, SqL.of h3, SqL.of h5, ?_⟩
        rw [← h4.length, ← h6.length]
        cases e3 : xs[i]? with
        | none => exact .inl (List.getElem?_eq_none_iff.mp e3)
        | some x => cases e4 : ys[i]? with
          | none => exact .inr (List.getElem?_eq_none_iff.mp e4)
          | some y => simp [e3, e4] at h
  | @zTT xs ys vs ws a b ha r hb r' =>
    simp only [PF.It.at] at h
    refine ⟨vs, ws, ha, hb, ?_⟩
    rw [← r.length, ← r'.length]
    cases e3 : xs[i]? with
    | none => exact .inl (List.getElem?_eq_none_iff.mp e3)
    | some x => cases e4 : ys[i]? with
      | none => exact .inr (List.getElem?_eq_none_iff.mp e4)
      | some y => simp [e3, e4] at h
theorem it_go {m : AH} {H : Hp} {st : Store} {J : PF.It} {J' : L2.It} {i : Nat} {d : D} (hs : RepSt I m H st) (r : RepIt I m H J J') (h : J.at st i = some (some d)) :
    J'.go i H ∧ ∀ x H', J'.yld i H x H' → Gr m H m H' ∧ RepSt I m H' st ∧ RepD I m H' d x := by
  cases r with
  | @lst n a ha =>
    simp only [PF.It.at] at h
    cases e : listAt st n with
    | none => rw [e] at h; cases h
    | some ds =>
      rw [e] at h
      obtain ⟨vs, h3, h4⟩ := hs.ob n a ds ha (listAt_some e)
      obtain ⟨v, h5, h6⟩ := h4.get (show ds[i]? = some d from Option.some.inj h)
      refine ⟨⟨vs, v, SqL.of h3, h5⟩, fun x H' ⟨e1, y⟩ => ?_⟩
      subst e1
      have z := y vs (SqL.of h3)
      rw [h5] at z
      cases z
      exact ⟨Gr.refl _ _, hs, h6⟩
  | @tup ds vs a ha r =>
    obtain ⟨v, h5, h6⟩ := r.get (show ds[i]? = some d from Option.some.inj h)
    refine ⟨⟨vs, v, ha, h5⟩, fun x H' ⟨e1, y⟩ => ?_⟩
    subst e1
    have z := y vs ha
    rw [h5] at z
    cases z
    exact ⟨Gr.refl _ _, hs, h6⟩
  | rng lo n =>
    simp only [PF.It.at] at h
    split at h
    · rename_i z
      have h := Option.some.inj (Option.some.inj h)
      refine ⟨z, fun x H' ⟨e1, y⟩ => ?_⟩
      subst e1 y h
      exact ⟨Gr.refl _ _, hs, .int _⟩
    · cases h
  | str s =>
    simp only [PF.It.at] at h
    have h5 : (s[i]?.map fun c => D.str [c]) = some d := Option.some.inj h
    cases e : s[i]? with
    | none => rw [e] at h5; cases h5
    | some c =>
      rw [e] at h5
      cases h5
      have hi := (List.getElem?_eq_some_iff.mp e).1
      refine ⟨by show i < s.toArray.size; simpa using hi, fun x H' ⟨e1, c', y1, y2⟩ => ?_⟩
      subst e1 y2
      have y1 : s.toArray[i]? = some c' := y1
      rw [List.getElem?_toArray, e] at y1
      cases y1
      exact ⟨Gr.refl _ _, hs, .str [c]⟩
  | @enL n a ha =>
    simp only [PF.It.at] at h
    cases e : listAt st n with
    | none => rw [e] at h; cases h
    | some ds =>
      rw [e] at h
      obtain ⟨vs, h3, h4⟩ := hs.ob n a ds ha (listAt_some e)
      have h5 : (ds[i]?.map fun d => D.tup [.int i, d]) = some d := Option.some.inj h
      cases e2 : ds[i]? with
      | none => rw [e2] at h5; cases h5
      | some d0 =>
        rw [e2] at h5
        cases h5
        obtain ⟨v, h5, h6⟩ := h4.get e2
        refine ⟨⟨vs, v, SqL.of h3, h5⟩, fun x H' ⟨T, z, e1, e2, e3, y⟩ => ?_⟩
        subst e1 e3
        have y1 := y vs (SqL.of h3)
        rw [h5] at y1
        cases y1
        exact ⟨Gr.new e2, hs.new e2, .tup (SqT.of upd_same) (.cons (.int _) (.cons (h6.mono (Gr.new e2) hs.mok) .nil))⟩
  | @zLL n k a b ha hb =>
    simp only [PF.It.at] at h
    cases e : listAt st n with
    | none => rw [e] at h; cases h
    | some xs =>
      cases e2 : listAt st k with
      | none => rw [e, e2] at h; cases h
      | some ys =>
        rw [e, e2] at h
        obtain ⟨vs, h3, h4⟩ := hs.ob n a xs ha (listAt_some e)
        obtain ⟨ws, h5, h6⟩ := hs.ob k b ys hb (listAt_some e2)
        cases e3 : xs[i]? with
        | none => simp [e3] at h
        | some x0 => cases e4 : ys[i]? with
          | none => simp [e3, e4] at h
          | some y0 =>
            simp only [e3, e4, Option.some.injEq] at h
            subst h
            obtain ⟨v, g1, g2⟩ := h4.get e3
            obtain ⟨w, g3, g4⟩ := h6.get e4
            refine ⟨⟨vs, ws, v, w, SqL.of h3, SqL.of h5, g1, g3⟩, fun x H' ⟨T, z, z', q1, q2, q3, y, y'⟩ => ?_⟩
            subst q1 q3
            have y1 := y vs (SqL.of h3)
            have y2 := y' ws (SqL.of h5)
            rw [g1] at y1
            rw [g3] at y2
            cases y1
            cases y2
            exact ⟨Gr.new q2, hs.new q2, .tup (SqT.of upd_same) (.cons (g2.mono (Gr.new q2) hs.mok) (.cons (g4.mono (Gr.new q2) hs.mok) .nil))⟩
  | @zTT xs ys vs ws a b ha r hb r' =>
    simp only [PF.It.at] at h
    cases e3 : xs[i]? with
    | none => simp [e3] at h
    | some x0 => cases e4 : ys[i]? with
      | none => simp [e3, e4] at h
      | some y0 =>
        simp only [e3, e4, Option.some.injEq] at h
        subst h
        obtain ⟨v, g1, g2⟩ := r.get e3
        obtain ⟨w, g3, g4⟩ := r'.get e4
        refine ⟨⟨vs, ws, v, w, ha, hb, g1, g3⟩, fun x H' ⟨T, z, z', q1, q2, q3, y, y'⟩ => ?_⟩
        subst q1 q3
        have y1 := y vs ha
        have y2 := y' ws hb
        rw [g1] at y1
        rw [g3] at y2
        cases y1
        cases y2
        exact ⟨Gr.new q2, hs.new q2, .tup (SqT.of upd_same) (.cons (g2.mono (Gr.new q2) hs.mok) (.cons (g4.mono (Gr.new q2) hs.mok) .nil))⟩

/-! ### for -/
theorem s_for {own : List Nat} {tg iter : Expr} {body : List Stmt} {pos : Pos} {j : Env → Store → Res PF.It} {g : D → Env → Store → Res Env} {f : Env → Store → SR} {n : Nat} (hp : PassesOwn (model X.prog X.w) X.A X.env X.xe) (hc : X.calm = true)
    (hi : PI X tg iter (TIt I xh W j)) (hg : PG X tg (TGt I xh W own g)) (hb : PSs X body (TSt I xh W f)) (hs : ∀ x, foldedSetIterable iter X.env x = pure x) :
    PS X (.For tg iter body [] pos) (TSt I xh W fun ρ st => sbnd (j ρ st) ρ fun J st1 => loopF (fun st i => J.at st i) (fun d ρ st => sbnd (g d ρ st) ρ fun ρ1 st2 => f ρ1 st2) n 0 ρ st1) :=
  weakS (ps_for hp hc hi hg hb hs) fun D σ H hw => TSt.bind hw fun J' H1 J m1 ρ st1 s1 e1 r1 p1 => by
    refine ⟨fun i k σ H => ∃ m ρ st, RepSt I m H st ∧ RepEnv I m xh H σ ρ ∧ RepIt I m H J J' ∧ PostS I xh W m H (loopF (fun st i => J.at st i) (fun d ρ st => sbnd (g d ρ st) ρ fun ρ1 st2 => f ρ1 st2) k i ρ st) D,
      ⟨n, m1, ρ, st1, s1, e1, r1, p1⟩, ?_⟩
    intro i k σ H ⟨m, ρ, st, hs, he, hr, hq⟩
    cases k with
    | zero => exact hq.elim
    | succ k =>
      simp only [loopF] at hq
      cases q : J.at st i with
      | none => rw [q] at hq; exact hq.elim
      | some o =>
        cases o with
        | none =>
          rw [q] at hq
          exact .inl ⟨it_stop hs hr q, PostS.next (ρ := ρ) hq hs he⟩
        | some d =>
          rw [q] at hq
          dsimp only at hq
          obtain ⟨go, yl⟩ := it_go hs hr q
          refine .inr ⟨go, _, fun σ' H' w => ⟨k, Nat.lt_succ_self k, w⟩, fun x H' y => ?_⟩
          obtain ⟨g1, s1, r1⟩ := yl x H' y
          refine ⟨m, ρ, st, d, s1, he.mono g1 hs.mok, r1, ?_⟩
          cases q2 : g d ρ st with
          | stuck => rw [q2] at hq; exact hq.elim
          | exc z st2 =>
            rw [q2] at hq
            exact fun m2 H2 c dd g2 s2 r2 => hq m2 H2 σ c dd (g1.trans g2) s2 (he.mono (g1.trans g2) hs.mok) r2
          | ok ρ2 st2 =>
            rw [q2] at hq
            intro m2 H2 σ2 g2 s2 ⟨e2, _⟩
            refine ⟨m2, ρ2, st2, s2, e2, ?_⟩
            simp only [sbnd] at hq
            have g3 := g1.trans g2
            cases q3 : f ρ2 st2 with
            | next ρ3 st3 =>
              rw [q3] at hq
              exact fun m3 H3 σ3 g4 s3 e3 => ⟨m3, ρ3, st3, s3, e3, hr.mono (g3.trans g4) hs.mok, PostS.mono hq (g3.trans g4)⟩
            | ret d st3 => rw [q3] at hq; exact PostS.mono (r := .ret d st3) hq g3
            | brk ρ3 st3 => rw [q3] at hq; exact PostS.mono (r := .next ρ3 st3) hq g3
            | exc z ρ3 st3 => rw [q3] at hq; exact PostS.mono (r := .exc z ρ3 st3) hq g3
            | stuck => rw [q3] at hq; exact hq.elim
end
end PF

set_option Elab.async false
set_option linter.all false
set_option maxRecDepth 100000
/-! List comprehensions. -/
namespace PF
open PySem PySem.Spec PyProof.Rows L2
section
variable {I : Info} {xh : XH} {W : WX} {X : Cx}

theorem wipe_len (σ : L2.St) : ∀ vs : List Nat, (L2.wipe σ vs).length = σ.length := L2.wipe_length σ
theorem wipe_in (σ : L2.St) : ∀ (vs : List Nat) (j : Nat), j ∈ vs → j < σ.length → (L2.wipe σ vs)[j]? = some none
  | [], j, h, _ => by cases h
  | v :: vs, j, h, hl => by
    unfold L2.wipe
    by_cases e : v = j
    · subst e
      rw [List.getElem?_set_self (by rw [wipe_len]; exact hl)]
    · rw [List.getElem?_set_ne e]
      exact wipe_in σ vs j ((List.mem_cons.mp h).resolve_left (Ne.symm e)) hl
theorem wipe_notin (σ : L2.St) : ∀ (vs : List Nat) (j : Nat), j ∉ vs → (L2.wipe σ vs)[j]? = σ[j]?
  | [], _, _ => rfl
  | v :: vs, j, h => by
    unfold L2.wipe
    simp only [List.mem_cons, not_or] at h
    rw [List.getElem?_set_ne (Ne.symm h.1)]
    exact wipe_notin σ vs j h.2
theorem wipe_same {own : List Nat} {σ σ2 : L2.St} (h : SameO own (L2.wipe σ own) σ2) : L2.wipe σ2 own = L2.wipe σ own := by
  have hl : σ2.length = σ.length := by rw [h.len, wipe_len]
  apply List.ext_getElem?
  intro j
  by_cases hj : j ∈ own
  · by_cases hlt : j < σ.length
    · rw [wipe_in σ2 own j hj (by rw [hl]; exact hlt), wipe_in σ own j hj hlt]
    · rw [List.getElem?_eq_none (by rw [wipe_len, hl]; omega), List.getElem?_eq_none (by rw [wipe_len]; omega)]
  · rw [wipe_notin σ2 own j hj]
    exact h.at_ j hj
theorem RepSt.addL {m : AH} {H : Hp} {st : Store} {p : Addr} {vs : List V} {ds : List D} (s : RepSt I m H st) (np : p ∉ m) (hp : H p = some (.lst vs)) (r : RepDs I m H ds vs) : RepSt I (m ++ [p]) H (st ++ [.lst ds]) := by
  have mo : ∀ (n : Nat) (a : Addr), m[n]? = some a → (m ++ [p])[n]? = some a := fun n a h => by
    rw [List.getElem?_append_left (List.getElem?_eq_some_iff.mp h).1]
    exact h
  refine ⟨by simp [s.len], ?_, fun n a es h1 h2 => ?_, s.tabs⟩
  · rw [List.nodup_append]
    exact ⟨s.nd, by simp, fun a ha b hb => by simp at hb; subst hb; exact fun z => np (z ▸ ha)⟩
  · by_cases hn : n < m.length
    · rw [List.getElem?_append_left hn] at h1
      rw [List.getElem?_append_left (by rw [← s.len]; exact hn)] at h2
      obtain ⟨ws, h3, h4⟩ := s.ob n a es h1 h2
      exact ⟨ws, h3, h4.more mo⟩
    · have e1 : n = m.length := by
        have z := (List.getElem?_eq_some_iff.mp h1).1
        simp at z
        omega
      subst e1
      rw [List.getElem?_append_right (Nat.le_refl _)] at h1
      rw [s.len, List.getElem?_append_right (Nat.le_refl _)] at h2
      simp at h1 h2
      subst h1
      subst h2
      exact ⟨vs, hp, r.more mo⟩
theorem bnd_assoc {α β γ : Type} (r : Res α) (f : α → Store → Res β) (g : β → Store → Res γ) : bnd (bnd r f) g = bnd r fun a st => bnd (f a st) g := by
  cases r <;> rfl
/-- the list that is made is changed: what is no part of the store -/
theorem Gr.own {m m1 : AH} {H H1 : Hp} {p : Addr} {o : HO} (g : Gr m H m1 H1) (hp : H p = none) : Gr m H m1 (upd H1 p o) :=
  ⟨g.pre, fun a u h n t => by rw [upd_ne (ne_of_none h hp)]; exact g.keep a u h n t, fun a u h => by rw [upd_ne (ne_of_none h hp)]; exact g.dom a u h⟩
theorem Gr.swap {m : AH} {H : Hp} {p : Addr} {vs ws : List V} (np : p ∉ m) (hp : H p = some (.lst vs)) : Gr (p :: m) H (p :: m) (upd H p (.lst ws)) :=
  ⟨⟨[], by simp, by simp⟩, fun a o h n _ => by
    rw [upd_ne (fun z => n (by rw [z]; exact List.mem_cons_self))]
    exact h, fun a o h => by
    by_cases e : a = p
    · rw [e, upd_same]; exact ⟨_, rfl⟩
    · rw [upd_ne e]; exact ⟨o, h⟩⟩
mutual
/-- a list that is none of the store's is changed -/
theorem RepD.swap {m : AH} {H : Hp} {p : Addr} {vs ws : List V} (hp : H p = some (.lst vs)) : ∀ {d : D} {v : V}, RepD I m H d v → RepD I m (upd H p (.lst ws)) d v
  | _, _, .non => .non
  | _, _, .bl b => .bl b
  | _, _, .int i => .int i
  | _, _, .str s => .str s
  | _, _, .tup h r => .tup (by
      rcases h with (h | ⟨o, h⟩) | h
      · exact .inl (.inl (by rw [upd_ne (ne_of h hp (fun z => by cases z))]; exact h))
      · exact .inl (.inr ⟨o, by rw [upd_ne (ne_of h hp (fun z => by cases z))]; exact h⟩)
      · exact .inr h) (RepDs.swap hp r)
  | _, _, .loc h => .loc h
  | _, _, .rol h r => .rol (by
      rcases h with ⟨o, h⟩ | h
      · exact .inl ⟨o, by rw [upd_ne (ne_of h hp (fun z => by cases z))]; exact h⟩
      · exact .inr h) (RepDs.swap hp r)
  | _, _, .fn h => .fn h
  | _, _, .lam h1 h2 h3 h4 => .lam h1 (by rw [upd_ne (ne_of h2 hp (fun z => by cases z))]; exact h2) (by rw [upd_ne (ne_of h3 hp (fun z => by cases z))]; exact h3) h4
theorem RepDs.swap {m : AH} {H : Hp} {p : Addr} {vs ws : List V} (hp : H p = some (.lst vs)) : ∀ {ds : List D} {us : List V}, RepDs I m H ds us → RepDs I m (upd H p (.lst ws)) ds us
  | _, _, .nil => .nil
  | _, _, .cons h r => .cons (RepD.swap hp h) (RepDs.swap hp r)
end
theorem RepSt.swap {m : AH} {H : Hp} {st : Store} {p : Addr} {vs ws : List V} (s : RepSt I m H st) (np : p ∉ m) (hp : H p = some (.lst vs)) : RepSt I m (upd H p (.lst ws)) st := by
  refine ⟨s.len, s.nd, fun n a es h1 h2 => ?_, fun q hq => ?_⟩
  · obtain ⟨us, h3, h4⟩ := s.ob n a es h1 h2
    exact ⟨us, by rw [upd_ne (fun z => np (by rw [← z]; exact List.mem_of_getElem? h1))]; exact h3, h4.swap hp⟩
  · obtain ⟨ps, t1, t2, t3⟩ := s.tabs q hq
    refine ⟨ps, by rw [upd_ne (ne_of t1 hp (fun z => by cases z))]; exact t1, t2, fun pos cv hc => ?_⟩
    obtain ⟨c, e1, e2⟩ := t3 pos cv hc
    exact ⟨c, e1, by rw [upd_ne (ne_of e2 hp (fun z => by cases z))]; exact e2⟩
end
mutual
theorem RepA.swap {I : Info} {m : AH} {xh : XH} {p : Addr} {vs ws : List V} : ∀ {H : Hp} {a : A} {v : V}, H p = some (.lst vs) → RepA I m xh H a v → RepA I m xh (upd H p (.lst ws)) a v
  | _, _, _, hp, .d h => .d (h.swap hp)
  | H, _, _, hp, .clo (cl := cl) h1 h2 h3 h4 h5 h6 h7 h8 => by
    have np : p ∉ cl.map (·.2) := fun z => by
      obtain ⟨oc, q⟩ := frzAll_of h4 p z
      rw [hp] at q
      cases q
    have e : unfrz cl (upd H p (.lst ws)) = upd (unfrz cl H) p (.lst ws) := by
      funext b
      unfold unfrz upd
      by_cases hb : b = p
      · subst hb
        rw [if_neg np, if_pos rfl, if_pos rfl]
      · rw [if_neg hb, if_neg hb]
    refine .clo h1 (by rw [upd_ne (ne_of h2 hp (fun z => by cases z))]; exact h2) (by rw [upd_ne (ne_of h3 hp (fun z => by cases z))]; exact h3) (fun q hq => ?_) h5 (fun j y ej => ?_) h7 ?_
    · obtain ⟨oc, w, q1, q2⟩ := h4 q hq
      exact ⟨oc, w, by rw [upd_ne (ne_of q1 hp (fun z => by cases z))]; exact q1, q2⟩
    · obtain ⟨c, oc, u, v, a1, a2, a3, a4, a5⟩ := h6 j y ej
      exact ⟨c, oc, u, v, a1, by rw [upd_ne (ne_of a2 hp (fun z => by cases z))]; exact a2, a3, a4, a5⟩
    · rw [e]
      exact RepAs.swap (by unfold unfrz; rw [if_neg np]; exact hp) h8
  | _, _, _, hp, .exn h1 h2 => by
    refine .exn h1 ?_
    obtain ⟨C, g1, g2, g3⟩ := h2
    refine ⟨C, g1, g2, ?_⟩
    dsimp only at g3 ⊢
    split
    · rename_i e
      rw [e] at g3
      exact g3
    · rename_i f e
      rw [e] at g3
      obtain ⟨d, v, e', h4, h5, h6, h7⟩ := g3
      exact ⟨d, v, e', h4, h5, by rw [upd_ne (ne_of h6 hp (fun z => by cases z))]; exact h6, h7.swap hp⟩
theorem RepAs.swap {I : Info} {m : AH} {xh : XH} {p : Addr} {vs ws : List V} : ∀ {H : Hp} {as : List A} {us : List V}, H p = some (.lst vs) → RepAs I m xh H as us → RepAs I m xh (upd H p (.lst ws)) as us
  | _, _, _, _, .nil => .nil
  | _, _, _, hp, .cons h r => .cons (RepA.swap hp h) (RepAs.swap hp r)
end
section
variable {I : Info} {xh : XH} {W : WX} {X : Cx}
theorem RepIt.swap {m : AH} {H : Hp} {p : Addr} {vs ws : List V} {J : PF.It} {J' : L2.It} (hp : H p = some (.lst vs)) (h : RepIt I m H J J') : RepIt I m (upd H p (.lst ws)) J J' := by
  have tp : ∀ {a : Addr} {us : List V}, SqT I.K H a us → SqT I.K (upd H p (.lst ws)) a us := fun {a us} h => by
    rcases h with (h | ⟨o, h⟩) | h
    · exact .inl (.inl (by rw [upd_ne (ne_of h hp (fun z => by cases z))]; exact h))
    · exact .inl (.inr ⟨o, by rw [upd_ne (ne_of h hp (fun z => by cases z))]; exact h⟩)
    · exact .inr h
  cases h with
  | lst h => exact .lst h
  | tup h r => exact .tup (tp h) (r.swap hp)
  | rng lo n => exact .rng lo n
  | str s => exact .str s
  | enL h => exact .enL h
  | zLL h h' => exact .zLL h h'
  | zTT h r h' r' => exact .zTT (tp h) (r.swap hp) (tp h') (r'.swap hp)
theorem RepEnv.swap {m : AH} {H : Hp} {p : Addr} {vs ws : List V} {σ : L2.St} {ρ : Env} (hp : H p = some (.lst vs)) (e : RepEnv I m xh H σ ρ) : RepEnv I m xh (upd H p (.lst ws)) σ ρ :=
  ⟨e.len, fun i a h => let ⟨v, h1, h2⟩ := e.at_ i a h; ⟨v, h1, h2.swap hp⟩⟩
/-- nothing is raised -/
abbrev W0 : WX := fun _ _ _ _ => False
abbrev compE (n : Nat) (own : List Nat) (j : Env → Store → Res PF.It) (g : D → Env → Store → Res Env) (c e : Env → Store → Res D) : Env → Store → Res D :=
  fun ρ st => bnd (j ρ st) fun J st1 => bnd (compF (fun st i => J.at st i) (turnF g c e (PF.wipe ρ own)) n 0 st1) newList
theorem turnF_nox (g : D → Env → Store → Res Env) (c e : Env → Store → Res D) (ρ : Env) (d : D) (st : Store) (x : Xn) (st1 : Store) : turnF g c e ρ d st ≠ .exc x st1 := by
  intro h
  unfold turnF at h
  generalize bnd (g d ρ st) _ = r at h
  cases r <;> cases h
theorem compF_nox {item : Store → Nat → Option (Option D)} {turn : D → Store → Res (Option D)} (ht : ∀ d st x st1, turn d st ≠ .exc x st1) : ∀ (k i : Nat) (st : Store) (x : Xn) (st1 : Store), compF item turn k i st ≠ .exc x st1
  | 0, _, _, _, _ => fun h => by cases h
  | k + 1, i, st, x, st1 => fun h => by
    simp only [compF] at h
    split at h
    · cases h
    · cases h
    · rename_i d _
      cases q : turn d st with
      | stuck => rw [q] at h; cases h
      | exc y s2 => exact ht _ _ _ _ q
      | ok o s2 =>
        rw [q] at h
        simp only [bnd] at h
        cases q2 : compF item turn k (i + 1) s2 with
        | stuck => rw [q2] at h; cases h
        | exc y s3 => exact compF_nox ht _ _ _ _ _ q2
        | ok r s3 => rw [q2] at h; cases h
theorem lc_size {item : Store → Nat → Option (Option D)} {turn : D → Store → Res (Option D)} (ht : ∀ d st x st1, turn d st ≠ .exc x st1) {k i : Nat} {st : Store} {acc : List D} {m : AH} {H : Hp} {Q : VK} {E : XK}
    (h : PostR I (rD I) m H (bnd (compF item turn k i st) fun r st2 => newList (acc ++ r) st2) Q E) : acc.length ≤ LIM := by
  cases q : compF item turn k i st with
  | stuck => rw [q] at h; exact h.elim
  | exc x s => exact absurd q (compF_nox ht _ _ _ _ _)
  | ok r s =>
    rw [q] at h
    have h : PostR I (rD I) m H (newList (acc ++ r) s) Q E := h
    unfold newList at h
    split at h
    · rename_i z
      rw [List.length_append] at z
      omega
    · exact h.elim
/-- the state between two turns: p the list that is made, acc its items so far -/
structure LcW (I : Info) (xh : XH) (σ : L2.St) (ρ : Env) (J : PF.It) (J' : L2.It) (m1 : AH) (H1 : Hp) (p : Addr) (H : Hp) (m : AH) (st : Store) (acc : List D) (vs : List V) : Prop where
  gr : Gr m1 H1 m H
  st : RepSt I m H st
  env : RepEnv I m xh H σ ρ
  it : RepIt I m H J J'
  np : p ∉ m
  hp : H p = some (.lst vs)
  acc : RepDs I m H acc vs
theorem lc_read {n : Nat} {own : List Nat} {j : Env → Store → Res PF.It} {g : D → Env → Store → Res Env} {c e : Env → Store → Res D} {σ : L2.St} {H : Hp} {Q : VK} (h : TD I xh W (compE n own j g c e) σ H Q) :
    tLc (TIt I xh W j) (TGt I xh W0 own g) (TBl I xh W0 (tru c)) (TD I xh W0 e) own σ H Q := by
  refine TR.bind h fun J' H1 J m1 ρ st1 s1 e1 r1 p1 => fun p hp => ?_
  have np1 : p ∉ m1 := fun z => by
    obtain ⟨xs, q⟩ := s1.mok p z
    rw [hp] at q
    cases q
  refine ⟨fun i k H => ∃ m st acc vs, LcW I xh σ ρ J J' m1 H1 p H m st acc vs ∧ PostR I (rD I) m1 H1 (bnd (compF (fun st i => J.at st i) (turnF g c e (PF.wipe ρ own)) k i st) fun r st2 => newList (acc ++ r) st2) Q fun c d H' => W c d σ H',
    ⟨n, m1, st1, [], [], ⟨Gr.new hp, s1.new hp, e1.mono (Gr.new hp) s1.mok, r1.mono (Gr.new hp) s1.mok, np1, upd_same, .nil⟩, by simpa using p1⟩, ?_⟩
  intro i k H ⟨m, st, acc, vs, L, hq⟩
  cases k with
  | zero => exact hq.elim
  | succ k =>
    simp only [compF] at hq
    cases q : J.at st i with
    | none => rw [q] at hq; exact hq.elim
    | some o =>
      cases o with
      | none =>
        rw [q] at hq
        refine .inl ⟨it_stop L.st L.it q, ?_⟩
        have hq : PostR I (rD I) m1 H1 (newList (acc ++ []) st) Q _ := hq
        rw [List.append_nil] at hq
        unfold newList at hq
        split at hq
        · refine hq (m ++ [p]) H (.ref p) ?_ (L.st.addL L.np L.hp L.acc) (.loc (by rw [← L.st.len]; simp))
          obtain ⟨r, er, hr⟩ := L.gr.pre
          exact ⟨⟨r ++ [p], by rw [er, List.append_assoc], fun a ha => by
            rcases List.mem_append.mp ha with z | z
            · exact hr a z
            · simp at z; rw [z]; exact hp⟩, L.gr.keep, L.gr.dom⟩
        · exact hq.elim
      | some d =>
        rw [q] at hq
        dsimp only at hq
        obtain ⟨go, yl⟩ := it_go L.st L.it q
        refine .inr ⟨go, _, fun H' w => ⟨k, Nat.lt_succ_self k, w⟩, fun x H' y => ?_⟩
        obtain ⟨g1, s2, r2⟩ := yl x H' y
        have e2 : RepEnv I m xh H' (L2.wipe σ own) (PF.wipe ρ own) := (L.env.mono g1 L.st.mok).wipe own
        refine ⟨m, PF.wipe ρ own, st, d, s2, e2, r2, ?_⟩
        have hold : ∀ {m2 : AH} {H2 : Hp}, Gr m H' m2 H2 → p ∉ m2 ∧ H2 p = some (.lst vs) := fun {m2 H2} g2 => by
          have a1 : H' p = some (.lst vs) := g1.keep p _ L.hp L.np fun _ z => by cases z
          exact ⟨g2.out L.np (by rw [a1]; simp), g2.keep p _ a1 L.np fun _ z => by cases z⟩
        have stk : ∀ {r : Res (Option D)}, turnF g c e (PF.wipe ρ own) d st = r → PostR I (rD I) m1 H1 (bnd r fun o st1 => bnd (compF (fun st i => J.at st i) (turnF g c e (PF.wipe ρ own)) k (i + 1) st1) fun r st2 => newList (acc ++ (match o with
            | some y => y :: r
            | none => r)) st2) Q fun c d H' => W c d σ H' := fun {r} er => by
          rw [← er]
          rw [bnd_assoc] at hq
          cases q9 : turnF g c e (PF.wipe ρ own) d st with
          | stuck => rw [q9] at hq; exact hq
          | exc z s9 => rw [q9] at hq; exact hq
          | ok o s9 =>
            rw [q9] at hq
            simp only [bnd] at hq ⊢
            cases q8 : compF (fun st i => J.at st i) (turnF g c e (PF.wipe ρ own)) k (i + 1) s9 with
            | stuck => rw [q8] at hq; exact hq
            | exc z s8 => rw [q8] at hq; exact hq
            | ok r s8 => rw [q8] at hq; exact hq
        cases q2 : g d (PF.wipe ρ own) st with
        | stuck => exact (stk (r := .stuck) (by simp only [turnF, q2]; rfl)).elim
        | exc z st2 => exact (stk (r := .stuck) (by simp only [turnF, q2]; rfl)).elim
        | ok ρ2 st2 =>
          intro m2 H2 σ2 g2 s3 ⟨e3, sm⟩
          refine ⟨wipe_same sm, m2, ρ2, st2, s3, e3, ?_⟩
          cases q3 : tru c ρ2 st2 with
          | stuck => exact (stk (r := .stuck) (by simp only [turnF, q2, bnd, q3]; rfl)).elim
          | exc z st3 => exact (stk (r := .stuck) (by simp only [turnF, q2, bnd, q3]; rfl)).elim
          | ok b st3 =>
            intro m3 H3 b' g3 s4 eb
            cases eb
            have g13 := (g1.trans g2).trans g3
            have h13 := hold (g2.trans g3)
            cases b with
            | false =>
              rw [if_neg (by decide)]
              have hq := stk (r := .ok none st3) (by simp only [turnF, q2, bnd, q3]; rfl)
              exact ⟨m3, st3, acc, vs, ⟨L.gr.trans g13, s4, L.env.mono g13 L.st.mok, L.it.mono g13 L.st.mok, h13.1, h13.2, L.acc.mono g13 L.st.mok⟩, hq⟩
            | true =>
              rw [if_pos rfl]
              refine ⟨m3, ρ2, st3, s4, e3.mono g3 s3.mok, ?_⟩
              cases q4 : e ρ2 st3 with
              | stuck => exact (stk (r := .stuck) (by simp only [turnF, q2, bnd, q3, if_true, q4]; rfl)).elim
              | exc z st4 => exact (stk (r := .stuck) (by simp only [turnF, q2, bnd, q3, if_true, q4]; rfl)).elim
              | ok y0 st4 =>
                have hq := stk (r := .ok (some y0) st4) (by simp only [turnF, q2, bnd, q3, if_true, q4]; rfl)
                have hq : PostR I (rD I) m1 H1 (bnd (compF (fun st i => J.at st i) (turnF g c e (PF.wipe ρ own)) k (i + 1) st4) fun r st2 => newList (acc ++ (y0 :: r)) st2) Q _ := hq
                have ea : (fun (r : List D) (st2 : Store) => newList (acc ++ (y0 :: r)) st2) = fun r st2 => newList ((acc ++ [y0]) ++ r) st2 := by
                  funext r st2
                  simp
                rw [ea] at hq
                intro m4 H4 y' g4 s5 ry
                have g14 := g13.trans g4
                have h14 := hold ((g2.trans g3).trans g4)
                refine ⟨vs, h14.2, ?_, m4, st4, acc ++ [y0], vs ++ [y'], ⟨(L.gr.trans g14).own hp, s5.swap h14.1 h14.2, (L.env.mono g14 L.st.mok).swap h14.2, (L.it.mono g14 L.st.mok).swap h14.2, h14.1, upd_same, ?_⟩, hq⟩
                · have z := lc_size (turnF_nox g c e (PF.wipe ρ own)) hq
                  rw [List.length_append, lim_size] at z
                  rw [← L.acc.length]
                  simp at z
                  omega
                · exact ((L.acc.mono g14 L.st.mok).append (.cons ry .nil)).swap h14.2
theorem e_comp {n : Nat} {own : List (Str × Nat)} {elt tg iter : Expr} {ifs : List Expr} {scope : Scope} {pos : Pos} {j : Env → Store → Res PF.It} {g : D → Env → Store → Res Env} {c e : Env → Store → Res D}
    (hc : X.calm = true) (hN : X.N.Nodup) (hi : PI X tg iter (TIt I xh W j)) (ok : BlkOk X.N X.env.scope scope own)
    (hg : ∀ (s : Shared) (H : Hp) (C : Addr) (cl : List (Str × Addr)) (fp : List Addr), PG (X.blk s H scope (compEnvC scope cl C X.env) fp) tg (TGt I xh W0 (own.map (·.2)) g))
    (ht : ∀ (s : Shared) (H : Hp) (C : Addr) (cl : List (Str × Addr)) (fp : List Addr), PTs (X.blk s H scope (compEnvC scope cl C X.env) fp) ifs (TBl I xh W0 (tru c)))
    (he : ∀ (s : Shared) (H : Hp) (C : Addr) (cl : List (Str × Addr)) (fp : List Addr), PE (X.blk s H scope (compEnvC scope cl C X.env) fp) elt (TD I xh W0 e)) (hs : ∀ x, foldedSetIterable iter X.env x = pure x) :
    PE X (.ListComp elt [⟨tg, iter, ifs, 0⟩] scope pos) (TD I xh W (compE n (own.map (·.2)) j g c e)) :=
  weakE (pe_lc hc hN hi ok hg ht he hs) fun σ H Q h => lc_read h
/-- name = [..] on one line -/
theorem s_setLc {n : Nat} {own : List (Str × Nat)} {i : Nat} {y : Str} {py : Pos} {elt tg iter : Expr} {ifs : List Expr} {scope : Scope} {pos spos : Pos} {j : Env → Store → Res PF.It} {g : D → Env → Store → Res Env} {c e : Env → Store → Res D}
    (hc : X.calm = true) (hN : X.N.Nodup) (hy : X.N[i]? = some y) (hyl : X.env.scope.names.lookup y = some .local) (hsw : swapsWith (.ListComp elt [⟨tg, iter, ifs, 0⟩] scope pos) (some (.Name y py)) spos.line X.env = pure true)
    (hi : PI X tg iter (TIt I xh W j)) (ok : BlkOk X.N X.env.scope scope own)
    (hg : ∀ (s : Shared) (H : Hp) (C : Addr) (cl : List (Str × Addr)) (fp : List Addr), PG (X.blk s H scope (compEnvC scope cl C X.env) fp) tg (TGt I xh W0 (own.map (·.2)) g))
    (ht : ∀ (s : Shared) (H : Hp) (C : Addr) (cl : List (Str × Addr)) (fp : List Addr), PTs (X.blk s H scope (compEnvC scope cl C X.env) fp) ifs (TBl I xh W0 (tru c)))
    (he : ∀ (s : Shared) (H : Hp) (C : Addr) (cl : List (Str × Addr)) (fp : List Addr), PE (X.blk s H scope (compEnvC scope cl C X.env) fp) elt (TD I xh W0 e)) (hs : ∀ x, foldedSetIterable iter X.env x = pure x) :
    PS X (.Assign [.Name y py] (.ListComp elt [⟨tg, iter, ifs, 0⟩] scope pos) spos) (TSt I xh W (asgE (compE n (own.map (·.2)) j g c e) fun d ρ st => .ok (ρ.set i (some (.d d))) st)) :=
  weakS (ps_setLc hc hN hy hyl hsw hi ok hg ht he hs) fun D σ H hw => lc_read (TSt.bind (R1 := rD I) hw fun v H1 d m1 ρ st1 s1 e1 r1 p1 => PostS.next p1 s1 (e1.set (.d r1) i))
end
end PF

set_option Elab.async false
set_option linter.all false
set_option maxRecDepth 100000
/-! Lambdas are made; cells are frozen for a call. -/
namespace PF
open PySem PySem.Spec PyProof.Rows L2

/-- an object that nothing tracks yet is tracked -/
theorem inv_track {X : Cx} {pins : List (Addr × Obj)} {σ : L2.St} {H : Hp} {s : Shared} {f : Addr} {o : HO} (J : L2.Inv X pins σ H s) (hn : H f = none) (h0 : X.s_0.heap.objs.size ≤ f) (hL : f ≠ X.env.locals)
    (hC : ∀ y c, X.env.cells.lookup y = some c → c ≠ f) (hP : ∀ p ∈ X.pn ++ pins, p.1 ≠ f) (ok : ObjOk X.prog X.w (upd H f o) s.heap f o) : L2.Inv X pins σ (upd H f o) s := by
  have sm : ∀ b u, H b = some u → upd H f o b = some u := fun b u e => by rw [upd_ne (ne_of_none e hn)]; exact e
  refine ⟨J.ok, J.os, J.bare, ⟨J.base.keep, J.base.slot, fun b u e n hx => ?_, J.base.there, fun b xs e => sm b _ (J.base.tups b xs e), fun b u xs e => sm b _ (J.base.frzs b u xs e), fun b ps e => ?_⟩, J.loc, J.cell, ?_, fun y c e => ?_, fun p hp => ?_, fun b u e => ?_, J.len⟩
  · rw [upd_ne (Nat.ne_of_lt (Nat.lt_of_lt_of_le (Heap.lt_size e) h0))]
    exact J.base.free b u e n hx
  · obtain ⟨more, q⟩ := J.base.tbls b ps e
    exact ⟨more, sm b _ q⟩
  · rw [upd_ne (Ne.symm hL)]
    exact J.free
  · rw [upd_ne (hC y c e)]
    exact J.freeC y c e
  · obtain ⟨a1, a2, a3, a4, a5⟩ := J.pin p hp
    exact ⟨a1, by rw [upd_ne (hP p hp)]; exact a2, a3, a4, a5⟩
  · by_cases hb : b = f
    · subst hb
      rw [upd_same] at e
      cases e
      exact ok
    · rw [upd_ne hb] at e
      exact (J.hok b u e).stay (fun _ _ _ q => q) (fun d q => sm d _ q) fun d xs q => sm d _ q
/-- a closed table: T tells the names of the code objects in it -/
structure LamC (I : Info) (X : Cx) (c P : Addr) : Prop where
  code : X.env.code = .ref c
  tab : LamX.TabB X.base X.mg c P
  mem : (P, X.env.qual ++ "<lambda>") ∈ I.T
  uni : ∀ p ∈ I.T, p.1 = P → p.2 = X.env.qual ++ "<lambda>"
section
variable {I : Info} {X : Cx} {pins : List (Addr × Obj)} {σ : L2.St} {H : Hp} {s : Shared}
/-- the lambda's function object, new at the heap's end, is tracked -/
theorem lam_laid {L : LamI} {cl : List (Str × Addr)} {c' : Addr} {pm ctv : Value} {h' : Heap} {H1 : Hp} {tk : Nat} (i0 : L2.Inv X pins σ H s) (hsz : s.heap.objs.size ≤ h'.objs.size)
    (J : L2.Inv X pins σ H1 { s with heap := h'.push (PySem.W.kla_obj "<lambda>" L.qual L.params L.body L.scope cl pm c' ctv), toks := tk }) (hn : H1 h'.objs.size = none) :
    L2.Inv X pins σ (upd H1 h'.objs.size (LamO h'.objs.size L cl c')) { s with heap := h'.push (PySem.W.kla_obj "<lambda>" L.qual L.params L.body L.scope cl pm c' ctv), toks := tk } := by
  refine inv_track J hn (Nat.le_trans i0.sz hsz) (Nat.ne_of_gt (Nat.lt_of_lt_of_le i0.lt hsz)) (fun y c e z => ?_) (fun p hp z => ?_) ⟨⟨pm, ctv, Heap.get?_push_size _ rfl⟩, ⟨_, Heap.get?_push_size _ rfl⟩, fun h1 h2 ⟨p1, p2, q⟩ st => ⟨p1, p2, st _ q⟩⟩
  · obtain ⟨v, q⟩ := i0.cell y c e
    exact absurd (Nat.lt_of_lt_of_le q.lt (by rw [z]; exact hsz)) (Nat.lt_irrefl _)
  · exact absurd (Nat.lt_of_lt_of_le (Heap.lt_size (i0.pin p hp).1) (by rw [z]; exact hsz)) (Nat.lt_irrefl _)
theorem tabsGrow {T : List (Addr × Str)} {P c' : Addr} {q : Str} {ps : Array Value} {pos : Pos} (hT : LamX.Tabs T H) (hP : H P = some (.tbl ps)) (ht : TriplesOk ps.toList) (nC : H c' = none) (hu : ∀ p ∈ T, p.1 = P → p.2 = q) :
    LamX.Tabs T (upd (upd H P (.tbl (ps ++ #[rawInt pos.line, rawInt pos.col, .ref c']))) c' (LamX.CodeO c' q)) := by
  intro p hp
  obtain ⟨ps1, t1, t2, t3⟩ := hT p hp
  have stays : ∀ d r, H d = some (LamX.CodeO d r) → upd (upd H P (.tbl (ps ++ #[rawInt pos.line, rawInt pos.col, .ref c']))) c' (LamX.CodeO c' q) d = some (LamX.CodeO d r) := fun d r e => by
    rw [upd_ne (ne_of_none e nC), upd_ne (ne_of e hP (fun z => by cases z))]
    exact e
  by_cases hb : p.1 = P
  · rw [hb, hP] at t1
    cases t1
    have eL : (ps ++ #[rawInt pos.line, rawInt pos.col, .ref c']).toList = ps.toList ++ [rawInt pos.line, rawInt pos.col, .ref c'] := by simp
    refine ⟨_, by rw [hb, upd_ne (ne_of_none hP nC), upd_same], by rw [eL]; exact PySem.TriplesOk_snoc _ _ _ _ ht, fun p' cv hc => ?_⟩
    rw [eL] at hc
    rcases LamX.among_app _ ht hc with z | z
    · obtain ⟨c0, e1, e2⟩ := t3 p' cv z
      exact ⟨c0, e1, stays c0 _ e2⟩
    · refine ⟨c', z, ?_⟩
      rw [hu p hp hb]
      exact upd_same
  · refine ⟨ps1, by rw [upd_ne (ne_of_none t1 nC), upd_ne hb]; exact t1, t2, fun p' cv hc => ?_⟩
    obtain ⟨c0, e1, e2⟩ := t3 p' cv hc
    exact ⟨c0, e1, stays c0 _ e2⟩
/-- all but the tables stays -/
structure Keep (H H1 : Hp) : Prop where
  at_ : ∀ b o, H b = some o → (∀ ps, o ≠ .tbl ps) → H1 b = some o
  dom : ∀ b o, H b = some o → ∃ o', H1 b = some o'
theorem Keep.refl : Keep H H := ⟨fun _ _ e _ => e, fun _ o e => ⟨o, e⟩⟩
theorem Keep.new {H1 : Hp} {p : Addr} {o : HO} (k : Keep H H1) (hp : H1 p = none) : Keep H (upd H1 p o) :=
  ⟨fun b u e t => by rw [upd_ne (ne_of_none (k.at_ b u e t) hp)]; exact k.at_ b u e t, fun b u e => by
    obtain ⟨v, q⟩ := k.dom b u e
    exact ⟨v, by rw [upd_ne (ne_of_none q hp)]; exact q⟩⟩
theorem Keep.gr {H1 : Hp} (k : Keep H H1) (m : AH) : Gr m H m H1 := ⟨⟨[], by simp, by simp⟩, fun a o h _ t => k.at_ a o h t, k.dom⟩
theorem Keep.st {H1 : Hp} {m : AH} {st : Store} (k : Keep H H1) (s : RepSt I m H st) (t : LamX.Tabs I.T H1) : RepSt I m H1 st :=
  ⟨s.len, s.nd, fun n a ds h1 h2 => by
    obtain ⟨vs, h3, h4⟩ := s.ob n a ds h1 h2
    exact ⟨vs, k.at_ a _ h3 (fun _ z => by cases z), h4.mono (k.gr m) s.mok⟩, t⟩
/-- a lambda is made -/
theorem lam_make {L : LamI} {c P : Addr} {pos : Pos} {E : Value → Shared → Prop} {Q : Value → Shared → Prop} (i0 : L2.Inv X pins σ H s) (C : LamC I X c P) (hq : L.qual = X.env.qual ++ "<lambda>") (hT : LamX.Tabs I.T H) (hdef : defaultsOf L.params X.env = ([], []))
    (hfree : ∀ y ∈ L.scope.names, y.2 = .free → ∃ c, X.env.cells.lookup y.1 = some c)
    (h : ∀ (f c' : Addr) (H1 : Hp) (s' : Shared), L2.Inv X pins σ H1 s' → Keep H H1 → LamX.Tabs I.T H1 → H1 f = some (LamO f L (cloFrom X.env.cells L.scope.names []) c') → H1 c' = some (LamX.CodeO c' L.qual) → Q (.ref f) s') :
    wpAny (model X.prog X.w) X.A (eval (.Lambda L.params L.body L.scope pos) X.env) Q E s := by
  obtain ⟨ps, hP, ht, ha⟩ := hT _ C.mem
  dsimp only at hP ha
  refine PySem.W.kla_eval hdef ?_
  rw [← hq]
  have hP' : s.heap.get? P = some { cls := .none, data := .fields ps } := i0.hok P _ hP
  cases hc : codeAmong pos ps.toList with
  | none =>
    refine PySem.W.kla_makeFunction (mg := X.mg) (c := c) (P := P) (ps := ps) (closure_ok hfree) i0.ok.glob (i0.mod.glob.keeps i0.bk) C.code (C.tab.code.keeps i0.bk) hP' ht hc C.tab.gP (C.tab.bm.keeps i0.bk) fun c' ctv h' tk hx hge hlt hrec htb => ?_
    obtain ⟨c2, oc, vs, t, e2, hoc, hd, hv⟩ := hrec
    cases e2
    have nC : H c' = none := i0.hok.fresh hge
    have hsz : s.heap.objs.size ≤ h'.objs.size := Nat.le_trans hge (Nat.le_of_lt hlt)
    have J := LamX.inv_table (t' := tk) (more := #[rawInt pos.line, rawInt pos.col, .ref c']) (q := L.qual)
      (h' := h'.push (PySem.W.kla_obj "<lambda>" L.qual L.params L.body L.scope (cloFrom X.env.cells L.scope.names []) ((X.mg "__name__").getD .none) c' ctv)) i0 hP
      (fun b o hb e => Heap.get?_push_of_some _ (hx b o hb e)) (Heap.get?_push_of_some _ htb) hge ⟨oc, vs, t, Heap.get?_push_of_some _ hoc, hd, hv⟩
    have nF : upd (upd H P (.tbl (ps ++ #[rawInt pos.line, rawInt pos.col, .ref c']))) c' (LamX.CodeO c' L.qual) h'.objs.size = none := by
      rw [upd_ne (Nat.ne_of_gt hlt), upd_ne (Nat.ne_of_gt (Nat.lt_of_lt_of_le (Heap.lt_size hP') hsz))]
      exact i0.hok.fresh hsz
    refine h h'.objs.size c' _ _ (lam_laid i0 hsz J nF) ?_ (Tabs.upd (tabsGrow hT hP ht nC fun p hp e => (C.uni p hp e).trans hq.symm) nF) upd_same ?_
    · have k1 : Keep H (upd (upd H P (.tbl (ps ++ #[rawInt pos.line, rawInt pos.col, .ref c']))) c' (LamX.CodeO c' L.qual)) :=
        ⟨fun a o e t => by
          rw [upd_ne (ne_of_none e nC), upd_ne (fun z => t ps (Option.some.inj (e.symm.trans (by rw [z]; exact hP))))]
          exact e, fun a o e => by
          rw [upd_ne (ne_of_none e nC)]
          by_cases z : a = P
          · rw [z, upd_same]; exact ⟨_, rfl⟩
          · rw [upd_ne z]; exact ⟨o, e⟩⟩
      exact k1.new nF
    · rw [upd_ne (Nat.ne_of_lt hlt)]
      exact upd_same
  | some cv =>
    obtain ⟨c', e, hco⟩ := ha pos cv hc
    subst e
    refine PySem.W.kla_makeFunctionHit (mg := X.mg) (c := c) (P := P) (ps := ps) (closure_ok hfree) i0.ok.glob (i0.mod.glob.keeps i0.bk) C.code (C.tab.code.keeps i0.bk) hP' ht hc (C.tab.bm.keeps i0.bk) fun ctv h' tk hx hsz => ?_
    have J : L2.Inv X pins σ H { s with heap := h'.push (PySem.W.kla_obj "<lambda>" L.qual L.params L.body L.scope (cloFrom X.env.cells L.scope.names []) ((X.mg "__name__").getD .none) c' ctv), toks := tk } :=
      i0.kept fun b o e => Heap.get?_push_of_some _ (hx b o e)
    have nF : H h'.objs.size = none := i0.hok.fresh hsz
    refine h h'.objs.size c' _ _ (lam_laid i0 hsz J nF) (Keep.refl.new nF) (Tabs.upd hT nF) upd_same ?_
    rw [upd_ne (ne_of_none hco nF), hq]
    exact hco
end
end PF

set_option Elab.async false
set_option linter.all false
set_option maxRecDepth 100000
/-! Cells are frozen while a callee runs. -/
namespace PF
open PySem PySem.Spec PyProof.Rows L2

/-- the cells that are found by a name -/
def cellsOf (cl : List (Str × Addr)) : List (Str × Addr) := cl.filter fun p => cl.lookup p.1 == some p.2
theorem cellsOf_mem {cl : List (Str × Addr)} {p : Str × Addr} : p ∈ cellsOf cl ↔ p ∈ cl ∧ cl.lookup p.1 = some p.2 := by
  unfold cellsOf
  rw [List.mem_filter]
  simp
theorem cellsOf_look {cl : List (Str × Addr)} {y : Str} {c : Addr} (h : cl.lookup y = some c) : c ∈ (cellsOf cl).map (·.2) :=
  List.mem_map.mpr ⟨(y, c), cellsOf_mem.mpr ⟨PySem.mem_of_lookup h, h⟩, rfl⟩
theorem cellsOf_has {cl : List (Str × Addr)} {c : Addr} (h : c ∈ (cellsOf cl).map (·.2)) : ∃ y, cl.lookup y = some c := by
  obtain ⟨p, hp, e⟩ := List.mem_map.mp h
  exact ⟨p.1, by rw [(cellsOf_mem.mp hp).2, e]⟩
def freeze (h : Heap) (cl : List (Str × Addr)) (H : Hp) : Hp := fun b => if b ∈ (cellsOf cl).map (·.2) then (h.get? b).map fun o => HO.frz o cellU else H b

/-- what is known of the cells that are to be frozen -/
structure CellsK (cl : List (Str × Addr)) (H : Hp) (h : Heap) : Prop where
  free : ∀ y c, cl.lookup y = some c → H c = none
  cell : ∀ y c, cl.lookup y = some c → ∃ v, h.IsCell c v
section
variable {cl : List (Str × Addr)} {H : Hp} {h : Heap}
theorem CellsK.at_ (k : CellsK cl H h) {b : Addr} (hb : b ∈ (cellsOf cl).map (·.2)) : ∃ o v, h.get? b = some o ∧ o.data = .cell v ∧ freeze h cl H b = some (.frz o cellU) ∧ H b = none := by
  obtain ⟨y, e⟩ := cellsOf_has hb
  obtain ⟨v, o, ho, hd⟩ := k.cell y b e
  exact ⟨o, v, ho, hd, by unfold freeze; rw [if_pos hb, ho]; rfl, k.free y b e⟩
theorem freeze_out {b : Addr} (hb : b ∉ (cellsOf cl).map (·.2)) : freeze h cl H b = H b := if_neg hb
theorem CellsK.some_ (k : CellsK cl H h) {b : Addr} {o : HO} (e : H b = some o) : freeze h cl H b = some o := by
  rw [freeze_out]
  · exact e
  · intro hb
    obtain ⟨_, _, _, _, _, n⟩ := k.at_ hb
    rw [n] at e
    cases e
theorem CellsK.none_ (k : CellsK cl H h) {b : Addr} (e : freeze h cl H b = none) : H b = none := by
  by_cases hb : b ∈ (cellsOf cl).map (·.2)
  · obtain ⟨_, _, _, _, _, n⟩ := k.at_ hb
    exact n
  · rw [freeze_out hb] at e
    exact e
theorem CellsK.gr (k : CellsK cl H h) (m : AH) : Gr m H m (freeze h cl H) := ⟨⟨[], by simp, by simp⟩, fun a o e _ _ => k.some_ e, fun a o e => ⟨o, k.some_ e⟩⟩
theorem CellsK.frzAll (k : CellsK cl H h) : FrzAll (cellsOf cl) (freeze h cl H) := fun c hc => by
  obtain ⟨o, v, _, _, e, _⟩ := k.at_ hc
  exact ⟨o, e⟩
theorem CellsK.hok {P : Program} {w : World} (k : CellsK cl H h) (x : HOk P w H h) : HOk P w (freeze h cl H) h := fun a o e => by
  by_cases hb : a ∈ (cellsOf cl).map (·.2)
  · obtain ⟨ob, v, h1, h2, h3, h4⟩ := k.at_ hb
    rw [h3] at e
    cases e
    exact ⟨h1, True.intro, ⟨ob, h1⟩, fun _ _ _ _ => True.intro⟩
  · rw [freeze_out hb] at e
    exact (x a o e).stay (fun _ _ _ q => q) (fun b q => k.some_ q) fun b xs q => k.some_ q
theorem frzU_ne (o : Obj) : (∀ xs, HO.frz o cellU ≠ .tup xs) ∧ (∀ u xs, HO.frz o cellU ≠ .frz u (.tup xs)) ∧ (∀ u xs, HO.frz o cellU ≠ .frz u (.lst xs)) ∧ (∀ φ, HO.frz o cellU ≠ .ext φ) ∧ (∀ xs, HO.frz o cellU ≠ .lst xs) ∧ (∀ ps, HO.frz o cellU ≠ .tbl ps) ∧ ∀ fs, HO.frz o cellU ≠ .xd fs :=
  ⟨fun _ z => (by cases z), fun _ _ z => (by cases z), fun _ _ z => (by cases z), fun _ z => (by cases z), fun _ z => (by cases z), fun _ z => (by cases z), fun _ z => by cases z⟩
end
/-- an object that is no frozen cell is there when the cells are taken out -/
theorem unfrz_of {cl : List (Str × Addr)} {H : Hp} (f : FrzAll cl H) {a : Addr} {o : HO} (e : H a = some o) (n : ∀ u, o ≠ .frz u cellU) : unfrz cl H a = some o := by
  unfold unfrz
  rw [if_neg]
  · exact e
  · intro z
    obtain ⟨oc, q⟩ := f a z
    rw [e] at q
    exact n oc (Option.some.inj q)
section
variable {I : Info} {m : AH} {H : Hp} {cl : List (Str × Addr)}
mutual
theorem RepD.unfrz (f : FrzAll cl H) : ∀ {d : D} {v : V}, RepD I m H d v → RepD I m (PF.unfrz cl H) d v
  | _, _, .non => .non
  | _, _, .bl b => .bl b
  | _, _, .int i => .int i
  | _, _, .str s => .str s
  | _, _, .tup h r => .tup (by
      rcases h with (h | ⟨o, h⟩) | h
      · exact .inl (.inl (unfrz_of f h fun _ z => by cases z))
      · exact .inl (.inr ⟨o, unfrz_of f h fun _ z => by cases z⟩)
      · exact .inr h) (RepDs.unfrz f r)
  | _, _, .loc h => .loc h
  | _, _, .rol h r => .rol (by
      rcases h with ⟨o, h⟩ | h
      · exact .inl ⟨o, unfrz_of f h fun _ z => by cases z⟩
      · exact .inr h) (RepDs.unfrz f r)
  | _, _, .fn h => .fn h
  | _, _, .lam h1 h2 h3 h4 => .lam h1 (unfrz_of f h2 fun _ z => by cases z) (unfrz_of f h3 fun _ z => by cases z) h4
theorem RepDs.unfrz (f : FrzAll cl H) : ∀ {ds : List D} {vs : List V}, RepDs I m H ds vs → RepDs I m (PF.unfrz cl H) ds vs
  | _, _, .nil => .nil
  | _, _, .cons h r => .cons (RepD.unfrz f h) (RepDs.unfrz f r)
end
theorem RepSt.unfrz {st : Store} (f : FrzAll cl H) (s : RepSt I m H st) : RepSt I m (PF.unfrz cl H) st := by
  refine ⟨s.len, s.nd, fun n a ds h1 h2 => ?_, fun p hp => ?_⟩
  · obtain ⟨vs, h3, h4⟩ := s.ob n a ds h1 h2
    exact ⟨vs, unfrz_of f h3 (fun _ z => by cases z), h4.unfrz f⟩
  · obtain ⟨ps, t1, t2, t3⟩ := s.tabs p hp
    refine ⟨ps, unfrz_of f t1 (fun _ z => by cases z), t2, fun pos cv hc => ?_⟩
    obtain ⟨c, e1, e2⟩ := t3 pos cv hc
    exact ⟨c, e1, unfrz_of f e2 fun _ z => by cases z⟩
theorem RepX.unfrz {x : Xn} {cls : Value} {dd : Option Addr} (f : FrzAll cl H) (h : RepX I m H x cls dd) : RepX I m (PF.unfrz cl H) x cls dd := by
  obtain ⟨C, h1, h2, h3⟩ := h
  refine ⟨C, h1, h2, ?_⟩
  cases e : I.fld x.c with
  | none => rw [e] at h3; exact h3
  | some fl =>
    rw [e] at h3
    obtain ⟨d, v, e', h4, h5, h6, h7⟩ := h3
    exact ⟨d, v, e', h4, h5, unfrz_of f h6 (fun _ z => by cases z), h7.unfrz f⟩
theorem RepSt.frz {st : Store} {h : Heap} (k : CellsK cl H h) (s : RepSt I m H st) : RepSt I m (freeze h cl H) st := by
  refine ⟨s.len, s.nd, fun n a ds h1 h2 => ?_, fun p hp => ?_⟩
  · obtain ⟨vs, h3, h4⟩ := s.ob n a ds h1 h2
    exact ⟨vs, k.some_ h3, h4.mono (k.gr m) s.mok⟩
  · obtain ⟨ps, t1, t2, t3⟩ := s.tabs p hp
    refine ⟨ps, k.some_ t1, t2, fun pos cv hc => ?_⟩
    obtain ⟨c, e1, e2⟩ := t3 pos cv hc
    exact ⟨c, e1, k.some_ e2⟩
/-- behind the callee, the cells taken out again: the heap has grown from what it was ahead of the freezing -/
theorem gr_back {h : Heap} {m1 : AH} {H1 : Hp} (k : CellsK cl H h) (mk : MOk m H) (g : Gr m (freeze h cl H) m1 H1) : FrzAll (cellsOf cl) H1 ∧ Gr m H m1 (PF.unfrz (cellsOf cl) H1) := by
  have mf : MOk m (freeze h cl H) := fun a ha => by
    obtain ⟨xs, e⟩ := mk a ha
    exact ⟨xs, k.some_ e⟩
  have f1 : FrzAll (cellsOf cl) H1 := fun c hc => by
    obtain ⟨o, e⟩ := k.frzAll c hc
    exact ⟨o, g.frz mf e⟩
  have nc : ∀ a o, H a = some o → a ∉ (cellsOf cl).map (·.2) := fun a o e z => by
    obtain ⟨_, _, _, _, _, n⟩ := k.at_ z
    rw [n] at e
    cases e
  refine ⟨f1, ?_, fun a o e n t => ?_, fun a o e => ?_⟩
  · obtain ⟨r, e, hr⟩ := g.pre
    exact ⟨r, e, fun a ha => k.none_ (hr a ha)⟩
  · unfold PF.unfrz
    rw [if_neg (nc a o e)]
    exact g.keep a o (k.some_ e) n t
  · unfold PF.unfrz
    rw [if_neg (nc a o e)]
    exact g.dom a o (k.some_ e)
theorem PostR.frz {h : Heap} {r : Res D} {Q : VK} {E : XK} (k : CellsK cl H h) (mk : MOk m H) (p : PostR I (rD I) m H r Q E) :
    PostR I (rD I) m (freeze h cl H) r (fun v H1 => Q v (PF.unfrz (cellsOf cl) H1)) fun c d H1 => E c d (PF.unfrz (cellsOf cl) H1) := by
  cases r with
  | ok d st =>
    intro m1 H1 v g s1 r1
    obtain ⟨f1, g1⟩ := gr_back k mk g
    exact p m1 _ v g1 (s1.unfrz f1) (r1.unfrz f1)
  | exc x st =>
    intro m1 H1 c dd g s1 r1
    obtain ⟨f1, g1⟩ := gr_back k mk g
    exact p m1 _ c dd g1 (s1.unfrz f1) (r1.unfrz f1)
  | stuck => exact p
end
/-! ### the state -/
section
variable {P : Program} {w : World} {outer : List PySem.Env} {H : Hp} {s s' : Shared} {cl : List (Str × Addr)}
theorem env0_frz {K : PySem.W.Frag} {mg : Str → Option Value} {base : Heap} {A : Around} (k : CellsK cl H s.heap) (e : Env0 P w K mg base A outer s H) (hb : ∀ y c, cl.lookup y = some c → base.get? c = none ∧ c ∉ frs outer) : Env0 P w K mg base A outer s (freeze s.heap cl H) := by
  refine ⟨e.frames, e.mod, fun b o q => ⟨(e.bs b o q).1, ?_⟩, e.bsz, e.funs, fun b z => ?_, k.hok e.hok, e.bare⟩
  · rw [freeze_out]
    · exact (e.bs b o q).2
    · intro z
      obtain ⟨y, l⟩ := cellsOf_has z
      rw [(hb y b l).1] at q
      cases q
  · rw [freeze_out]
    · exact e.frf b z
    · intro z'
      obtain ⟨y, l⟩ := cellsOf_has z'
      exact (hb y b l).2 z
theorem hok_unfrz {H1 : Hp} {h : Heap} (f : FrzAll (cellsOf cl) H1) (x : HOk P w H1 h) : HOk P w (unfrz (cellsOf cl) H1) h := fun a o e => by
  unfold unfrz at e
  split at e
  · cases e
  · exact (x a o e).stay (fun _ _ _ q => q) (fun b q => unfrz_of f q fun _ z => by cases z) fun b xs q => unfrz_of f q fun _ z => by cases z
theorem un_back {H1 : Hp} (k : CellsK cl H s.heap) (hk : HOk P w H1 s'.heap) (u : Un (frs outer) [] (freeze s.heap cl H) H1 s.heap s'.heap) : FrzAll (cellsOf cl) H1 ∧ Un (frs outer) [] H (unfrz (cellsOf cl) H1) s.heap s'.heap := by
  have f1 : FrzAll (cellsOf cl) H1 := fun c hc => by
    obtain ⟨o, v, _, _, e, _⟩ := k.at_ hc
    exact ⟨o, u.frzs c o _ e⟩
  have at1 : ∀ b, b ∈ (cellsOf cl).map (·.2) → ∀ o, s.heap.get? b = some o → s'.heap.get? b = some o := fun b hb o e => by
    obtain ⟨o1, v, h1, _, h3, _⟩ := k.at_ hb
    rw [e] at h1
    cases h1
    exact (hk b _ (u.frzs b o _ h3)).1
  refine ⟨f1, fun b o e n hf hx => ?_, fun b o e n hf hx => ?_, fun b o e n hx => ?_, fun b o e hx => u.there b o e hx, fun b xs e => ?_, fun b o x e => ?_, fun b ps e => ?_⟩
  · by_cases hb : b ∈ (cellsOf cl).map (·.2)
    · exact at1 b hb o e
    · exact u.keep b o e (by rw [freeze_out hb]; exact n) hf hx
  · by_cases hb : b ∈ (cellsOf cl).map (·.2)
    · exact ⟨o.slots, at1 b hb o e⟩
    · exact u.slot b o e (by rw [freeze_out hb]; exact n) hf hx
  · unfold unfrz
    split
    · rfl
    · rename_i hb
      exact u.free b o e (by rw [freeze_out hb]; exact n) hx
  · exact unfrz_of f1 (u.tups b xs (k.some_ e)) fun _ z => by cases z
  · have q := u.frzs b o x (k.some_ e)
    unfold unfrz
    rw [if_neg]
    · exact q
    · intro z
      obtain ⟨_, _, _, _, _, n⟩ := k.at_ z
      rw [n] at e
      cases e
  · obtain ⟨more, q⟩ := u.tbls b ps (k.some_ e)
    exact ⟨more, unfrz_of f1 q fun _ z => by cases z⟩
theorem ce_back {Q : VK} {u : Value} (k : CellsK cl H s.heap) (h : CE outer P w (freeze s.heap cl H) s (fun v H1 => Q v (unfrz (cellsOf cl) H1)) u s') : CE outer P w H s Q u s' := by
  obtain ⟨v, H1, os, bare, un, hok, r, q⟩ := h
  obtain ⟨f1, u1⟩ := un_back k hok un
  exact ⟨v, _, os, bare, u1, hok_unfrz f1 hok, r, q⟩
theorem cx_back {E : XK} {u : Value} (k : CellsK cl H s.heap) (h : L2N.CX P w outer (freeze s.heap cl H) s (fun c d H1 => E c d (unfrz (cellsOf cl) H1)) u s') : L2N.CX P w outer H s E u s' := by
  obtain ⟨a, B, H1, cls, d, eu, fl, hok, ub, na, os, ag, q⟩ := h
  have f1 : FrzAll (cellsOf cl) H1 := fun c hc => by
    obtain ⟨o, v, _, _, e, _⟩ := k.at_ hc
    exact ⟨o, ub.frzs c o _ e⟩
  have at1 : ∀ b, b ∈ (cellsOf cl).map (·.2) → ∀ o, s.heap.get? b = some o → B.get? b = some o := fun b hb o e => by
    obtain ⟨o1, v, h1, _, h3, _⟩ := k.at_ hb
    rw [e] at h1
    cases h1
    exact (hok b _ (ub.frzs b o _ h3)).1
  refine ⟨a, B, _, cls, d, eu, fl, hok_unfrz f1 hok, ⟨fun b o e n hf => ?_, ub.slot, fun b o e n => ?_, ub.there, fun b xs e => ?_, fun b o x e => ?_, fun b ps e => ?_⟩, ?_, os, ag, q⟩
  · by_cases hb : b ∈ (cellsOf cl).map (·.2)
    · exact at1 b hb o e
    · exact ub.keep b o e (by rw [freeze_out hb]; exact n) hf
  · unfold unfrz
    split
    · rfl
    · rename_i hb
      exact ub.free b o e (by rw [freeze_out hb]; exact n)
  · exact unfrz_of f1 (ub.tups b xs (k.some_ e)) fun _ z => by cases z
  · have q := ub.frzs b o x (k.some_ e)
    unfold unfrz
    rw [if_neg]
    · exact q
    · intro z
      obtain ⟨_, _, _, _, _, n⟩ := k.at_ z
      rw [n] at e
      cases e
  · obtain ⟨more, q⟩ := ub.tbls b ps (k.some_ e)
    exact ⟨more, unfrz_of f1 q fun _ z => by cases z⟩
  · unfold unfrz
    split
    · rfl
    · exact na
end
end PF

set_option Elab.async false
set_option linter.all false
set_option maxRecDepth 100000
/-! Calls. -/
namespace PF
open PySem PySem.Spec PyProof.Rows L2

/-- the run of a lambda's body: its parameters' values, then the captured ones -/
def runLam (Pr : Prog) (Wf : Nat) (n : Nat) (d : Def) (as : List A) (st : Store) : Res D := (den Wf (callN Pr Wf n) d.body).e (startD d as) st
section
variable (I : Info) (Pr : Prog) (Wf : Nat)
def spDef (n i : Nat) : Sp := fun vs H Q E => ∃ m st as, RepSt I m H st ∧ RepAs I m none H as vs ∧ PostR I (rD I) m H (callN Pr Wf n (.d (.fn i)) as st) Q E
/-- a lambda's body keeps its promise; n is the level of its calls -/
def LamOk (P : Program) (w : World) (mg : Str → Option Value) (base : Heap) (n : Nat) (l : Def) (L : LamI) : Prop :=
  ∀ (A : Around) (outer : List PySem.Env) (s : Shared) (H : Hp) (f c' : Addr) (cl : List (Str × Addr)) (pm ctv : Value) (us : List Value) (vs ws : List V) (Q : VK) (E : XK), Room (n + 1) A → Env0 P w I.K mg base A outer s H →
    s.heap.get? f = some (PySem.W.kla_obj "<lambda>" L.qual L.params L.body L.scope cl pm c' ctv) → s.heap.CodeRec (.ref c') L.qual → NdefX.CellsAt cl L.fr (ws.map some) s.heap H → (∀ y c, cl.lookup y = some c → base.get? c = none ∧ c ∉ frs outer) →
    Vals vs us → vs.length = L.ps.length → (∃ m st ds caps, RepSt I m H st ∧ RepDs I m H ds vs ∧ RepAs I m none H caps ws ∧ PostR I (rD I) m H (runLam Pr Wf n l (ds.map .d ++ caps) st) Q E) →
    codeAny (model P w) A (.call (.ref f) ⟨us, []⟩) (CR (L2N.CX P w) outer P w H s Q E) s
/-- what can be called, to a depth -/
structure CallsOk (P : Program) (w : World) (mg : Str → Option Value) (base : Heap) (n : Nat) : Prop where
  fn : ∀ i f, I.fa i = some f → ∃ fd ps, FnOk P w I.K mg base (L2N.CX P w) n f fd ps (spDef I Pr Wf n i) ∧ Binds I.K fd ps [] ∧ PySem.W.keepIn I.K (.ref f) = true
  lam : ∀ k, n = k + 1 → ∀ l L, I.lamP l L → LamOk I Pr Wf P w mg base k l L ∧ l.ps = L.ps.length
end

/-! ### what a call is given: lambdas that were just made have their cells in the frame -/
section
variable (I : Info) (X : Cx) (σ : L2.St)
inductive RepAP (m : AH) (H : Hp) : A → V → Prop
  | a {a : A} {v : V} : RepA I m none H a v → RepAP m H a v
  | pend {l : Def} {L : LamI} {f c' : Addr} {caps : List A} {ws : List V} : I.lamP l L → H f = some (LamO f L (cloFrom X.env.cells L.scope.names []) c') → H c' = some (LamX.CodeO c' L.qual) → RepAs I m none H caps ws → ws.length = L.fr.length →
      (∀ (j : Nat) (y : Str), L.fr[j]? = some y → L.scope.names.lookup y = some .free ∧ ∃ (k : Nat) (v : V), X.N[k]? = some y ∧ (X.env.scope.names.lookup y = some .cell ∨ X.env.scope.names.lookup y = some .free) ∧ ws[j]? = some v ∧ σ[k]? = some (some v)) →
      (∀ y ∈ L.scope.names, y.2 = .free → ∃ c, X.env.cells.lookup y.1 = some c) → RepAP m H (.clo l caps) (.ref f)
inductive RepAPs (m : AH) (H : Hp) : List A → List V → Prop
  | nil : RepAPs m H [] []
  | cons {a : A} {as : List A} {v : V} {vs : List V} : RepAP I X σ m H a v → RepAPs m H as vs → RepAPs m H (a :: as) (v :: vs)
end
section
variable {I : Info} {X : Cx} {σ : L2.St} {m m1 : AH} {H H1 : Hp}
theorem RepAP.mono {a : A} {v : V} (g : Gr m H m1 H1) (k : MOk m H) (h : RepAP I X σ m H a v) : RepAP I X σ m1 H1 a v := by
  cases h with
  | a h => exact .a (h.mono g k)
  | pend h1 h2 h3 h4 h5 h6 h7 => exact .pend h1 (g.ext k h2) (g.ext k h3) (h4.mono g k) h5 h6 h7
theorem RepAPs.mono (g : Gr m H m1 H1) (k : MOk m H) : ∀ {as : List A} {vs : List V}, RepAPs I X σ m H as vs → RepAPs I X σ m1 H1 as vs
  | _, _, .nil => .nil
  | _, _, .cons h r => .cons (h.mono g k) (RepAPs.mono g k r)
theorem inv_cellsK {pins : List (Addr × Obj)} {s : Shared} (iv : L2.Inv X pins σ H s) : CellsK X.env.cells H s.heap := ⟨iv.freeC, iv.cell⟩
theorem RepAP.frz {pins : List (Addr × Obj)} {s : Shared} {a : A} {v : V} (iv : L2.Inv X pins σ H s) (k : MOk m H) (h : RepAP I X σ m H a v) : RepA I m none (freeze s.heap X.env.cells H) a v := by
  have ck := inv_cellsK iv
  cases h with
  | a h => exact h.mono (ck.gr m) k
  | @pend l L f c' caps ws h1 h2 h3 h4 h5 h6 h7 =>
    have cm : ∀ {y c}, (cloFrom X.env.cells L.scope.names []).lookup y = some c → X.env.cells.lookup y = some c := fun {y c} e => NdefX.clo_cm h7 e
    have al : ∀ p ∈ cloFrom X.env.cells L.scope.names [], X.env.cells.lookup p.1 = some p.2 := fun p hp => by
      rcases cloFrom_mem (n := p.1) (c := p.2) hp with z | ⟨z1, z2⟩
      · cases z
      · obtain ⟨c, e⟩ := h7 _ z1 rfl
        have e : X.env.cells.lookup p.1 = some c := e
        rw [z2, e]
        rfl
    have fz : ∀ p ∈ cloFrom X.env.cells L.scope.names [], ∃ oc w, freeze s.heap X.env.cells H p.2 = some (.frz oc cellU) ∧ oc.data = .cell w := fun p hp => by
      obtain ⟨o, w, _, e2, e3, _⟩ := ck.at_ (cellsOf_look (al p hp))
      exact ⟨o, w, e3, e2⟩
    refine .clo h1 (ck.some_ h2) (ck.some_ h3) fz (fun x y c e1 e2 => iv.ok.inj x y c (cm e1) (cm e2)) (fun j y ej => ?_) h5 ?_
    · obtain ⟨hf, i, v, hN, hk, hw, hs⟩ := h6 j y ej
      obtain ⟨mm, hn, hl⟩ := iv.loc
      have vis : Vis X.env.scope y := hk.elim (fun z => .inr (.inl z)) fun z => .inr (.inr z)
      obtain ⟨u, r, lk⟩ := hl i y v hN hs vis
      rcases lk with ⟨k1, _⟩ | ⟨_, c, hc, hcell⟩
      · have k1 : X.env.scope.names.lookup y = some .local := k1
        rcases hk with z | z <;> rw [z] at k1 <;> cases k1
      · obtain ⟨oc, ho, hd⟩ := hcell
        obtain ⟨o, w, e1, e2, e3, _⟩ := ck.at_ (cellsOf_look hc)
        rw [ho] at e1
        cases e1
        exact ⟨c, oc, u, v, NdefX.clo_has h7 (PySem.mem_of_lookup hf) hc, e3, hd, hw, r⟩
    · refine RepAs.mono ⟨⟨[], by simp, by simp⟩, fun a o e _ _ => ?_, fun a o e => ⟨o, ?_⟩⟩ k h4
      all_goals
        unfold unfrz
        rw [if_neg]
        · exact ck.some_ e
        · intro z
          obtain ⟨p, hp, e'⟩ := List.mem_map.mp z
          have q := ck.free _ _ (al p hp)
          rw [e', e] at q
          cases q
theorem RepAPs.frz {pins : List (Addr × Obj)} {s : Shared} (iv : L2.Inv X pins σ H s) (k : MOk m H) : ∀ {as : List A} {vs : List V}, RepAPs I X σ m H as vs → RepAs I m none (freeze s.heap X.env.cells H) as vs
  | _, _, .nil => .nil
  | _, _, .cons h r => .cons (h.frz iv k) (RepAPs.frz iv k r)
end
/-- where the cells of a frame stand -/
def CellsHi (X : Cx) : Prop := ∀ y c, X.env.cells.lookup y = some c → X.base.get? c = none ∧ c ∉ frs X.stack

section
variable {I : Info} {Pr : Prog} {Wf : Nat} {X : Cx} {W : WX} {pins : List (Addr × Obj)} {σ : L2.St} {H : Hp} {s : Shared} {n : Nat}
/-- a def is called -/
theorem run_def {i : Nat} {f : Addr} {fd : FuncData} {ps : List Str} {us : List Value} {vs : List V} {m : AH} {st : Store} {as : List A} {Q : VK} (iv : L2.Inv X pins σ H s) (hK : X.K = I.K) (hc : CellsHi X) (tk : L2N.Takes X W) (hr : Room n X.A)
    (F : FnOk X.prog X.w X.K X.mg X.base (L2N.CX X.prog X.w) n f fd ps (spDef I Pr Wf n i)) (hb : Binds X.K fd ps []) (rv : Vals vs us) (hs : RepSt I m H st) (ra : RepAPs I X σ m H as vs)
    (hp : PostR I (rD I) m H (callN Pr Wf n (.d (.fn i)) as st) Q fun c d H' => W c d σ H') : wpAny (model X.prog X.w) X.A (call (.ref f) us) (EP X pins σ Q) X.xe s := by
  have ck := inv_cellsK iv
  have h : spDef I Pr Wf n i vs (freeze s.heap X.env.cells H) (fun v H1 => Q v (unfrz (cellsOf X.env.cells) H1)) (fun c d H1 => W c d σ (unfrz (cellsOf X.env.cells) H1)) :=
    ⟨m, st, as, hs.frz ck, ra.frz iv hs.mok, hp.frz ck hs.mok⟩
  have hl : us.length = ps.length := by rw [← rv.length]; exact F.len _ _ _ _ h
  have b := hb s us iv.kIn (by rw [List.append_nil]; exact hl)
  rw [List.append_nil] at b
  refine wpAny_call (codeAny_mono (F.run X.A X.stack s _ ⟨us, []⟩ us vs _ _ hr (env0_frz ck iv.env0 hc) b rv h) fun r s' hq => ?_)
  cases r with
  | error e => exact tk e s' (L2N.XE.of_call iv (fun _ _ _ z => z) (cx_back (E := fun c d H1 => W c d σ H1) ck hq))
  | ok fl =>
    cases fl with
    | ret u => exact iv.after (ce_back (Q := Q) ck hq)
    | next => exact False.elim hq
    | brk => exact False.elim hq
    | cont => exact False.elim hq
end
end PF

set_option Elab.async false
set_option linter.all false
set_option maxRecDepth 100000
/-! Lambdas called; the call as an expression. -/
namespace PF
open PySem PySem.Spec PyProof.Rows L2

/-- the cells of a lambda, frozen again -/
def refrz (cl : List (Str × Addr)) (H H1 : Hp) : Hp := fun b => if b ∈ cl.map (·.2) then H b else H1 b
section
variable {I : Info} {m : AH} {H H1 : Hp}
/-! more is tracked -/
mutual
theorem RepD.sup {H2 : Hp} (g : ∀ a o, H1 a = some o → H2 a = some o) : ∀ {d : D} {v : V}, RepD I m H1 d v → RepD I m H2 d v
  | _, _, .non => .non
  | _, _, .bl b => .bl b
  | _, _, .int i => .int i
  | _, _, .str s => .str s
  | _, _, .tup h r => .tup (by
      rcases h with (h | ⟨o, h⟩) | h
      · exact .inl (.inl (g _ _ h))
      · exact .inl (.inr ⟨o, g _ _ h⟩)
      · exact .inr h) (RepDs.sup g r)
  | _, _, .loc h => .loc h
  | _, _, .rol h r => .rol (by
      rcases h with ⟨o, h⟩ | h
      · exact .inl ⟨o, g _ _ h⟩
      · exact .inr h) (RepDs.sup g r)
  | _, _, .fn h => .fn h
  | _, _, .lam h1 h2 h3 h4 => .lam h1 (g _ _ h2) (g _ _ h3) h4
theorem RepDs.sup {H2 : Hp} (g : ∀ a o, H1 a = some o → H2 a = some o) : ∀ {ds : List D} {vs : List V}, RepDs I m H1 ds vs → RepDs I m H2 ds vs
  | _, _, .nil => .nil
  | _, _, .cons h r => .cons (RepD.sup g h) (RepDs.sup g r)
end
theorem RepSt.sup {H2 : Hp} {st : Store} (g : ∀ a o, H1 a = some o → H2 a = some o) (s : RepSt I m H1 st) : RepSt I m H2 st := by
  refine ⟨s.len, s.nd, fun n a ds h1 h2 => ?_, s.tabs.ext g⟩
  obtain ⟨vs, h3, h4⟩ := s.ob n a ds h1 h2
  exact ⟨vs, g _ _ h3, h4.sup g⟩
theorem RepX.sup {H2 : Hp} {x : Xn} {cls : Value} {dd : Option Addr} (g : ∀ a o, H1 a = some o → H2 a = some o) (h : RepX I m H1 x cls dd) : RepX I m H2 x cls dd := by
  obtain ⟨C, h1, h2, h3⟩ := h
  refine ⟨C, h1, h2, ?_⟩
  cases e : I.fld x.c with
  | none => rw [e] at h3; exact h3
  | some fl =>
    rw [e] at h3
    obtain ⟨d, v, e', h4, h5, h6, h7⟩ := h3
    exact ⟨d, v, e', h4, h5, g _ _ h6, h7.sup g⟩
variable {cl : List (Str × Addr)}
theorem refrz_sup (n : ∀ c ∈ cl.map (·.2), H1 c = none) : ∀ a o, H1 a = some o → refrz cl H H1 a = some o := fun a o e => by
  unfold refrz
  rw [if_neg]
  · exact e
  · intro z
    rw [n a z] at e
    cases e
theorem gr_refrz {m1 : AH} (n : ∀ c ∈ cl.map (·.2), H1 c = none) (mk : MOk m1 H1) (g : Gr m (unfrz cl H) m1 H1) : Gr m H m1 (refrz cl H H1) := by
  refine ⟨?_, fun a o e na t => ?_, fun a o e => ?_⟩
  · obtain ⟨r, e, hr⟩ := g.pre
    refine ⟨r, e, fun a ha => ?_⟩
    have z : a ∉ cl.map (·.2) := fun z => by
      obtain ⟨xs, q⟩ := mk a (by rw [e]; exact List.mem_append_right _ ha)
      rw [n a z] at q
      cases q
    have q := hr a ha
    unfold unfrz at q
    rw [if_neg z] at q
    exact q
  · unfold refrz
    by_cases z : a ∈ cl.map (·.2)
    · rw [if_pos z]; exact e
    · rw [if_neg z]
      exact g.keep a o (by unfold unfrz; rw [if_neg z]; exact e) na t
  · unfold refrz
    by_cases z : a ∈ cl.map (·.2)
    · rw [if_pos z]; exact ⟨o, e⟩
    · rw [if_neg z]
      exact g.dom a o (by unfold unfrz; rw [if_neg z]; exact e)
theorem PostR.unfrz {r : Res D} {Q : VK} {E : XK} (p : PostR I (rD I) m H r Q E) : PostR I (rD I) m (PF.unfrz cl H) r (fun v H1 => (∀ c ∈ cl.map (·.2), H1 c = none) → Q v (refrz cl H H1)) fun c d H1 => (∀ c ∈ cl.map (·.2), H1 c = none) → E c d (refrz cl H H1) := by
  cases r with
  | ok d st => exact fun m1 H1 v g s1 r1 n => p m1 _ v (gr_refrz n s1.mok g) (s1.sup (refrz_sup n)) (r1.sup (refrz_sup n))
  | exc x st => exact fun m1 H1 c dd g s1 r1 n => p m1 _ c dd (gr_refrz n s1.mok g) (s1.sup (refrz_sup n)) (r1.sup (refrz_sup n))
  | stuck => exact p
end
section
variable {P : Program} {w : World} {outer : List PySem.Env} {H : Hp} {s s' : Shared} {cl : List (Str × Addr)}
/-- cells that are frozen, with their objects -/
def FrzH (cl : List (Str × Addr)) (H : Hp) : Prop := ∀ p ∈ cl, ∃ oc w, H p.2 = some (.frz oc cellU) ∧ oc.data = .cell w
theorem FrzH.at_ (f : FrzH cl H) {b : Addr} (hb : b ∈ cl.map (·.2)) : ∃ oc w, H b = some (.frz oc cellU) ∧ oc.data = .cell w := by
  obtain ⟨p, hp, e⟩ := List.mem_map.mp hb
  rw [← e]
  exact f p hp
theorem env0_unfrz {K : PySem.W.Frag} {mg : Str → Option Value} {base : Heap} {A : Around} (f : FrzH cl H) (e : Env0 P w K mg base A outer s H) : Env0 P w K mg base A outer s (unfrz cl H) := by
  have f1 : FrzAll cl H := frzAll_of f
  refine ⟨e.frames, e.mod, fun b o q => ⟨(e.bs b o q).1, ?_⟩, e.bsz, e.funs, fun b z => ?_, fun a o q => ?_, e.bare⟩
  · unfold unfrz
    split
    · rfl
    · exact (e.bs b o q).2
  · unfold unfrz
    split
    · rfl
    · exact e.frf b z
  · unfold unfrz at q
    split at q
    · cases q
    · exact (e.hok a o q).stay (fun _ _ _ z => z) (fun b z => unfrz_of f1 z fun _ y => by cases y) fun b xs z => unfrz_of f1 z fun _ y => by cases y
theorem hok_refrz {H1 : Hp} {h : Heap} (f : FrzH cl H) (n : ∀ c ∈ cl.map (·.2), H1 c = none) (x : HOk P w H1 h) (kp : ∀ b ∈ cl.map (·.2), ∀ oc, H b = some (.frz oc cellU) → h.get? b = some oc) : HOk P w (refrz cl H H1) h := fun a o e => by
  unfold refrz at e
  split at e
  · rename_i hb
    obtain ⟨oc, v, h1, _⟩ := f.at_ hb
    have h2 := kp a hb oc h1
    rw [h1] at e
    cases e
    exact ⟨h2, True.intro, ⟨oc, h2⟩, fun _ _ _ _ => True.intro⟩
  · exact (x a o e).stay (fun _ _ _ q => q) (fun b q => refrz_sup n b _ q) fun b xs q => refrz_sup n b _ q
theorem ce_refrz {Q : VK} {u : Value} (f : FrzH cl H) (hok0 : HOk P w H s.heap) (nf : ∀ c ∈ cl.map (·.2), c ∉ frs outer) (h : CE outer P w (unfrz cl H) s (fun v H1 => (∀ c ∈ cl.map (·.2), H1 c = none) → Q v (refrz cl H H1)) u s') : CE outer P w H s Q u s' := by
  obtain ⟨v, H1, os, bare, un, hok, r, q⟩ := h
  have z0 : ∀ c ∈ cl.map (·.2), unfrz cl H c = none := fun c hc => by unfold unfrz; rw [if_pos hc]
  have old : ∀ c ∈ cl.map (·.2), ∀ oc, H c = some (.frz oc cellU) → s.heap.get? c = some oc := fun c hc oc e => (hok0 c _ e).1
  have n : ∀ c ∈ cl.map (·.2), H1 c = none := fun c hc => by
    obtain ⟨oc, w, e, _⟩ := f.at_ hc
    exact un.free c oc (old c hc oc e) (z0 c hc) (by simp)
  have kp : ∀ b ∈ cl.map (·.2), ∀ oc, H b = some (.frz oc cellU) → s'.heap.get? b = some oc := fun b hb oc e => un.keep b oc (old b hb oc e) (z0 b hb) (nf b hb) (by simp)
  have un0 : ∀ b, H b = none → unfrz cl H b = none := fun b e => by
    unfold unfrz
    split
    · rfl
    · exact e
  have rn : ∀ b, H b = none → H1 b = none → refrz cl H H1 b = none := fun b e e1 => by
    unfold refrz
    split
    · exact e
    · exact e1
  refine ⟨v, _, os, bare, ⟨fun b o e nb hf hx => un.keep b o e (un0 b nb) hf hx, fun b o e nb hf hx => un.slot b o e (un0 b nb) hf hx, fun b o e nb hx => rn b nb (un.free b o e (un0 b nb) hx), un.there, fun b xs e => ?_, fun b o x e => ?_, fun b ps e => ?_⟩, hok_refrz f n hok kp, r, q n⟩
  · exact refrz_sup n b _ (un.tups b xs (unfrz_of (frzAll_of f) e fun _ y => by cases y))
  · unfold refrz
    by_cases hb : b ∈ cl.map (·.2)
    · rw [if_pos hb]; exact e
    · rw [if_neg hb]
      exact un.frzs b o x (by unfold unfrz; rw [if_neg hb]; exact e)
  · obtain ⟨more, z⟩ := un.tbls b ps (unfrz_of (frzAll_of f) e fun _ y => by cases y)
    exact ⟨more, refrz_sup n b _ z⟩
theorem cx_refrz {E : XK} {u : Value} (f : FrzH cl H) (hok0 : HOk P w H s.heap) (nf : ∀ c ∈ cl.map (·.2), c ∉ frs outer) (h : L2N.CX P w outer (unfrz cl H) s (fun c d H1 => (∀ c ∈ cl.map (·.2), H1 c = none) → E c d (refrz cl H H1)) u s') : L2N.CX P w outer H s E u s' := by
  obtain ⟨a, B, H1, cls, d, eu, fl, hok, ub, na, os, ag, q⟩ := h
  have z0 : ∀ c ∈ cl.map (·.2), unfrz cl H c = none := fun c hc => by unfold unfrz; rw [if_pos hc]
  have old : ∀ c ∈ cl.map (·.2), ∀ oc, H c = some (.frz oc cellU) → s.heap.get? c = some oc := fun c hc oc e => (hok0 c _ e).1
  have n : ∀ c ∈ cl.map (·.2), H1 c = none := fun c hc => by
    obtain ⟨oc, w, e, _⟩ := f.at_ hc
    exact ub.free c oc (old c hc oc e) (z0 c hc)
  have kp : ∀ b ∈ cl.map (·.2), ∀ oc, H b = some (.frz oc cellU) → B.get? b = some oc := fun b hb oc e => ub.keep b oc (old b hb oc e) (z0 b hb) (nf b hb)
  have un0 : ∀ b, H b = none → unfrz cl H b = none := fun b e => by
    unfold unfrz
    split
    · rfl
    · exact e
  have rn : ∀ b, H b = none → H1 b = none → refrz cl H H1 b = none := fun b e e1 => by
    unfold refrz
    split
    · exact e
    · exact e1
  -- the error's own place is no cell: it is new
  have ha : refrz cl H H1 a = none := by
    unfold refrz
    split
    · rename_i hb
      obtain ⟨oc, w, e, hd⟩ := f.at_ hb
      have e1 := kp a hb oc e
      exact absurd (fl.1 a oc e1) (by
        intro z
        rw [fl.2.1] at e1
        cases e1)
    · exact na
  refine ⟨a, B, _, cls, d, eu, fl, hok_refrz f n hok kp, ⟨fun b o e nb hf => ub.keep b o e (un0 b nb) hf, ub.slot, fun b o e nb => rn b nb (ub.free b o e (un0 b nb)), ub.there, fun b xs e => ?_, fun b o x e => ?_, fun b ps e => ?_⟩, ha, os, ag, q n⟩
  · exact refrz_sup n b _ (ub.tups b xs (unfrz_of (frzAll_of f) e fun _ y => by cases y))
  · unfold refrz
    by_cases hb : b ∈ cl.map (·.2)
    · rw [if_pos hb]; exact e
    · rw [if_neg hb]
      exact ub.frzs b o x (by unfold unfrz; rw [if_neg hb]; exact e)
  · obtain ⟨more, z⟩ := ub.tbls b ps (unfrz_of (frzAll_of f) e fun _ y => by cases y)
    exact ⟨more, refrz_sup n b _ z⟩
end
section
variable {I : Info} {Pr : Prog} {Wf : Nat} {X : Cx} {W : WX} {pins : List (Addr × Obj)} {σ : L2.St} {H : Hp} {s : Shared} {n : Nat}
/-- a lambda is called, from the heap where its cells are frozen -/
theorem lam_code {P : Program} {w : World} {mg : Str → Option Value} {base : Heap} {l : Def} {L : LamI} {A : Around} {outer : List PySem.Env} {f c' : Addr} {cl : List (Str × Addr)} {us : List Value} {vs ws : List V} {Q : VK} {E : XK} {m : AH} {st : Store} {ds : List D} {caps : List PF.A}
    (ok : LamOk I Pr Wf P w mg base n l L) (hr : Room (n + 1) A) (e0 : Env0 P w I.K mg base A outer s H) (hf : H f = some (LamO f L cl c')) (hc : H c' = some (LamX.CodeO c' L.qual)) (fz : FrzH cl H) (inj : ∀ x y c, cl.lookup x = some c → cl.lookup y = some c → x = y)
    (has : ∀ (j : Nat) (y : Str), L.fr[j]? = some y → ∃ c oc u v, cl.lookup y = some c ∧ H c = some (.frz oc cellU) ∧ oc.data = .cell (some u) ∧ ws[j]? = some v ∧ RelV v u) (hw : ws.length = L.fr.length) (rv : Vals vs us) (hl : vs.length = L.ps.length)
    (hs : RepSt I m H st) (rd : RepDs I m H ds vs) (rc : RepAs I m none (unfrz cl H) caps ws) (hp : PostR I (rD I) m H (runLam Pr Wf n l (ds.map PF.A.d ++ caps) st) Q E) :
    codeAny (model P w) A (.call (.ref f) ⟨us, []⟩) (CR (L2N.CX P w) outer P w H s Q E) s := by
  have f1 : FrzAll cl H := frzAll_of fz
  obtain ⟨⟨pm, ctv, of⟩, _, _⟩ := e0.hok f _ hf
  obtain ⟨⟨oc, xs, t, hoc, hdc, hvc⟩, _, _⟩ := e0.hok c' _ hc
  have nf : ∀ c ∈ cl.map (·.2), c ∉ frs outer := fun c hc z => by
    obtain ⟨o, w, e, _⟩ := fz.at_ hc
    rw [e0.frf c z] at e
    cases e
  have nb : ∀ c ∈ cl.map (·.2), base.get? c = none := fun c hc => by
    obtain ⟨o, w, e, _⟩ := fz.at_ hc
    cases q : base.get? c with
    | none => rfl
    | some o' =>
      rw [(e0.bs c o' q).2] at e
      cases e
  have mem : ∀ {y c}, cl.lookup y = some c → c ∈ cl.map (·.2) := fun {y c} e => List.mem_map.mpr ⟨(y, c), PySem.mem_of_lookup e, rfl⟩
  have C : NdefX.CellsAt cl L.fr (ws.map some) s.heap (unfrz cl H) := by
    refine ⟨by simp [hw], fun y c e => ?_, inj, fun j y ej => ?_⟩
    · obtain ⟨o, w, q, hd⟩ := fz.at_ (mem e)
      exact ⟨by unfold unfrz; rw [if_pos (mem e)], w, o, (e0.hok c _ q).1, hd⟩
    · obtain ⟨c, o, u, v, a1, a2, a3, a4, a5⟩ := has j y ej
      refine ⟨c, a1, fun v' hv => ?_⟩
      rw [List.getElem?_map, a4] at hv
      cases hv
      exact ⟨u, a5, o, (e0.hok c _ a2).1, a3⟩
  refine codeAny_mono (ok A outer s (unfrz cl H) f c' cl pm ctv us vs ws _ _ hr (env0_unfrz fz e0) of ⟨c', oc, xs, t, rfl, hoc, hdc, hvc⟩ C (fun y c e => ⟨nb c (mem e), nf c (mem e)⟩) rv hl ⟨m, st, ds, caps, hs.unfrz f1, rd.unfrz f1, rc, hp.unfrz⟩) fun r s' hq => ?_
  cases r with
  | error e => exact cx_refrz fz e0.hok nf hq
  | ok fl =>
    cases fl with
    | ret u => exact ce_refrz fz e0.hok nf hq
    | next => exact False.elim hq
    | brk => exact False.elim hq
    | cont => exact False.elim hq
end
end PF

set_option Elab.async false
set_option linter.all false
set_option maxRecDepth 100000
/-! The call as an expression; lambdas as arguments and as values. -/
namespace PF
open PySem PySem.Spec PyProof.Rows L2
section
variable {I : Info} {Pr : Prog} {Wf : Nat} {X : Cx} {W : WX} {n : Nat}

/-- arguments of a call -/
def TAP (I : Info) (X : Cx) (W : WX) (g : Env → Store → Res (List PF.A)) : TA := fun σ H Q => TR I none W (fun m H as vs => RepAPs I X σ m H as vs) g σ H Q
def TA1 (I : Info) (X : Cx) (W : WX) (g : Env → Store → Res PF.A) : TE := fun σ H Q => TR I none W (fun m H a v => RepAP I X σ m H a v) g σ H Q

theorem ap_nil : PA X [] (TAP I X W fun _ st => .ok [] st) := weakA pa_nil fun σ H Q ⟨m, ρ, st, hs, he, hp⟩ => hp.here hs .nil
theorem ap_cons {e : Expr} {es : List Expr} {f : Env → Store → Res PF.A} {g : Env → Store → Res (List PF.A)} (ha : PE X e (TA1 I X W f)) (hr : PA X es (TAP I X W g)) (hs : starEach (e :: es) X.env = (false, eval e X.env) :: starEach es X.env) :
    PA X (e :: es) (TAP I X W fun ρ st => bnd (f ρ st) fun d st1 => bnd (g ρ st1) fun ds st2 => .ok (d :: ds) st2) :=
  weakA (pa_cons ha hr hs) fun σ H Q h => by
    refine TR.bind h fun v H1 d m1 ρ st1 s1 e1 r1 p1 => ⟨m1, ρ, st1, s1, e1, p1.bind.imp fun vs H2 ⟨ds, m2, st2, M⟩ => ?_⟩
    exact M.post.here M.st (.cons (r1.mono M.gr s1.mok) M.rep)
/-- a plain value as an argument -/
theorem a1_val {e : Expr} {f : Env → Store → Res D} (h : PE X e (TD I none W f)) : PE X e (TA1 I X W fun ρ st => bnd (f ρ st) fun d st1 => .ok (.d d) st1) :=
  weakE h fun σ H Q hw => TR.bind (R1 := rD I) hw fun v H1 d m1 ρ st1 s1 e1 r1 p1 => p1.here s1 (.a (.d r1))
theorem a1_var {i : Nat} {e : Expr} (h : PE X e (tVar i)) : PE X e (TA1 I X W (slotA i)) :=
  weakE h fun σ H Q ⟨m, ρ, st, hs, he, hp⟩ => by
    unfold slotA at hp
    cases q : ρ[i]? with
    | none => rw [q] at hp; exact hp.elim
    | some o =>
      cases o with
      | none => rw [q] at hp; exact hp.elim
      | some a =>
        rw [q] at hp
        obtain ⟨v, h1, h2⟩ := he.at_ i _ q
        exact ⟨v, h1, hp.here hs (.a h2)⟩
theorem slots_rep {m : AH} {H : Hp} {σ : L2.St} {ρ : Env} (he : RepEnv I m none H σ ρ) : ∀ {is : List Nat} {as : List PF.A}, slotsAt ρ is = some as → ∃ ws, RepAs I m none H as ws ∧ ws.length = is.length ∧ ∀ (j i : Nat), is[j]? = some i → ∃ v : V, ws[j]? = some v ∧ σ[i]? = some (some v)
  | [], as, h => by
    cases h
    exact ⟨[], .nil, rfl, fun j i e => by simp at e⟩
  | i :: is, as, h => by
    simp only [slotsAt] at h
    cases q : ρ[i]? with
    | none => rw [q] at h; cases h
    | some o =>
      cases o with
      | none => rw [q] at h; cases h
      | some a =>
        rw [q] at h
        dsimp only at h
        cases q2 : slotsAt ρ is with
        | none => rw [q2] at h; cases h
        | some bs =>
          rw [q2] at h
          cases h
          obtain ⟨v, h1, h2⟩ := he.at_ i _ q
          obtain ⟨ws, h3, h4, h5⟩ := slots_rep he q2
          refine ⟨v :: ws, .cons h2 h3, by simp [h4], fun j k e => ?_⟩
          cases j with
          | zero => simp at e; subst e; exact ⟨v, rfl, h1⟩
          | succ j =>
            obtain ⟨w, a1, a2⟩ := h5 j k (by simpa using e)
            exact ⟨w, by simpa using a1, a2⟩
/-- a lambda with captured names, as an argument -/
theorem a1_lam {l : Def} {L : LamI} {c P : Addr} {pos : Pos} {is : List Nat} (hL : I.lamP l L) (C : LamC I X c P) (hq : L.qual = X.env.qual ++ "<lambda>") (hdef : defaultsOf L.params X.env = ([], []))
    (hfree : ∀ y ∈ L.scope.names, y.2 = .free → X.env.scope.names.lookup y.1 = some .cell ∨ X.env.scope.names.lookup y.1 = some .free) (hlen : is.length = L.fr.length)
    (hfr : ∀ (j : Nat) (y : Str), L.fr[j]? = some y → L.scope.names.lookup y = some .free ∧ ∃ i : Nat, is[j]? = some i ∧ X.N[i]? = some y ∧ (X.env.scope.names.lookup y = some .cell ∨ X.env.scope.names.lookup y = some .free)) :
    PE X (.Lambda L.params L.body L.scope pos) (TA1 I X W fun ρ st => oth ((slotsAt ρ is).map fun ds => .clo l ds) st) := by
  refine ⟨fun pins s σ H Q iv ⟨m, ρ, st, hs, he, hp⟩ => ?_⟩
  obtain ⟨a, ha, hp⟩ := hp.oth
  cases q : slotsAt ρ is with
  | none => rw [q] at ha; cases ha
  | some as =>
    rw [q] at ha
    cases ha
    obtain ⟨ws, h1, h2, h3⟩ := slots_rep he q
    have hf2 : ∀ y ∈ L.scope.names, y.2 = .free → ∃ c, X.env.cells.lookup y.1 = some c := fun y hy e => (hfree y hy e).elim (fun k => iv.ok.has _ (.inl k)) fun k => iv.ok.has _ (.inr k)
    refine lam_make iv C hq hs.tabs hdef hf2 fun f c' H1 s' iv1 g tb1 hf hc => ?_
    have g1 := g.gr m
    refine ⟨.ref f, H1, iv1, rfl, hp m H1 _ g1 (g.st hs tb1) (.pend hL hf hc (h1.mono g1 hs.mok) (by rw [h2, hlen]) (fun j y ej => ?_) hf2)⟩
    · obtain ⟨b1, i, b2, b3, b4⟩ := hfr j y ej
      obtain ⟨v, b5, b6⟩ := h3 j i b2
      exact ⟨b1, i, v, b3, b4, b5, b6⟩
/-- a lambda that captures nothing, as a value -/
theorem e_lam {l : Def} {L : LamI} {c P : Addr} {pos : Pos} {xh : XH} (hL : I.lamP l L) (C : LamC I X c P) (hq : L.qual = X.env.qual ++ "<lambda>") (hdef : defaultsOf L.params X.env = ([], [])) (hfree : ∀ y ∈ L.scope.names, y.2 ≠ .free) (hfr : L.fr = []) :
    PE X (.Lambda L.params L.body L.scope pos) (TD I xh W fun _ st => .ok (.lam l) st) := by
  refine ⟨fun pins s σ H Q iv ⟨m, ρ, st, hs, he, hp⟩ => ?_⟩
  refine lam_make iv C hq hs.tabs hdef (fun y hy e => absurd e (hfree y hy)) fun f c' H1 s' iv1 g tb1 hf hc => ?_
  have e0 : cloFrom X.env.cells L.scope.names [] = [] := by
    have : ∀ (names : List (Str × NameKind)), (∀ y ∈ names, y.2 ≠ .free) → cloFrom X.env.cells names [] = [] := by
      intro names
      induction names with
      | nil => intro _; rfl
      | cons a r ih =>
        intro h
        unfold cloFrom
        have h1 := h a List.mem_cons_self
        rw [if_neg (by simpa using h1)]
        exact ih fun y hy => h y (List.mem_cons_of_mem _ hy)
    exact this _ hfree
  rw [e0] at hf
  exact ⟨.ref f, H1, iv1, rfl, hp m H1 _ (g.gr m) (g.st hs tb1) (.lam hL hf hc hfr)⟩

/-! ### the call itself -/
theorem plain_rep {m : AH} {H : Hp} {σ : L2.St} : ∀ {as : List PF.A} {vs : List V} {ds : List D}, RepAPs I X σ m H as vs → plainAs as = some ds → RepDs I m H ds vs ∧ as = ds.map PF.A.d
  | _, _, _, .nil, h => by cases h; exact ⟨.nil, rfl⟩
  | _, _, _, .cons h r, e => by
    rename_i a as v vs
    cases a with
    | d d =>
      simp only [plainAs] at e
      cases q : plainAs as with
      | none => rw [q] at e; cases e
      | some es =>
        rw [q] at e
        cases e
        obtain ⟨h1, h2⟩ := plain_rep r q
        cases h with
        | a h => cases h with
          | d h => exact ⟨.cons h h1, by rw [h2]; rfl⟩
    | clo => cases e
    | exn => cases e
/-- a value is called -/
theorem call_any {pins : List (Addr × Obj)} {σ : L2.St} {H : Hp} {s : Shared} {f : Addr} {us : List Value} {vs : List V} {m : AH} {st : Store} {a : PF.A} {as : List PF.A} {Q : VK} (iv : L2.Inv X pins σ H s) (hK : X.K = I.K) (hc : CellsHi X) (tk : L2N.Takes X W) (hr : Room n X.A)
    (ok : CallsOk I Pr Wf X.prog X.w X.mg X.base n) (rf : RepA I m none H a (.ref f)) (rv : Vals vs us) (hs : RepSt I m H st) (ra : RepAPs I X σ m H as vs) (hp : PostR I (rD I) m H (callN Pr Wf n a as st) Q fun c d H' => W c d σ H') :
    wpAny (model X.prog X.w) X.A (call (.ref f) us) (EP X pins σ Q) X.xe s := by
  have ck := inv_cellsK iv
  cases n with
  | zero => cases a <;> exact hp.elim
  | succ k =>
    have back : codeAny (model X.prog X.w) X.A (.call (.ref f) ⟨us, []⟩) (CR (L2N.CX X.prog X.w) X.stack X.prog X.w (freeze s.heap X.env.cells H) s (fun v H1 => Q v (unfrz (cellsOf X.env.cells) H1)) fun c d H1 => W c d σ (unfrz (cellsOf X.env.cells) H1)) s →
        wpAny (model X.prog X.w) X.A (call (.ref f) us) (EP X pins σ Q) X.xe s := fun hcd => by
      refine wpAny_call (codeAny_mono hcd fun r s' hq => ?_)
      cases r with
      | error e => exact tk e s' (L2N.XE.of_call iv (fun _ _ _ z => z) (cx_back (E := fun c d H1 => W c d σ H1) ck hq))
      | ok fl =>
        cases fl with
        | ret u => exact iv.after (ce_back (Q := Q) ck hq)
        | next => exact False.elim hq
        | brk => exact False.elim hq
        | cont => exact False.elim hq
    have e0 : Env0 X.prog X.w I.K X.mg X.base X.A X.stack s (freeze s.heap X.env.cells H) := by
      rw [← hK]
      exact env0_frz ck iv.env0 hc
    cases rf with
    | d rd => cases rd with
      | fn hf =>
        obtain ⟨fd, ps, F, hb, _⟩ := ok.fn _ _ hf
        rw [← hK] at F hb
        exact run_def iv hK hc tk hr F hb rv hs ra hp
      | @lam l L f c' hL hf hcode hfr =>
        obtain ⟨lok, hps⟩ := ok.lam k rfl l L hL
        simp only [callN] at hp
        cases q : plainAs as with
        | none => rw [q] at hp; exact hp.elim
        | some ds =>
          rw [q] at hp
          dsimp only at hp
          split at hp
          · rename_i hlen
            obtain ⟨r1, r2⟩ := plain_rep ra q
            have er : runLam Pr Wf k l (ds.map PF.A.d ++ []) st = (den Wf (callN Pr Wf k) l.body).e (startD l (ds.map PF.A.d)) st := by
              unfold runLam
              rw [List.append_nil]
            rw [← er] at hp
            exact back (lam_code lok hr e0 (ck.some_ hf) (ck.some_ hcode) (cl := []) (ws := []) (caps := []) (fun p hp => by cases hp) (fun x y c e => by cases e) (fun j y e => by rw [hfr] at e; simp at e) (by rw [hfr]; rfl) rv (by rw [← r1.length, hlen, hps]) (hs.frz ck) (r1.mono (ck.gr m) hs.mok) .nil (hp.frz ck hs.mok))
          · exact hp.elim
      | _ => exact hp.elim
    | @clo _ l L f c' cl caps ws hL hf hcode h4 h5 h6 h7 h8 =>
      obtain ⟨lok, hps⟩ := ok.lam k rfl l L hL
      simp only [callN] at hp
      cases q : plainAs as with
      | none => rw [q] at hp; exact hp.elim
      | some ds =>
        rw [q] at hp
        dsimp only at hp
        split at hp
        · rename_i hlen
          obtain ⟨r1, r2⟩ := plain_rep ra q
          have er : runLam Pr Wf k l (ds.map PF.A.d ++ caps) st = (den Wf (callN Pr Wf k) l.body).e (startD l (ds.map PF.A.d ++ caps)) st := rfl
          rw [← er] at hp
          have g := (ck.gr m).unfrz hs.mok (frzAll_of h4)
          exact back (lam_code lok hr e0 (ck.some_ hf) (ck.some_ hcode) (fun p hp => let ⟨oc, w, z1, z2⟩ := h4 p hp; ⟨oc, w, ck.some_ z1, z2⟩) h5 (fun j y e => let ⟨c, oc, u, v, a1, a2, a3, a4, a5⟩ := h6 j y e; ⟨c, oc, u, v, a1, ck.some_ a2, a3, a4, a5⟩) h7 rv (by rw [← r1.length, hlen, hps])
            (hs.frz ck) (r1.mono (ck.gr m) hs.mok) (h8.mono g (hs.mok.unfrz (frzAll_of h4))) (hp.frz ck hs.mok))
        · exact hp.elim
    | exn h1 h2 => cases h1
end
end PF

set_option Elab.async false
set_option linter.all false
set_option maxRecDepth 100000
/-! Calls of defs and of what slots hold. -/
namespace PF
open PySem PySem.Spec PyProof.Rows L2
section
variable {I : Info} {Pr : Prog} {Wf : Nat} {X : Cx} {W : WX} {n : Nat}
/-- what a context must give so that calls can be made in it -/
structure Cc (I : Info) (Pr : Prog) (Wf : Nat) (X : Cx) (W : WX) (n : Nat) : Prop where
  hK : X.K = I.K
  hc : CellsHi X
  tk : L2N.Takes X W
  hr : Room n X.A
  ok : CallsOk I Pr Wf X.prog X.w X.mg X.base n
theorem calA_some {a b : PF.A} (h : calA a = some b) : b = a := by
  unfold calA at h
  split at h <;> first | (cases h; rfl) | cases h
/-- a thing that can be called is a reference -/
theorem rep_ref {m : AH} {H : Hp} {a b : PF.A} {v : V} (h : calA a = some b) (r : RepA I m none H a v) : ∃ f, v = .ref f := by
  cases r with
  | d r => cases r with
    | fn h => exact ⟨_, rfl⟩
    | lam _ _ _ _ => exact ⟨_, rfl⟩
    | _ => cases h
  | clo => exact ⟨_, rfl⟩
  | exn h1 _ => cases h1
/-- how a callee stands in a heap -/
theorem rep_keep {pins : List (Addr × Obj)} {σ : L2.St} {s : Shared} {m : AH} {H : Hp} {a b : PF.A} {f : Addr} (C : Cc I Pr Wf X W n) (h : calA a = some b) (iv : L2.Inv X pins σ H s) (r : RepA I m none H a (.ref f)) : PySem.W.keepIn X.K (.ref f) = true ∨ PySem.W.FnAt f s.heap := by
  cases r with
  | d r => cases r with
    | fn hf =>
      obtain ⟨_, _, _, _, k⟩ := C.ok.fn _ _ hf
      rw [C.hK]
      exact .inl k
    | lam _ hf _ _ =>
      obtain ⟨⟨pm, ctv, of⟩, _, _⟩ := iv.hok f _ hf
      exact .inr ⟨_, _, _, _, of⟩
    | _ => cases h
  | clo _ hf _ _ _ _ _ _ =>
    obtain ⟨⟨pm, ctv, of⟩, _, _⟩ := iv.hok f _ hf
    exact .inr ⟨_, _, _, _, of⟩
  | exn h1 _ => cases h1
/-- the callee is there; its arguments, then the call -/
theorem run_call {pins : List (Addr × Obj)} {σ : L2.St} {s : Shared} {m : AH} {H : Hp} {st : Store} {ρ : Env} {a b : PF.A} {f : Addr} {pos : Pos} {e : Expr} {es : List Expr} {g : Env → Store → Res (List PF.A)} {Q : VK} (C : Cc I Pr Wf X W n) (hca : calA a = some b) (iv : L2.Inv X pins σ H s) (hs : RepSt I m H st) (he : RepEnv I m none H σ ρ)
    (rf : RepA I m none H a (.ref f)) (ha : PA X (e :: es) (TAP I X W g)) (hst : (e :: es).all noStar = true) (hp : PostR I (rD I) m H (bnd (g ρ st) fun ds st2 => callN Pr Wf n a ds st2) Q fun c d H' => W c d σ H') :
    wpAny (model X.prog X.w) X.A (callWith pos (.ref f) [] (backTo pos (starEach (e :: es) X.env)) []) (EP X pins σ Q) X.xe s := by
  simp only [List.all_cons, Bool.and_eq_true] at hst
  have args : wpAny (model X.prog X.w) X.A (spliced (backTo pos (starEach (e :: es) X.env))) (AP X pins σ fun vs H1 => ∃ as m1 st1, Mid I (fun m H as vs => RepAPs I X σ m H as vs) (rD I) m H (g ρ st) (fun ds st2 => callN Pr Wf n a ds st2) Q (fun c d H' => W c d σ H') vs H1 as m1 st1) X.xe s :=
    ha.run pos pins s σ H _ iv ⟨m, ρ, st, hs, he, hp.bind⟩
  have go : ∀ us s1, AP X pins σ (fun vs H1 => ∃ as m1 st1, Mid I (fun m H as vs => RepAPs I X σ m H as vs) (rD I) m H (g ρ st) (fun ds st2 => callN Pr Wf n a ds st2) Q (fun c d H' => W c d σ H') vs H1 as m1 st1) us s1 →
      (PySem.W.keepIn X.K (.ref f) = true ∨ PySem.W.FnAt f s1.heap) ∧ X.K.In s1.heap ∧ wpAny (model X.prog X.w) X.A (call (.ref f) us) (EP X pins σ Q) X.xe s1 := fun us s1 ⟨vs, H1, iv1, rv, as, m1, st1, M⟩ => by
    have rf1 := rf.mono M.gr hs.mok
    exact ⟨rep_keep C hca iv1 rf1, iv1.kIn, call_any iv1 C.hK C.hc C.tk C.hr C.ok rf1 rv M.st M.rep M.post⟩
  rcases Classical.em (PySem.W.keepIn X.K (.ref f) = true) with hk | hk
  · exact PySem.W.callWith_K (h₀ := X.base) iv.ok.mod.kin hk (thn args fun us s1 h => ⟨(go us s1 h).2.1, (go us s1 h).2.2⟩) (star_eq (noStar_ne hst.1)) (star_any hst.2)
  · exact PySem.W.callWith_F ((rep_keep C hca iv rf).resolve_left hk) (thn args fun us s1 h => ⟨(go us s1 h).1.resolve_left hk, (go us s1 h).2.2⟩) (star_eq (noStar_ne hst.1)) (star_any hst.2)
theorem run_call0 {pins : List (Addr × Obj)} {σ : L2.St} {s : Shared} {m : AH} {H : Hp} {st : Store} {a b : PF.A} {f : Addr} {pos : Pos} {Q : VK} (C : Cc I Pr Wf X W n) (hca : calA a = some b) (iv : L2.Inv X pins σ H s) (hs : RepSt I m H st)
    (rf : RepA I m none H a (.ref f)) (hp : PostR I (rD I) m H (callN Pr Wf n a [] st) Q fun c d H' => W c d σ H') :
    wpAny (model X.prog X.w) X.A (callWith pos (.ref f) [] (backTo pos (starEach [] X.env)) []) (EP X pins σ Q) X.xe s := by
  have c := call_any iv C.hK C.hc C.tk C.hr C.ok rf .nil hs .nil hp
  rcases rep_keep C hca iv rf with hk | hk
  · exact PySem.W.callWith_K0 iv.kIn hk c
  · exact PySem.W.callWith_F0 hk c
abbrev callE (call : PF.A → List PF.A → Store → Res D) (f : Env → Store → Res PF.A) (g : Env → Store → Res (List PF.A)) : Env → Store → Res D :=
  fun ρ st => bnd (f ρ st) fun x st1 => bnd (oth (calA x) st1) fun x st1 => bnd (g ρ st1) fun ds st2 => call x ds st2
/-- f(e, ..): f a def of the module -/
theorem e_callG {i : Nat} {f : Addr} {x : Str} {p pos : Pos} {e : Expr} {es : List Expr} {g : Env → Store → Res (List PF.A)} (C : Cc I Pr Wf X W n) (hg : Gl X x) (hm : X.mg x = some (.ref f)) (hf : I.fa i = some f) (hdb : (x == ("__debug__" : Str)) = false)
    (ha : PA X (e :: es) (TAP I X W g)) (hst : (e :: es).all noStar = true) : PE X (.Call (.Name x p) (e :: es) [] pos) (TD I none W (callE (callN Pr Wf n) (fun _ st => .ok (.d (.fn i)) st) g)) :=
  ⟨fun pins s σ H Q iv ⟨m, ρ, st, hs, he, hp⟩ => wpAny_Call_Name_kw (ld_glob iv hg hm (run_call (a := .d (.fn i)) C rfl iv hs he (.d (.fn hf)) ha hst hp) hdb)⟩
theorem e_callG0 {i : Nat} {f : Addr} {x : Str} {p pos : Pos} (C : Cc I Pr Wf X W n) (hg : Gl X x) (hm : X.mg x = some (.ref f)) (hf : I.fa i = some f) (hdb : (x == ("__debug__" : Str)) = false) :
    PE X (.Call (.Name x p) [] [] pos) (TD I none W (callE (callN Pr Wf n) (fun _ st => .ok (.d (.fn i)) st) fun _ st => .ok [] st)) :=
  ⟨fun pins s σ H Q iv ⟨m, ρ, st, hs, he, hp⟩ => wpAny_Call_Name_kw (ld_glob iv hg hm (run_call0 (a := .d (.fn i)) C rfl iv hs (.d (.fn hf)) hp) hdb)⟩
theorem slotA_get {i : Nat} {ρ : Env} {st : Store} {m : AH} {H : Hp} {σ : L2.St} {k : PF.A → Store → Res D} {Q : VK} {E : XK} (he : RepEnv I m none H σ ρ) (hp : PostR I (rD I) m H (bnd (slotA i ρ st) fun x st1 => bnd (oth (calA x) st1) k) Q E) :
    ∃ a f, calA a = some a ∧ σ[i]? = some (some (.ref f)) ∧ RepA I m none H a (.ref f) ∧ PostR I (rD I) m H (k a st) Q E := by
  unfold slotA at hp
  cases q : ρ[i]? with
  | none => rw [q] at hp; exact hp.elim
  | some o =>
    cases o with
    | none => rw [q] at hp; exact hp.elim
    | some a =>
      rw [q] at hp
      obtain ⟨v, h1, h2⟩ := he.at_ i _ q
      have hp2 : PostR I (rD I) m H (bnd (oth (calA a) st) k) Q E := hp
      cases q2 : calA a with
      | none => rw [q2] at hp2; exact hp2.elim
      | some b =>
        rw [q2] at hp2
        have e := calA_some q2
        rw [e] at q2 hp2
        obtain ⟨f, rfl⟩ := rep_ref q2 h2
        exact ⟨a, f, q2, h1, h2, hp2⟩
/-- f(e, ..): f a name of the frame -/
theorem e_callV {i : Nat} {x : Str} {p pos : Pos} {e : Expr} {es : List Expr} {g : Env → Store → Res (List PF.A)} (C : Cc I Pr Wf X W n) (hv : PE X (.Name x p) (tVar i))
    (ha : PA X (e :: es) (TAP I X W g)) (hst : (e :: es).all noStar = true) : PE X (.Call (.Name x p) (e :: es) [] pos) (TD I none W (callE (callN Pr Wf n) (slotA i) g)) := by
  refine ⟨fun pins s σ H Q iv ⟨m, ρ, st, hs, he, hp⟩ => ?_⟩
  obtain ⟨a, f, hca, hσ, rf, hp⟩ := slotA_get he hp
  refine wpAny_Call_Name_kw (thn (hv.run pins s σ H (fun v H1 => v = .ref f ∧ H1 = H) iv ⟨.ref f, hσ, rfl, rfl⟩) fun u s1 ⟨v, H1, iv1, r1, ev, eh⟩ => ?_)
  subst ev
  subst eh
  cases r1
  exact run_call C hca iv1 hs he rf ha hst hp
theorem e_callV0 {i : Nat} {x : Str} {p pos : Pos} (C : Cc I Pr Wf X W n) (hv : PE X (.Name x p) (tVar i)) : PE X (.Call (.Name x p) [] [] pos) (TD I none W (callE (callN Pr Wf n) (slotA i) fun _ st => .ok [] st)) := by
  refine ⟨fun pins s σ H Q iv ⟨m, ρ, st, hs, he, hp⟩ => ?_⟩
  obtain ⟨a, f, hca, hσ, rf, hp⟩ := slotA_get he hp
  refine wpAny_Call_Name_kw (thn (hv.run pins s σ H (fun v H1 => v = .ref f ∧ H1 = H) iv ⟨.ref f, hσ, rfl, rfl⟩) fun u s1 ⟨v, H1, iv1, r1, ev, eh⟩ => ?_)
  subst ev
  subst eh
  cases r1
  exact run_call0 C hca iv1 hs rf hp
end
end PF

set_option Elab.async false
set_option linter.all false
set_option maxRecDepth 100000
/-! isinstance; raise; try. -/
namespace PF
open PySem PySem.Spec PyProof.Rows L2
section
variable {I : Info} {xh : XH} {W : WX} {X : Cx}
/-- any value that a slot may hold -/
abbrev TAx (I : Info) (xh : XH) (W : WX) (f : Env → Store → Res PF.A) : TE := TR I xh W (fun m H a v => RepA I m xh H a v) f
theorem ax_val {e : Expr} {f : Env → Store → Res D} (h : PE X e (TD I xh W f)) : PE X e (TAx I xh W fun ρ st => bnd (f ρ st) fun d st1 => .ok (.d d) st1) :=
  weakE h fun σ H Q hw => TR.bind (R1 := rD I) hw fun v H1 d m1 ρ st1 s1 e1 r1 p1 => p1.here s1 (.d r1)
theorem ax_var {i : Nat} {e : Expr} (h : PE X e (tVar i)) : PE X e (TAx I xh W (slotA i)) :=
  weakE h fun σ H Q ⟨m, ρ, st, hs, he, hp⟩ => by
    unfold slotA at hp
    cases q : ρ[i]? with
    | none => rw [q] at hp; exact hp.elim
    | some o =>
      cases o with
      | none => rw [q] at hp; exact hp.elim
      | some a =>
        rw [q] at hp
        obtain ⟨v, h1, h2⟩ := he.at_ i _ q
        exact ⟨v, h1, hp.here hs h2⟩
def tyName : Ty → String
  | .int => "int"
  | .bool => "bool"
  | .str => "str"
  | .tuple => "tuple"
  | .list => "list"
  | .own _ _ => "?"
  | .vale => "ValueError"
theorem tyx_tup {m : AH} {H : Hp} {a : Addr} {vs : List V} (h : SqT I.K H a vs) : TyX I.K H (.ref a) (.type "tuple") := by
  rcases h with (h | ⟨o, h⟩) | ⟨o, its, n, h1, h2, _⟩
  · exact .base (.tup h)
  · exact .fTuple h
  · exact .kTuple h1 h2
/-- a value's built-in type -/
def tyOfD : D → Option String
  | .non => some "NoneType"
  | .bl _ => some "bool"
  | .int _ => some "int"
  | .str _ => some "str"
  | .tup _ => some "tuple"
  | .loc _ => some "list"
  | _ => none
theorem tyx_rep {m : AH} {H : Hp} {st : Store} {d : D} {v : V} {T : String} (hs : RepSt I m H st) (r : RepD I m H d v) (h : tyOfD d = some T) : TyX I.K H v (.type T) := by
  cases r with
  | non => cases h; exact .base .non
  | bl b => cases h; exact .base (.bl b)
  | int i => cases h; exact .base (.int i)
  | str s => cases h; exact .base (.str _)
  | tup h1 _ => cases h; exact tyx_tup (m := m) h1
  | @loc n a h1 =>
    cases h
    obtain ⟨xs, q⟩ := hs.mok a (List.mem_of_getElem? h1)
    exact .base (.lst q)
  | _ => cases h
theorem isi_kit {t : Ty} {d : D} {b : Bool} (h : isiD d t = some b) : ∃ T, tyOfD d = some T ∧ kitB T (tyName t) = some b := by
  cases t with
  | int => cases d <;> simp only [isiD] at h <;> first | (cases h; done) | (cases h; exact ⟨_, rfl, by decide +kernel⟩)
  | bool => cases d <;> simp only [isiD] at h <;> first | (cases h; done) | (cases h; exact ⟨_, rfl, by decide +kernel⟩)
  | str => cases d <;> simp only [isiD] at h <;> first | (cases h; done) | (cases h; exact ⟨_, rfl, by decide +kernel⟩)
  | tuple => cases d <;> simp only [isiD] at h <;> first | (cases h; done) | (cases h; exact ⟨_, rfl, by decide +kernel⟩)
  | list => cases d <;> simp only [isiD] at h <;> first | (cases h; done) | (cases h; exact ⟨_, rfl, by decide +kernel⟩)
  | own _ _ => cases h
  | vale => cases h
abbrev isiE (f : Env → Store → Res PF.A) (t : Ty) : Env → Store → Res D := fun ρ st => bnd (f ρ st) fun x st1 => oth ((isiA x t).map .bl) st1
def bTy : Ty → Bool
  | .own _ _ => false
  | .vale => false
  | _ => true
/-- isinstance(e, T): T a built-in type -/
theorem e_isi {t : Ty} {T : Str} {p p2 pos : Pos} {e : Expr} {f : Env → Store → Res PF.A} (hK : X.K = I.K) (hb : bTy t = true) (hg : Gl X "isinstance") (hm : X.mg "isinstance" = none) (hgT : Gl X T) (hmT : X.mg T = none) (hT : bootBuiltins T = some (.type (tyName t))) (hn : T ≠ "__name__") (hdb : (T == ("__debug__" : Str)) = false)
    (he : PE X e (TAx I xh W f)) (hst : noStar e = true) : PE X (.Call (.Name "isinstance" p) [e, .Name T p2] [] pos) (TD I xh W (isiE f t)) :=
  weakE (pe_callB call_isi hg hm (by decide +kernel) (pa_cons he (pa_cons (pe_bltn (v := .ty (tyName t)) hgT hmT hT rfl hn hdb) pa_nil) (star_eq (noStar_ne hst))) (by decide) (by decide) (star_eq (noStar_ne hst)) rfl) fun σ H Q hw =>
    TR.bind (R1 := fun m H a v => RepA I m xh H a v) hw fun v H1 a m1 ρ st1 s1 e1 r1 p1 => by
      obtain ⟨b, hz, p2⟩ := PostR.othm p1
      rw [hK]
      cases r1 with
      | d r =>
        obtain ⟨T', h1, h2⟩ := isi_kit hz
        exact ⟨v, .ty (tyName t), .type T', .type (tyName t), b, rfl, .ty _, tyx_rep s1 r h1, kit_ty h2, p2.here s1 (.bl b)⟩
      | clo => cases hz
      | @exn _ _ _ _ c fs h1 h2 => cases fs <;> cases t <;> first | (cases hz; done) | cases hb
/-! ### raise -/
/-- what an error class must say -/
structure ExnOk (K : PySem.W.Frag) (C : Addr) : Prop where
  q : ∃ B newId initId bmB, ExcBaseFacts B newId initId bmB ∧ PySem.W.excIn K C bmB newId = true
  kp : PySem.W.keepIn K (.ref C) = true
  r1 : PySem.W.subIn K (.ref C) (.type "BaseException") = some true
  r2 : PySem.W.typeIn K (.ref C) = some (.type "type")
theorem s_raise {c : Nat} {C : Addr} {x : Str} {m : Str} {j : Nat} {p p2 pos pos' : Pos} (hc : X.calm = true) (hK : X.K = I.K) (tk : L2N.Takes X W) (hC : I.ca c = some C) (hf : I.fld c = none) (ok : ExnOk I.K C) (hg : Gl X x) (hm : X.mg x = some (.ref C)) (hdb : (x == ("__debug__" : Str)) = false) :
    PS X (.Raise (some (.Call (.Name x p) [.Constant (.str m) j p2] [] pos)) none pos') (TSt I xh W fun ρ st => sbnd (.ok [] st) ρ fun ds st1 => .exc ⟨c, ds⟩ ρ st1) := by
  obtain ⟨B, newId, initId, bmB, F, q⟩ := ok.q
  rw [← hK] at q
  exact weakS (L2N.ps_raise hc tk (L2N.pmk_own F q hm (by rw [hK]; exact ok.kp) (raises_own (by rw [hK]; exact ok.r1) (by rw [hK]; exact ok.r2)) hg hdb)) fun D σ H ⟨m, ρ, st, hs, he, hp⟩ =>
    hp m H σ (.ref C) none (Gr.refl m H) hs he ⟨C, hC, rfl, by dsimp only; rw [hf]⟩
end
/-! ### try -/
mutual
theorem RepA.hold {I : Info} {m : AH} {xh : XH} : ∀ {H : Hp} {a : A} {v : V}, RepA I m none H a v → RepA I m xh H a v
  | _, _, _, .d h => .d h
  | _, _, _, .clo h1 h2 h3 h4 h5 h6 h7 h8 => .clo h1 h2 h3 h4 h5 h6 h7 (RepAs.hold h8)
theorem RepAs.hold {I : Info} {m : AH} {xh : XH} : ∀ {H : Hp} {as : List A} {vs : List V}, RepAs I m none H as vs → RepAs I m xh H as vs
  | _, _, _, .nil => .nil
  | _, _, _, .cons h r => .cons (RepA.hold h) (RepAs.hold r)
end
section
variable {I : Info} {xh : XH} {W : WX} {X : Cx}
theorem RepEnv.hold {m : AH} {H : Hp} {σ : L2.St} {ρ : Env} (e : RepEnv I m none H σ ρ) : RepEnv I m xh H σ ρ := ⟨e.len, fun i a h => let ⟨v, h1, h2⟩ := e.at_ i a h; ⟨v, h1, h2.hold⟩⟩
theorem RepEnv.drop {m : AH} {H : Hp} {σ : L2.St} {ρ : Env} (e : RepEnv I m xh H σ ρ) : RepEnv I m none H σ (dropX ρ) := by
  refine ⟨by unfold dropX; simp [e.len], fun i a h => ?_⟩
  unfold dropX at h
  rw [List.getElem?_map] at h
  cases q : ρ[i]? with
  | none => rw [q] at h; cases h
  | some o =>
    rw [q] at h
    cases o with
    | none => cases h
    | some b =>
      cases b with
      | d d =>
        cases h
        obtain ⟨v, h1, h2⟩ := e.at_ i _ q
        cases h2 with
        | d h2 => exact ⟨v, h1, .d h2⟩
      | clo => cases h
      | exn => cases h
/-- which classes an except clause takes -/
def ExmOk (I : Info) (c : Value) (cs : List Nat) : Prop := ∀ k C, I.ca k = some C → PySem.W.exmOne I.K (.ref C) c = some (cs.contains k)
theorem s_try {x n : Str} {c : Value} {i : Nat} {cs : List Nat} {body suite : List Stmt} {b₀ : Stmt} {np pos pos' : Pos} {f h : Env → Store → SR} (hK : X.K = I.K) (hs : X.stack = X.env :: X.outer) (hf : X.env.frame = some X.env.locals) (hN : X.N.Nodup) (hi : X.N[i]? = some n) (hln : X.env.kindOf n = some .local) (hc : Names X x c) (ex : ExmOk I c cs)
    (tk : L2N.Takes X W) (hb : ∀ (W' : WX) (pn : List (Addr × Obj)) (xe : Value → Shared → Prop), L2N.Takes (X.tr pn xe) W' → PassesOwn (model X.prog X.w) X.A X.env xe → PSs (X.tr pn xe) body (TSt I none W' f))
    (hsu : ∀ (a : Addr) (oe : Obj) (cls : Value) (d : Option Addr) (pn : List (Addr × Obj)), L2N.Zn cls d oe → (∃ vs, oe.data = .fields vs) → PSs (X.suite a ((a, oe) :: pn)) (b₀ :: suite) (TSt I (some (a, cls, d)) W0 h)) :
    PS X (.Try body [.ExceptHandler (some (.Name x np)) (some n) (b₀ :: suite) pos'] [] [] pos) (TSt I none W fun ρ st => handle cs (some i) h (f ρ st)) :=
  weakS (L2N.ps_try_as (tb := fun W' => TSt I none W' f) (ts := fun a cls d => TSt I (some (a, cls, d)) W0 h) hs hf hN hi hln hc tk hb hsu) fun D σ H ⟨m, ρ, st, hs, he, hp⟩ => by
    refine ⟨m, ρ, st, hs, he, ?_⟩
    dsimp only at hp
    cases q : f ρ st with
    | next ρ1 st1 => rw [q] at hp; exact hp
    | ret d st1 => rw [q] at hp; exact hp
    | brk ρ1 st1 => rw [q] at hp; exact hp
    | stuck => rw [q] at hp; exact hp
    | exc x ρ1 st1 =>
      rw [q] at hp
      intro m1 H1 σ1 cls dd g1 s1 e1 r1
      obtain ⟨C, h1, h2, h3⟩ := id r1
      refine ⟨cs.contains x.c, by rw [hK, h2]; exact ex _ _ h1, fun b a ha => ?_, fun b => ?_⟩
      · simp only [handle, b, if_true] at hp
        refine ⟨m1, ρ1.set i (some (.exn x.c x.fs)), st1, s1, (e1.hold).set (.exn rfl r1) i, ?_⟩
        cases q2 : h (ρ1.set i (some (.exn x.c x.fs))) st1 with
        | next ρ2 st2 => rw [q2] at hp; exact fun m2 H2 σ2 g2 s2 e2 => hp m2 H2 _ (g1.trans g2) s2 (e2.unset i none).drop
        | ret d st2 => rw [q2] at hp; exact fun m2 H2 v g2 s2 r2 => hp m2 H2 v (g1.trans g2) s2 r2
        | brk ρ2 st2 => rw [q2] at hp; exact fun m2 H2 σ2 g2 s2 e2 => hp m2 H2 _ (g1.trans g2) s2 (e2.unset i none).drop
        | exc x2 ρ2 st2 => rw [q2] at hp; exact hp.elim
        | stuck => rw [q2] at hp; exact hp.elim
      · simp only [handle, b, if_false, Bool.false_eq_true] at hp
        exact hp m1 H1 σ1 cls dd g1 s1 e1 r1
end
end PF

set_option Elab.async false
set_option linter.all false
set_option maxRecDepth 100000
/-! List comprehensions once more: what is known of the block's cells; a suite that handles an error. -/
namespace PF
open PySem PySem.Spec PyProof.Rows L2

/-- an iterator's turns, in contexts that are fit for it -/
structure TurnX (Fit : Cx → Heap → Prop) (P : Program) (w : World) (K : PySem.W.Frag) (tg : Expr) (J : L2.It) (fp : List Addr) (it : Addr) (tn : Nat → Heap → Prop) : Prop where
  thing : ∀ i h, tn i h → ∀ b ∈ fp, ∃ o, h.get? b = some o ∧ ∀ v, o.data ≠ .cell v
  stays : ∀ i h h', tn i h → (∀ b ∈ fp, ∀ o, h.get? b = some o → h'.get? b = some o) → tn i h'
  more : ∀ (Y : Cx), Y.prog = P → Y.w = w → Y.K = K → ∀ (i : Nat) (pins : List (Addr × Obj)) (s : Shared) (σ : L2.St) (H : Hp) (E : Value → Shared → Prop), Fit Y s.heap → L2.Inv Y pins σ H s → (∀ b ∈ fp, FpOk Y pins H b) → tn i s.heap → J.go i H →
    wpAny (model P w) Y.A (pyNext (.ref it)) (fun r s1 => ∃ u, r = some u ∧ wpAny (model P w) Y.A (letOwnedTupleGo tg (.ref it) u) (fun _ s2 => ∃ x H', L2.Inv Y pins σ H' s2 ∧ RelV x u ∧ J.yld i H x H' ∧ tn (i + 1) s2.heap ∧ ∀ b ∈ fp, H' b = none) E s1) E s
  last : ∀ (Y : Cx), Y.prog = P → Y.w = w → Y.K = K → ∀ (i : Nat) (pins : List (Addr × Obj)) (s : Shared) (σ : L2.St) (H : Hp) (E : Value → Shared → Prop), Fit Y s.heap → L2.Inv Y pins σ H s → (∀ b ∈ fp, FpOk Y pins H b) → tn i s.heap → J.stop i H →
    wpAny (model P w) Y.A (pyNext (.ref it)) (fun r s1 => r = none ∧ L2.Inv Y pins σ H s1) E s
  same : ∀ (A : Around) (i : Nat) (s : Shared) (Q : Value → Shared → Prop) (E : Value → Shared → Prop), tn i s.heap → Q (.ref it) s → wpAny (model P w) A (pyIter (.ref it)) Q E s
def Calm (X : Cx) (_ : Heap) : Prop := X.calm = true
theorem TurnX.of {P : Program} {w : World} {K : PySem.W.Frag} {tg : Expr} {J : L2.It} {fp : List Addr} {it : Addr} {tn : Nat → Heap → Prop} (T : Turn P w K tg J fp it tn) : TurnX Calm P w K tg J fp it tn :=
  ⟨T.obj, T.keep, fun Y h1 h2 h3 i pins s σ H E f => T.item Y h1 h2 h3 f i pins s σ H E, fun Y h1 h2 h3 i pins s σ H E f => T.done Y h1 h2 h3 f i pins s σ H E, T.self⟩
def PIEX (Fit : Cx → Heap → Prop) (X : Cx) (pins : List (Addr × Obj)) (σ : L2.St) (tg : Expr) (R : L2.It → Hp → Prop) (itv : Value) (s2 : Shared) : Prop :=
  ∃ (it : Addr) (fp : List Addr) (tn : Nat → Heap → Prop) (J : L2.It) (H' : Hp), itv = .ref it ∧ L2.Inv X pins σ H' s2 ∧ TurnX Fit X.prog X.w X.K tg J fp it tn ∧ tn 0 s2.heap ∧ (∀ b ∈ fp, FpOk X pins H' b) ∧ R J H'
structure PIX (Fit : Cx → Heap → Prop) (X : Cx) (tg iter : Expr) (wi : TI) : Prop where
  run : ∀ (pins : List (Addr × Obj)) (s : Shared) (σ : L2.St) (H : Hp) (R : L2.It → Hp → Prop), L2.Inv X pins σ H s → wi σ H R → wpAny (model X.prog X.w) X.A (eval iter X.env) (fun v s1 => wpAny (model X.prog X.w) X.A (pyIter v) (PIEX Fit X pins σ tg R) X.xe s1) X.xe s
theorem PIX.of {X : Cx} {tg iter : Expr} {wi : TI} (h : PI X tg iter wi) : PIX Calm X tg iter wi :=
  ⟨fun pins s σ H R iv q => thn (h.run pins s σ H R iv q) fun v s1 h1 => thn h1 fun u s2 ⟨it, fp, tn, J, H', a1, a2, a3, a4, a5, a6⟩ => ⟨it, fp, tn, J, H', a1, a2, .of a3, a4, a5, a6⟩⟩
theorem cellsFrom_hi : ∀ (names : List (Str × NameKind)) (n : Nat) (acc : List (Str × Addr)) (y : Str) (c : Addr), (cellsFrom n names acc).lookup y = some c → n ≤ c ∨ acc.lookup y = some c
  | [], _, _, _, _, h => .inr h
  | (x, k) :: r, n, acc, y, c, h => by
    unfold cellsFrom at h
    split at h
    · rcases cellsFrom_hi r (n + 1) _ y c h with z | z
      · exact .inl (Nat.le_of_succ_le z)
      · rw [List.lookup_cons] at z
        split at z
        · exact .inl (Nat.le_of_eq (Option.some.inj z))
        · exact .inr z
    · exact cellsFrom_hi r n acc y c h
/-- the cells of a block: the context's own, or new ones -/
def BlkCells (X : Cx) (cl : List (Str × Addr)) : Prop := ∀ y c, cl.lookup y = some c → X.env.cells.lookup y = some c ∨ (X.base.get? c = none ∧ c ∉ frs X.stack)
/-- the state in which a block begins -/
structure BlkAt (X : Cx) (s : Shared) (H : Hp) (cl : List (Str × Addr)) (fp : List Addr) : Prop where
  cells : BlkCells X cl
  here : ∃ pins σ0, L2.Inv X pins σ0 H s ∧ ∀ b ∈ fp, FpOk X pins H b
section
variable {X : Cx}
theorem frs_lt {pins : List (Addr × Obj)} {σ : L2.St} {H : Hp} {s : Shared} (iv : L2.Inv X pins σ H s) {b : Addr} (hb : b ∈ frs X.stack) : b < s.heap.objs.size := by
  rcases List.mem_cons.mp (iv.stkSub b hb) with z | z
  · rw [z]; exact iv.lt
  · obtain ⟨_, o, ho, _⟩ := iv.ok.funs.mem z
    exact Nat.lt_of_lt_of_le (Heap.lt_size ho) iv.sz
theorem base_lt {pins : List (Addr × Obj)} {σ : L2.St} {H : Hp} {s : Shared} (iv : L2.Inv X pins σ H s) {c : Addr} (h : s.heap.objs.size ≤ c) : X.base.get? c = none := by
  cases q : X.base.get? c with
  | none => rfl
  | some o => exact absurd (Nat.lt_of_lt_of_le (Heap.lt_size (iv.ok.bs c o q).1) (Nat.le_trans iv.sz h)) (Nat.lt_irrefl _)
theorem lc_own {Fit : Cx → Heap → Prop} {pins : List (Addr × Obj)} {s : Shared} {σ : L2.St} {H : Hp} {Q : VK} {elt tg iter : Expr} {ifs : List Expr} {scope : Scope} {own : List (Str × Nat)} {pos pos' : Pos} {wi : TI} {g : TG} {tt : TT} {te : TE} {use : Option (Value → Sem Unit)} {Qf : Value → Shared → Prop}
    (hN : X.N.Nodup) (iv : L2.Inv X pins σ H s) (hi : PIX Fit X tg iter wi) (ok : BlkOk X.N X.env.scope scope own)
    (hfit : ∀ (s : Shared) (H : Hp) (σ0 : L2.St) (env : PySem.Env) (fp : List Addr), L2.Inv X pins σ0 H s → (∀ b ∈ fp, FpOk X pins H b) → ∀ σ' H' s', L2.Inv (X.blk s H scope env fp) [] σ' H' s' → Fit (X.blk s H scope env fp) s'.heap)
    (hg : ∀ (s : Shared) (H : Hp) (C : Addr) (cl : List (Str × Addr)) (fp : List Addr), BlkAt X s H cl fp → PG (X.blk s H scope (compEnvC scope cl C X.env) fp) tg g)
    (ht : ∀ (s : Shared) (H : Hp) (C : Addr) (cl : List (Str × Addr)) (fp : List Addr), BlkAt X s H cl fp → PTs (X.blk s H scope (compEnvC scope cl C X.env) fp) ifs tt)
    (he : ∀ (s : Shared) (H : Hp) (C : Addr) (cl : List (Str × Addr)) (fp : List Addr), BlkAt X s H cl fp → PE (X.blk s H scope (compEnvC scope cl C X.env) fp) elt te) (hs : ∀ x, foldedSetIterable iter X.env x = pure x)
    (h : tLc wi g tt te (own.map (·.2)) σ H Q)
    (fin : ∀ L C s' m H', L2.Inv X pins σ H' s' → Q (.ref L) H' → s'.heap.Ns C m → FpOk X pins H' C → compPost (model X.prog X.w) X.A X.xe use Qf (.ref L) C (.ok .next) s') :
    wpAny (model X.prog X.w) X.A (comprehension (.ListComp elt [⟨tg, iter, ifs, 0⟩] scope pos) scope X.env pos' (PySem.newList []) false (eval iter X.env) use) Qf X.xe s := by
  have fr : ∀ y ∈ scope.names, y.2 = .free → ∃ c, X.env.cells.lookup y.1 = some c := fun y hy e => iv.ok.has _ ((ok.free y hy e).imp id id)
  refine wpAny_comprehension_free (use := use) rfl hs (closure_ok fr) ok.kind (fun y hy e => (ok.uniq y hy).trans (congrArg some e)) (thn (hi.run pins s σ H _ iv h) fun xv z1 hx => thn hx fun itv z2 h2 => ?_)
  obtain ⟨it, fp, tn, J, G2, rfl, iv2, T, at2, fp2, q⟩ := h2
  refine wpAny_newObj_type (newEnv_comp ?_) (by show 0 ≤ sizeLine; decide)
  have nL : G2 z2.heap.objs.size = none := iv2.hok.fresh (Nat.le_refl _)
  obtain ⟨Wi, ⟨k0, w0⟩, turn⟩ := q _ nL
  generalize eL : z2.heap.objs.size = L at nL w0 turn ⊢
  generalize e3 : ({ z2 with heap := z2.heap.push { cls := .type "list", data := .seq ([] : List Value).toArray } } : Shared) = z3
  have h3 : z3.heap = z2.heap.push { cls := .type "list", data := .seq ([] : List Value).toArray } := by rw [← e3]
  have iv3 : L2.Inv X pins σ (upd G2 L (.lst [])) z3 := by
    rw [← e3]
    exact iv2.laid (t' := z2.toks) (fun b o e => Heap.get?_push_of_some _ e) (Nat.le_of_eq eL) ⟨Nat.zero_le _, [], 0, .nil, by rw [← eL]; exact Heap.get?_push_size _ rfl⟩
  have lt2 : ∀ b ∈ fp, b < z2.heap.objs.size := fun b hb => let ⟨o, e, _⟩ := T.thing _ _ at2 b hb; Heap.lt_size e
  have fp3 : ∀ b ∈ fp, FpOk X pins (upd G2 L (.lst [])) b ∧ b < z3.heap.objs.size := fun b hb =>
    ⟨⟨by rw [upd_ne (by rw [← eL]; exact Nat.ne_of_lt (lt2 b hb))]; exact (fp2 b hb).1, (fp2 b hb).2⟩, by rw [h3, Heap.size_push]; exact Nat.lt_succ_of_lt (lt2 b hb)⟩
  have at3 : tn 0 z3.heap := T.stays _ _ _ at2 fun b _ o e => by rw [h3]; exact Heap.get?_push_of_some _ e
  have iv4 := block_start iv3 ok hN fp3
  have bc : BlkCells X (cellsFrom (z3.heap.objs.size + 1) scope.names (cloFrom X.env.cells scope.names [])) := fun y c e => by
    rcases cellsFrom_hi _ _ _ _ _ e with z | z
    · have hc : z3.heap.objs.size ≤ c := Nat.le_of_succ_le z
      exact .inr ⟨base_lt iv3 hc, fun m => absurd (Nat.lt_of_lt_of_le (frs_lt iv3 m) hc) (Nat.lt_irrefl _)⟩
    · exact .inl (NdefX.clo_cm fr z)
  have ba : BlkAt X z3 (upd G2 L (.lst [])) (cellsFrom (z3.heap.objs.size + 1) scope.names (cloFrom X.env.cells scope.names [])) fp := ⟨bc, pins, σ, iv3, fun b hb => (fp3 b hb).1⟩
  have pg := hg z3 (upd G2 L (.lst [])) z3.heap.objs.size _ fp ba
  have pt := ht z3 (upd G2 L (.lst [])) z3.heap.objs.size _ fp ba
  have pe := he z3 (upd G2 L (.lst [])) z3.heap.objs.size _ fp ba
  show codeAny _ _ (.compStart (.ListComp elt [⟨tg, iter, ifs, 0⟩] scope pos) 0 (.ref it) (.ref L) (compEnvC scope (cellsFrom (z3.heap.objs.size + 1) scope.names (cloFrom X.env.cells scope.names [])) z3.heap.objs.size X.env)) (compPost (model X.prog X.w) X.A X.xe use Qf (.ref L) z3.heap.objs.size) { z3 with heap := pushCells (z3.heap.push { cls := .type "dict", data := .dict #[] }) scope.names }
  have none3 : ∀ b ∈ fp, (upd G2 L (.lst [])) b = none := fun b hb => (fp3 b hb).1.1
  have fit := fun env => hfit z3 (upd G2 L (.lst [])) σ env fp iv3 (fun b hb => (fp3 b hb).1)
  generalize ec : compEnvC scope (cellsFrom (z3.heap.objs.size + 1) scope.names (cloFrom X.env.cells scope.names [])) z3.heap.objs.size X.env = ce at iv4 pg pt pe ⊢
  have lc : ce.locals = z3.heap.objs.size := by subst ec; rfl
  generalize eG : upd G2 L (.lst []) = G3 at iv3 iv4 pg pt pe w0 none3 fp3 fit
  generalize e4 : ({ z3 with heap := pushCells (z3.heap.push { cls := .type "dict", data := .dict #[] }) scope.names } : Shared) = z4 at iv4 ⊢
  have at4 : tn 0 z4.heap := T.stays _ _ _ at3 fun b _ o e => by rw [← e4]; exact pushCells_keeps _ _ _ _ (Heap.get?_push_of_some _ e)
  have foot : ∀ {σ' : L2.St} {H' : Hp} {s' : Shared}, L2.Inv (X.blk z3 G3 scope ce fp) [] σ' H' s' → (∀ b ∈ fp, H' b = none) → ∀ b ∈ fp, FpOk (X.blk z3 G3 scope ce fp) [] H' b := fun {σ' H' s'} J' hn b hb =>
    ⟨hn b hb, (J'.ok.exf b hb).1, J'.ok.exfs b hb, .inl hb, (J'.ok.exf b hb).2, fun p hp => by cases hp⟩
  have loop : codeAny (model X.prog X.w) X.A (.compLoop (.ListComp elt [⟨tg, iter, ifs, 0⟩] scope pos) 0 (.ref it) (.ref L) ce) (compPost (model X.prog X.w) X.A X.xe use Qf (.ref L) z3.heap.objs.size) z4 := by
    refine compLoop_any (fun n s' => ∃ i H', L2.Inv (X.blk z3 G3 scope ce fp) [] (L2.wipe σ (own.map (·.2))) H' s' ∧ tn i s'.heap ∧ (∀ b ∈ fp, H' b = none) ∧ Wi i n H') ?_ k0 ⟨0, G3, iv4, at4, none3, w0⟩
    rintro n z5 ⟨i, G5, iv5, at5, no5, w5⟩
    have f5 : Fit (X.blk z3 G3 scope ce fp) z5.heap := fit ce _ _ _ iv5
    rcases turn i n G5 w5 with ⟨stop, qq⟩ | ⟨go, Nx, hNx, step⟩
    · refine thnF (T.last (X.blk z3 G3 scope ce fp) rfl rfl rfl i [] z5 _ G5 (fun _ _ => False) f5 iv5 (foot iv5 no5) at5 stop) fun r z6 ⟨hr, iv6⟩ => ?_
      subst hr
      have out : L2.Inv X pins σ G5 z6 := iv3.call' (ch := fp) iv6.os iv6.base iv6.hok iv6.bare fun b hb => let a := (fp3 b hb).1.2; ⟨a.2.2.1, a.1, a.2.2.2.1, a.2.2.2.2⟩
      have nC : G5 z3.heap.objs.size = none := by
        have z : G5 ce.locals = none := iv6.free
        rwa [lc] at z
      obtain ⟨mm, hn, _⟩ := iv6.loc
      have hn : z6.heap.Ns ce.locals mm := hn
      rw [lc] at hn
      exact fin L z3.heap.objs.size z6 mm G5 out qq hn (iv3.fpOk (Nat.le_refl _) nC)
    · refine thnF (T.more (X.blk z3 G3 scope ce fp) rfl rfl rfl i [] z5 _ G5 (fun _ _ => False) f5 iv5 (foot iv5 no5) at5 go) fun r z6 ⟨u, hr, h6⟩ => ?_
      subst hr
      refine thnF h6 fun _ z7 ⟨x, G7, iv7, r7, y7, at7, no7⟩ => ?_
      refine thnF (pg.run _ z7 _ G7 x u _ (iv7.pinned (foot iv7 no7) (T.thing _ _ at7)) r7 (step x G7 y7)) fun _ z8 ⟨σ8, G8, iv8, hw8, q8⟩ => ?_
      refine thnF (pt.run _ z8 σ8 G8 _ iv8 q8) fun b z9 ⟨G9, iv9, q9⟩ => ?_
      have back : ∀ {s' : Shared} {H' : Hp}, L2.Inv (X.blk z3 G3 scope ce fp) ([] ++ pinsAt fp z7.heap) σ8 H' s' → Nx H' → ∃ m, m < n ∧ ∃ i H', L2.Inv (X.blk z3 G3 scope ce fp) [] (L2.wipe σ (own.map (·.2))) H' s' ∧ tn i s'.heap ∧ (∀ b ∈ fp, H' b = none) ∧ Wi i m H' := fun {s' H'} J' nx => by
        obtain ⟨m', hm, w'⟩ := hNx H' nx
        have held : ∀ b ∈ fp, ∀ o, z7.heap.get? b = some o → s'.heap.get? b = some o ∧ H' b = none := fun b hb o e =>
          have z := J'.pin (b, o) (List.mem_append_right _ (List.mem_append_right _ (mem_pinsAt hb e)))
          ⟨z.1, z.2.1⟩
        refine ⟨m', hm, i + 1, H', (J'.unpinned (pins := [])).weak ?_ (fun j v e => ?_), T.stays _ _ _ at7 fun b hb o e => (held b hb o e).1, fun b hb => ?_, w'⟩
        · rw [← hw8, L2.wipe_length]
        · rw [← hw8] at e
          exact (L2.wipe_some e).1
        · obtain ⟨o, e, _⟩ := T.thing _ _ at7 b hb
          exact (held b hb o e).2
      cases b with
      | false => exact back iv9 q9
      | true => exact thnF (pe.run _ z9 σ8 G9 _ iv9 q9) fun z z10 ⟨yv, G10, iv10, r10, acc, hL, hz, nx⟩ => app_ok (X := X.blk z3 G3 scope ce fp) iv10 hL hz r10 fun z11 iv11 => back iv11 nx
  exact codeAny_compStart_list loop (T.same X.A 0 _ _ _ at4 loop)
/-- as a value -/
theorem pe_lcX {Fit : Cx → Heap → Prop} {elt tg iter : Expr} {ifs : List Expr} {scope : Scope} {own : List (Str × Nat)} {pos : Pos} {wi : TI} {g : TG} {tt : TT} {te : TE} (hN : X.N.Nodup) (hi : PIX Fit X tg iter wi) (ok : BlkOk X.N X.env.scope scope own)
    (hfit : ∀ (pins : List (Addr × Obj)) (s : Shared) (H : Hp) (σ0 : L2.St) (env : PySem.Env) (fp : List Addr), L2.Inv X pins σ0 H s → (∀ b ∈ fp, FpOk X pins H b) → ∀ σ' H' s', L2.Inv (X.blk s H scope env fp) [] σ' H' s' → Fit (X.blk s H scope env fp) s'.heap)
    (hg : ∀ (s : Shared) (H : Hp) (C : Addr) (cl : List (Str × Addr)) (fp : List Addr), BlkAt X s H cl fp → PG (X.blk s H scope (compEnvC scope cl C X.env) fp) tg g)
    (ht : ∀ (s : Shared) (H : Hp) (C : Addr) (cl : List (Str × Addr)) (fp : List Addr), BlkAt X s H cl fp → PTs (X.blk s H scope (compEnvC scope cl C X.env) fp) ifs tt)
    (he : ∀ (s : Shared) (H : Hp) (C : Addr) (cl : List (Str × Addr)) (fp : List Addr), BlkAt X s H cl fp → PE (X.blk s H scope (compEnvC scope cl C X.env) fp) elt te) (hs : ∀ x, foldedSetIterable iter X.env x = pure x) :
    PE X (.ListComp elt [⟨tg, iter, ifs, 0⟩] scope pos) (tLc wi g tt te (own.map (·.2))) := by
  refine ⟨fun pins s σ H Q iv h => ?_⟩
  rw [eval_ListComp]
  exact lc_own hN iv hi ok (hfit pins) hg ht he hs h fun L C s' m H' J q hn f => ⟨m, hn, fun h'' sb => ⟨.ref L, H', J.turned (t' := s'.toks) (fun b o hb e => (sb.2 b hb).trans e) f.1 f.2.1 f.2.2.2.1 f.2.2.2.2.1 f.2.2.2.2.2, rfl, q⟩⟩
/-- name = [..] on one line -/
theorem ps_setLcX {Fit : Cx → Heap → Prop} {i : Nat} {y : Str} {py : Pos} {elt tg iter : Expr} {ifs : List Expr} {scope : Scope} {own : List (Str × Nat)} {pos spos : Pos} {wi : TI} {g : TG} {tt : TT} {te : TE} (hN : X.N.Nodup) (hy : X.N[i]? = some y) (hyl : X.env.scope.names.lookup y = some .local)
    (hsw : swapsWith (.ListComp elt [⟨tg, iter, ifs, 0⟩] scope pos) (some (.Name y py)) spos.line X.env = pure true) (hi : PIX Fit X tg iter wi) (ok : BlkOk X.N X.env.scope scope own)
    (hfit : ∀ (pins : List (Addr × Obj)) (s : Shared) (H : Hp) (σ0 : L2.St) (env : PySem.Env) (fp : List Addr), L2.Inv X pins σ0 H s → (∀ b ∈ fp, FpOk X pins H b) → ∀ σ' H' s', L2.Inv (X.blk s H scope env fp) [] σ' H' s' → Fit (X.blk s H scope env fp) s'.heap)
    (hg : ∀ (s : Shared) (H : Hp) (C : Addr) (cl : List (Str × Addr)) (fp : List Addr), BlkAt X s H cl fp → PG (X.blk s H scope (compEnvC scope cl C X.env) fp) tg g)
    (ht : ∀ (s : Shared) (H : Hp) (C : Addr) (cl : List (Str × Addr)) (fp : List Addr), BlkAt X s H cl fp → PTs (X.blk s H scope (compEnvC scope cl C X.env) fp) ifs tt)
    (he : ∀ (s : Shared) (H : Hp) (C : Addr) (cl : List (Str × Addr)) (fp : List Addr), BlkAt X s H cl fp → PE (X.blk s H scope (compEnvC scope cl C X.env) fp) elt te) (hs : ∀ x, foldedSetIterable iter X.env x = pure x) :
    PS X (.Assign [.Name y py] (.ListComp elt [⟨tg, iter, ifs, 0⟩] scope pos) spos) (tAsg (tLc wi g tt te (own.map (·.2))) (gName i)) := by
  refine ⟨fun pins s σ H D iv h => ?_⟩
  rw [exec_Assign_Name_used _ _ _ _ hsw]
  refine wpAny_bind (wpAny_standAt (wpAny_bind ?_))
  show wpAny _ X.A (do let _ ← comprehension (.ListComp elt [⟨tg, iter, ifs, 0⟩] scope pos) scope X.env (firstIterPos [⟨tg, iter, ifs, 0⟩] pos) (PySem.newList []) false (eval iter X.env) (some (assign (.Name y py) X.env))) _ _ s
  have h : tLc wi g tt te (own.map (·.2)) σ H (fun x H1 => gName i x σ H1 D.nx) := h
  refine wpAny_bind (thn (lc_own (Qf := fun _ s' => SP X pins D .next s') hN iv hi ok (hfit pins) hg ht he hs h fun L C s' mm H' J q hn f => ?_) fun _ s' hq => wpAny_pure (wpAny_pure hq))
  show wpAny _ _ (assign (.Name y py) X.env (.ref L)) _ _ _
  refine wpAny_assign_Name (store_ok2 (v := V.ref L) J hN hy (.inl hyl) rfl (fun s2 J2 ⟨a, sb, ha⟩ => ?_) (.inr hyl))
  have ne : C ≠ a := ha.elim (fun z => by rw [z]; exact f.2.1) fun z e => f.2.2.2.2.1 y a z e.symm
  exact ⟨mm, hn.sameBut sb ne, fun h3 sb3 => ⟨_, H', J2.turned (t' := s2.toks) (fun b o hb e => (sb3.2 b hb).trans e) f.1 f.2.1 f.2.2.2.1 f.2.2.2.2.1 f.2.2.2.2.2, q⟩⟩
end
section
variable {I : Info} {xh : XH} {W : WX} {X : Cx}
/-- what a comprehension's block must give -/
structure LcOk (I : Info) (xh : XH) (W : WX) (X : Cx) (Fit : Cx → Heap → Prop) (own : List (Str × Nat)) (elt tg iter : Expr) (ifs : List Expr) (scope : Scope) (j : Env → Store → Res PF.It) (g : D → Env → Store → Res Env) (c e : Env → Store → Res D) : Prop where
  hN : X.N.Nodup
  hi : PIX Fit X tg iter (TIt I xh W j)
  ok : BlkOk X.N X.env.scope scope own
  hfit : ∀ (pins : List (Addr × Obj)) (s : Shared) (H : Hp) (σ0 : L2.St) (env : PySem.Env) (fp : List Addr), L2.Inv X pins σ0 H s → (∀ b ∈ fp, FpOk X pins H b) → ∀ σ' H' s', L2.Inv (X.blk s H scope env fp) [] σ' H' s' → Fit (X.blk s H scope env fp) s'.heap
  hg : ∀ (s : Shared) (H : Hp) (C : Addr) (cl : List (Str × Addr)) (fp : List Addr), BlkAt X s H cl fp → PG (X.blk s H scope (compEnvC scope cl C X.env) fp) tg (TGt I xh W0 (own.map (·.2)) g)
  ht : ∀ (s : Shared) (H : Hp) (C : Addr) (cl : List (Str × Addr)) (fp : List Addr), BlkAt X s H cl fp → PTs (X.blk s H scope (compEnvC scope cl C X.env) fp) ifs (TBl I xh W0 (tru c))
  he : ∀ (s : Shared) (H : Hp) (C : Addr) (cl : List (Str × Addr)) (fp : List Addr), BlkAt X s H cl fp → PE (X.blk s H scope (compEnvC scope cl C X.env) fp) elt (TD I xh W0 e)
  hs : ∀ x, foldedSetIterable iter X.env x = pure x
theorem e_compX {Fit : Cx → Heap → Prop} {n : Nat} {own : List (Str × Nat)} {elt tg iter : Expr} {ifs : List Expr} {scope : Scope} {pos : Pos} {j : Env → Store → Res PF.It} {g : D → Env → Store → Res Env} {c e : Env → Store → Res D} (h : LcOk I xh W X Fit own elt tg iter ifs scope j g c e) :
    PE X (.ListComp elt [⟨tg, iter, ifs, 0⟩] scope pos) (TD I xh W (compE n (own.map (·.2)) j g c e)) :=
  weakE (pe_lcX h.hN h.hi h.ok h.hfit h.hg h.ht h.he h.hs) fun σ H Q h => lc_read h
theorem s_setLcX {Fit : Cx → Heap → Prop} {n : Nat} {own : List (Str × Nat)} {i : Nat} {y : Str} {py : Pos} {elt tg iter : Expr} {ifs : List Expr} {scope : Scope} {pos spos : Pos} {j : Env → Store → Res PF.It} {g : D → Env → Store → Res Env} {c e : Env → Store → Res D} (h : LcOk I xh W X Fit own elt tg iter ifs scope j g c e)
    (hy : X.N[i]? = some y) (hyl : X.env.scope.names.lookup y = some .local) (hsw : swapsWith (.ListComp elt [⟨tg, iter, ifs, 0⟩] scope pos) (some (.Name y py)) spos.line X.env = pure true) :
    PS X (.Assign [.Name y py] (.ListComp elt [⟨tg, iter, ifs, 0⟩] scope pos) spos) (TSt I xh W (asgE (compE n (own.map (·.2)) j g c e) fun d ρ st => .ok (ρ.set i (some (.d d))) st)) :=
  weakS (ps_setLcX h.hN hy hyl hsw h.hi h.ok h.hfit h.hg h.ht h.he h.hs) fun D σ H hw => lc_read (TSt.bind (R1 := rD I) hw fun v H1 d m1 ρ st1 s1 e1 r1 p1 => PostS.next p1 s1 (e1.set (.d r1) i))
theorem fit_calm (hc : X.calm = true) {scope : Scope} : ∀ (pins : List (Addr × Obj)) (s : Shared) (H : Hp) (σ0 : L2.St) (env : PySem.Env) (fp : List Addr), L2.Inv X pins σ0 H s → (∀ b ∈ fp, FpOk X pins H b) → ∀ σ' H' s', L2.Inv (X.blk s H scope env fp) [] σ' H' s' → Calm (X.blk s H scope env fp) s'.heap := fun _ _ _ _ _ _ _ _ _ _ _ _ => hc
end
end PF

set_option Elab.async false
set_option linter.all false
set_option maxRecDepth 100000
/-! Order of tuples; a, b = x, y. -/
namespace PF
open PySem PySem.Spec PyProof.Rows L2
open PySem.W (alike alikeAll dataLt keyToksAll dataLt_bool dataLt_int dataLt_str dataLt_tuple toks_all_cons dataLt_all_yes dataLt_all_no rcLt_alike)
section
variable {I : Info} {xh : XH} {W : WX} {X : Cx}
abbrev qN : Nat → List PyData := fun _ => []
abbrev pN : Nat → Bool := fun _ => false
mutual
theorem alike_W : ∀ (a b : D), alikeW a b = true → dataW pN a = true → dataW pN b = true → alike (pyW qN a) (pyW qN b) = true
  | .bl _, .bl _, _, _, _ => rfl
  | .int _, .int _, _, _, _ => rfl
  | .str _, .str _, _, _, _ => rfl
  | .tup xs, .tup ys, h, h1, h2 => by
    simp only [alikeW] at h
    simp only [dataW] at h1 h2
    simp only [pyW, alike]
    exact alikes_W xs ys h h1 h2
  | .non, b, h, _, _ => by cases b <;> simp [alikeW] at h
  | .loc _, b, h, _, _ => by cases b <;> simp [alikeW] at h
  | .rol _, b, h, _, _ => by cases b <;> simp [alikeW] at h
  | .fn _, b, h, _, _ => by cases b <;> simp [alikeW] at h
  | .lam _, b, h, _, _ => by cases b <;> simp [alikeW] at h
  | .bl _, .non, h, _, _ => by simp [alikeW] at h
  | .bl _, .int _, h, _, _ => by simp [alikeW] at h
  | .bl _, .str _, h, _, _ => by simp [alikeW] at h
  | .bl _, .tup _, h, _, _ => by simp [alikeW] at h
  | .bl _, .loc _, h, _, _ => by simp [alikeW] at h
  | .bl _, .rol _, h, _, _ => by simp [alikeW] at h
  | .bl _, .fn _, h, _, _ => by simp [alikeW] at h
  | .bl _, .lam _, h, _, _ => by simp [alikeW] at h
  | .int _, .non, h, _, _ => by simp [alikeW] at h
  | .int _, .bl _, h, _, _ => by simp [alikeW] at h
  | .int _, .str _, h, _, _ => by simp [alikeW] at h
  | .int _, .tup _, h, _, _ => by simp [alikeW] at h
  | .int _, .loc _, h, _, _ => by simp [alikeW] at h
  | .int _, .rol _, h, _, _ => by simp [alikeW] at h
  | .int _, .fn _, h, _, _ => by simp [alikeW] at h
  | .int _, .lam _, h, _, _ => by simp [alikeW] at h
  | .str _, .non, h, _, _ => by simp [alikeW] at h
  | .str _, .bl _, h, _, _ => by simp [alikeW] at h
  | .str _, .int _, h, _, _ => by simp [alikeW] at h
  | .str _, .tup _, h, _, _ => by simp [alikeW] at h
  | .str _, .loc _, h, _, _ => by simp [alikeW] at h
  | .str _, .rol _, h, _, _ => by simp [alikeW] at h
  | .str _, .fn _, h, _, _ => by simp [alikeW] at h
  | .str _, .lam _, h, _, _ => by simp [alikeW] at h
  | .tup _, .non, h, _, _ => by simp [alikeW] at h
  | .tup _, .bl _, h, _, _ => by simp [alikeW] at h
  | .tup _, .int _, h, _, _ => by simp [alikeW] at h
  | .tup _, .str _, h, _, _ => by simp [alikeW] at h
  | .tup _, .loc _, h, _, _ => by simp [alikeW] at h
  | .tup _, .rol _, h, _, _ => by simp [alikeW] at h
  | .tup _, .fn _, h, _, _ => by simp [alikeW] at h
  | .tup _, .lam _, h, _, _ => by simp [alikeW] at h
theorem alikes_W : ∀ (xs ys : List D), alikesW xs ys = true → datasW pN xs = true → datasW pN ys = true → alikeAll (pysW qN xs) (pysW qN ys) = true
  | x :: xs, y :: ys, h, h1, h2 => by
    simp only [alikesW, Bool.and_eq_true] at h
    simp only [datasW, Bool.and_eq_true] at h1 h2
    simp only [pysW, alikeAll, Bool.and_eq_true]
    exact ⟨alike_W x y h.1 h1.1 h2.1, alikes_W xs ys h.2 h1.2 h2.2⟩
  | [], ys, _, _, _ => by simp only [pysW, alikeAll]
  | x :: xs, [], _, _, _ => by simp only [pysW, alikeAll]
end
theorem eqv_N (a b : D) (h1 : dataW pN a = true) (h2 : dataW pN b = true) : PyData.eqv (pyW qN a) (pyW qN b) = eqW (fun _ _ => false) a b := eqv_W (p := pN) (fun n k h => by cases h) a b h1 h2
theorem b2i_lt (p q : Bool) : decide (b2i p < b2i q) = (!p && q) := by cases p <;> cases q <;> rfl
mutual
theorem lt_W : ∀ (a b : D), alikeW a b = true → dataW pN a = true → dataW pN b = true → dataLt (pyW qN a) (pyW qN b) = ltW a b
  | .bl p, .bl q, _, _, _ => by simp only [pyW, ltW]; rw [dataLt_bool, b2i_lt]
  | .int _, .int _, _, _, _ => by simp only [pyW, ltW]; rw [dataLt_int]
  | .str _, .str _, _, _, _ => by simp only [pyW, ltW]; rw [dataLt_str]
  | .tup xs, .tup ys, h, h1, h2 => by
    simp only [alikeW] at h
    simp only [dataW] at h1 h2
    simp only [pyW, ltW]
    rw [dataLt_tuple]
    exact lts_W xs ys h h1 h2
  | .non, b, h, _, _ => by cases b <;> simp [alikeW] at h
  | .loc _, b, h, _, _ => by cases b <;> simp [alikeW] at h
  | .rol _, b, h, _, _ => by cases b <;> simp [alikeW] at h
  | .fn _, b, h, _, _ => by cases b <;> simp [alikeW] at h
  | .lam _, b, h, _, _ => by cases b <;> simp [alikeW] at h
  | .bl _, .non, h, _, _ => by simp [alikeW] at h
  | .bl _, .int _, h, _, _ => by simp [alikeW] at h
  | .bl _, .str _, h, _, _ => by simp [alikeW] at h
  | .bl _, .tup _, h, _, _ => by simp [alikeW] at h
  | .bl _, .loc _, h, _, _ => by simp [alikeW] at h
  | .bl _, .rol _, h, _, _ => by simp [alikeW] at h
  | .bl _, .fn _, h, _, _ => by simp [alikeW] at h
  | .bl _, .lam _, h, _, _ => by simp [alikeW] at h
  | .int _, .non, h, _, _ => by simp [alikeW] at h
  | .int _, .bl _, h, _, _ => by simp [alikeW] at h
  | .int _, .str _, h, _, _ => by simp [alikeW] at h
  | .int _, .tup _, h, _, _ => by simp [alikeW] at h
  | .int _, .loc _, h, _, _ => by simp [alikeW] at h
  | .int _, .rol _, h, _, _ => by simp [alikeW] at h
  | .int _, .fn _, h, _, _ => by simp [alikeW] at h
  | .int _, .lam _, h, _, _ => by simp [alikeW] at h
  | .str _, .non, h, _, _ => by simp [alikeW] at h
  | .str _, .bl _, h, _, _ => by simp [alikeW] at h
  | .str _, .int _, h, _, _ => by simp [alikeW] at h
  | .str _, .tup _, h, _, _ => by simp [alikeW] at h
  | .str _, .loc _, h, _, _ => by simp [alikeW] at h
  | .str _, .rol _, h, _, _ => by simp [alikeW] at h
  | .str _, .fn _, h, _, _ => by simp [alikeW] at h
  | .str _, .lam _, h, _, _ => by simp [alikeW] at h
  | .tup _, .non, h, _, _ => by simp [alikeW] at h
  | .tup _, .bl _, h, _, _ => by simp [alikeW] at h
  | .tup _, .int _, h, _, _ => by simp [alikeW] at h
  | .tup _, .str _, h, _, _ => by simp [alikeW] at h
  | .tup _, .loc _, h, _, _ => by simp [alikeW] at h
  | .tup _, .rol _, h, _, _ => by simp [alikeW] at h
  | .tup _, .fn _, h, _, _ => by simp [alikeW] at h
  | .tup _, .lam _, h, _, _ => by simp [alikeW] at h
theorem lts_W : ∀ (xs ys : List D), alikesW xs ys = true → datasW pN xs = true → datasW pN ys = true → PyProof.Rows.lexLt itemOrd (keyToksAll (pysW qN xs)) (keyToksAll (pysW qN ys)) = ltsW xs ys
  | [], [], _, _, _ => by simp only [pysW, ltsW]; decide
  | [], y :: ys, _, _, _ => by
    simp only [pysW, ltsW]
    rw [toks_all_cons]
    simp only [keyToksAll, PyProof.Rows.lexLt]
    have e : itemLt (Sum.inl 0) (Sum.inl 1) = true := by decide
    simp [e]
  | x :: xs, [], _, _, _ => by
    simp only [pysW, ltsW]
    rw [toks_all_cons]
    simp only [keyToksAll, PyProof.Rows.lexLt]
    have e : itemLt (Sum.inl 0) (Sum.inl 1) = true := by decide
    have e2 : itemLt (Sum.inl 1) (Sum.inl 0) = false := by decide
    simp [e, e2]
  | x :: xs, y :: ys, h, h1, h2 => by
    simp only [alikesW, Bool.and_eq_true] at h
    simp only [datasW, Bool.and_eq_true] at h1 h2
    simp only [pysW, ltsW]
    have al := alike_W x y h.1 h1.1 h2.1
    have ev := eqv_N x y h1.1 h2.1
    cases q : eqW (fun _ _ => false) x y with
    | true =>
      rw [if_pos rfl, dataLt_all_yes al (ev.trans q)]
      exact lts_W xs ys h.2 h1.2 h2.2
    | false =>
      rw [if_neg (by decide), dataLt_all_no al (ev.trans q)]
      exact lt_W x y h.1 h1.1 h2.1
end
mutual
theorem dep_N : ∀ (d : D), dataW pN d = true → (pyW qN d).depth ≤ depW (fun _ => 0) d
  | .non, _ => by simp [pyW, PyData.depth]
  | .bl _, _ => by simp [pyW, PyData.depth]
  | .int _, _ => by simp [pyW, PyData.depth]
  | .str _, _ => by simp [pyW, PyData.depth]
  | .tup ds, h => by
    simp only [dataW] at h
    simp only [pyW, depW, PyData.depth]
    exact Nat.succ_le_succ (deps_N ds h)
  | .loc _, h => by simp [dataW] at h
  | .rol _, h => by simp [dataW] at h
  | .fn _, h => by simp [dataW] at h
  | .lam _, h => by simp [dataW] at h
theorem deps_N : ∀ (ds : List D), datasW pN ds = true → PyData.depthAll (pysW qN ds) ≤ depsW (fun _ => 0) ds
  | [], _ => by simp [pysW, PyData.depthAll]
  | d :: ds, h => by
    simp only [datasW, Bool.and_eq_true] at h
    simp only [pysW, depsW, PyData.depthAll]
    have a := dep_N d h.1
    have b := deps_N ds h.2
    omega
end
theorem ltD_some {a b : D} {r : Bool} (h : ltD a b = some r) : alikeW a b = true ∧ dataW pN a = true ∧ dataW pN b = true ∧ min (depW (fun _ => 0) a) (depW (fun _ => 0) b) ≤ 64 ∧ r = ltW a b := by
  unfold ltD at h
  split at h
  · rename_i z
    simp only [Bool.and_eq_true, decide_eq_true_eq] at z
    exact ⟨z.1.1.1, z.1.1.2, z.1.2, z.2, (Option.some.inj h).symm⟩
  · cases h
def rLtM (K : PySem.W.Frag) : R2 := fun x y H Q => ∃ d e, Dp K H x d ∧ Dp K H y e ∧ alike d e = true ∧ d ≠ .none ∧ min d.depth e.depth ≤ 64 ∧ Q (.bl (dataLt d e)) H
theorem op_ltM (hu : X.A.units + 64 < cLine) : OpR X (compareOp .Lt) (rLtM X.K) := by
  intro pins s σ H x y v u Q iv rx ry h
  obtain ⟨d, e, hd, he, al, nn, dp, q⟩ := h
  obtain ⟨as, r1⟩ := Dp.reads iv d x v hd rx
  obtain ⟨bs, r2⟩ := Dp.reads iv e y u he ry
  exact rcLt_alike d e X.A s v u as bs r1 r2 al nn (by omega) _ _ _ _ ⟨.bl _, H, iv, rfl, q⟩
theorem cs_lt (hK : X.K = I.K) (hu : X.A.units + 64 < cLine) : CmpS I X .Lt .lt := by
  refine ⟨_, op_lt.or (op_ltM hu), fun {m H st d e x y Q E} hs hd he hp => ?_⟩
  obtain ⟨b, hb, q⟩ := hp.othmap hs
  rcases cs_lt0 hb with ⟨i, j, rfl, rfl, rfl⟩ | ⟨xs, ys, rfl, rfl, h⟩
  · cases hd
    cases he
    exact .inl ⟨i, j, rfl, rfl, q⟩
  · obtain ⟨h1, h2, h3, h4, rfl⟩ := ltD_some h
    rw [hK]
    refine .inr ⟨_, _, dp_W (p := pN) (q := qN) (fun n a h => by cases h) h2 hd, dp_W (p := pN) (q := qN) (fun n a h => by cases h) h3 he, alike_W _ _ h1 h2 h3, by simp [pyW], ?_, by rw [lt_W _ _ h1 h2 h3]; exact q⟩
    have a1 := dep_N _ h2
    have a2 := dep_N _ h3
    omega
abbrev parE (is : List Nat) (g : Env → Store → Res (List D)) : Env → Store → SR := fun ρ st => sbnd (g ρ st) ρ fun ds st1 => sbnd (oth (parS is ds ρ) st1) ρ fun ρ1 st2 => .next ρ1 st2
theorem s_par2 {i j : Nat} {x y : Str} {a b : Expr} {px py pt pos : Pos} {kt k2 pt2} {g : Env → Store → Res (List D)} (hc : X.calm = true) (hN : X.N.Nodup) (hi : X.N[i]? = some x) (hj : X.N[j]? = some y) (hij : i ≠ j)
    (hx : X.env.scope.names.lookup x = some .local) (hy : X.env.scope.names.lookup y = some .local) (ha : PA X [a, b] (TDs I xh W g))
    (hw : swappedStores [.Tuple [.Name x px, .Name y py] kt pt] (.Tuple [a, b] k2 pt2) X.env = pure (some [x, y])) :
    PS X (.Assign [.Tuple [.Name x px, .Name y py] kt pt] (.Tuple [a, b] k2 pt2) pos) (TSt I xh W (parE [i, j] g)) :=
  weakS (ps_par hc hN hi hj hij hx hy ha hw rfl) fun D σ H h => TSt.bind (R1 := rDs I) h fun vs H1 ds m1 ρ st1 s1 e1 r1 p1 => by
    cases r1 with
    | nil => exact p1.elim
    | cons r1 rr =>
      cases rr with
      | nil => exact p1.elim
      | cons r2 rr =>
        cases rr with
        | nil => exact ⟨_, _, rfl, PostS.next p1 s1 ((e1.set (.d r1) i).set (.d r2) j)⟩
        | cons r3 rr => exact False.elim p1
theorem s_par3 {i j l : Nat} {x y z : Str} {a b c : Expr} {px py pz pt pos : Pos} {kt k2 pt2} {g : Env → Store → Res (List D)} (hc : X.calm = true) (hN : X.N.Nodup) (hi : X.N[i]? = some x) (hj : X.N[j]? = some y) (hl : X.N[l]? = some z) (hij : i ≠ j) (hil : i ≠ l) (hjl : j ≠ l)
    (hx : X.env.scope.names.lookup x = some .local) (hy : X.env.scope.names.lookup y = some .local) (hz : X.env.scope.names.lookup z = some .local) (ha : PA X [a, b, c] (TDs I xh W g))
    (hw : swappedStores [.Tuple [.Name x px, .Name y py, .Name z pz] kt pt] (.Tuple [a, b, c] k2 pt2) X.env = pure (some [x, y, z])) :
    PS X (.Assign [.Tuple [.Name x px, .Name y py, .Name z pz] kt pt] (.Tuple [a, b, c] k2 pt2) pos) (TSt I xh W (parE [i, j, l] g)) :=
  weakS (ps_par3 hc hN hi hj hl hij hil hjl hx hy hz ha hw rfl) fun D σ H h => TSt.bind (R1 := rDs I) h fun vs H1 ds m1 ρ st1 s1 e1 r1 p1 => by
    cases r1 with
    | nil => exact p1.elim
    | cons r1 rr =>
      cases rr with
      | nil => exact p1.elim
      | cons r2 rr =>
        cases rr with
        | nil => exact p1.elim
        | cons r3 rr =>
          cases rr with
          | nil => exact ⟨_, _, _, rfl, PostS.next p1 s1 (((e1.set (.d r1) i).set (.d r2) j).set (.d r3) l)⟩
          | cons r4 rr => exact False.elim p1
end
end PF

set_option Elab.async false
set_option linter.all false
set_option maxRecDepth 100000
set_option maxHeartbeats 2000000
/-! While an error is handled: the end of lists and tuples that are walked, zip, names for the items of a pair. -/
namespace PF
open PySem PySem.Spec PyProof.Rows L2 HotX
section
variable {prog : Program} {w : World} {A : Around} {E : Value → Shared → Prop} {s : Shared} {x1 : Addr}
/-- the end of an iteration is told, while an error is handled -/
theorem stop_hot {α : Type} {Q : α → Shared → Prop} (hot : HotAt A x1 s.heap) (hE : ∀ g e, (∀ b o, s.heap.get? b = some o → g.get? b = some o) → (∃ o, g.get? e = some o ∧ o.cls = .type "StopIteration") → E (.ref e) { s with heap := g }) :
    wpAny (model prog w) A (newExc (.type "StopIteration") [] >>= fun e => (raiseNew e : Sem α)) Q E s := by
  obtain ⟨hh, o1, v1, p1, d1, c1⟩ := hot
  refine wpAny_bind ?_
  simp only [newExc, newTuple]
  refine wpAny_bind (wpAny_newObj_type ?_ (by size_fits))
  refine wpAny_bind (m := firstArgMember _ _) (wpAny_of_eq (a := Value.none) (by first | rfl | (simp only [firstArgMember]; rfl)) (wpAny_newObj_type ?_ (by size_fits)))
  have q1 := Heap.get?_push_of_some { cls := .type "tuple", data := .seq #[] } p1
  refine raiseNew_hot ⟨hh, o1, v1, Heap.get?_push_of_some _ q1, d1, c1⟩ (Nat.ne_of_lt (Heap.lt_size q1)) (Heap.get?_push_size _ rfl) rfl (by first | (simp; done) | (simp; omega) | (simp only [Array.size_append]; simp; omega)) ?_
  refine hE _ _ (fun b o e => ?_) ⟨_, Heap.get?_update_self _ (Heap.get?_push_size _ rfl) rfl, rfl⟩
  have q := Heap.get?_push_of_some { cls := .type "tuple", data := .seq #[] } e
  rw [Heap.get?_update_other _ _ (Nat.ne_of_gt (Heap.lt_size q))]
  exact Heap.get?_push_of_some _ q
theorem nextOf_list_end_hot {it l : Addr} {i : Nat} {items : Array Value} {Q : Value → Shared → Prop} (hot : HotAt A x1 s.heap) (nit : x1 ≠ it) (hit : s.heap.IsListIter it l i) (hl : s.heap.IsList l items) (hx : items[i]? = none)
    (hE : ∀ g e, Heap.ExtBut it s.heap g → (∃ o, g.get? e = some o ∧ o.cls = .type "StopIteration") → E (.ref e) { s with heap := g }) : wpAny (model prog w) A (Builtin.SmallTypes.nextOf (.ref it)) Q E s := by
  have hT := hit.typeIs
  obtain ⟨o, ho, hc, hd⟩ := hit
  obtain ⟨ol, hol, hcl, nl, hdl⟩ := hl
  obtain ⟨hh, o1, v1, p1, d1, c1⟩ := hot
  unfold Builtin.SmallTypes.nextOf
  refine wpAny_bind (wpAny_callSpecial?_slot (name := Str.ofString "__next__") hT slot_listiter_next (wpAny_call_entry slot_listiter_next hT entry_listiter_next ?_ (args_listiter_next _)))
  show wpAny _ _ (field (.ref it) 0 >>= _) _ _ s
  refine wpAny_bind (wpAny_field ho hd (x := .ref l) rfl ?_)
  show wpAny _ _ (if (Value.ref l == Value.none) = true then _ else _) _ _ s
  rw [if_neg (show ¬ (Value.ref l == Value.none) = true from nofun)]
  show wpAny _ _ (field (.ref it) 1 >>= _) _ _ s
  refine wpAny_bind (wpAny_field ho hd (x := .int i 0) rfl ?_)
  show wpAny _ _ (seqItems? (.ref l) >>= _) _ _ s
  refine wpAny_bind (wpAny_seqItems hol hdl ?_)
  simp only [Int.toNat_natCast, hx]
  refine wpAny_bind (wpAny_rule (wpAny_bind (wpAny_setField ho hd (by simp) ?_)))
  refine stop_hot (x1 := x1) ⟨hh, o1, v1, ((Heap.SameBut.update ..).2 x1 nit).trans p1, d1, c1⟩ fun g e k q => hE g e (fun b o' hb e' => k b o' ((Heap.SameBut.update ..).extBut b o' hb e')) q
theorem next_tuple_end_hot {it t : Addr} {i : Nat} {items : Array Value} {Q : Option Value → Shared → Prop} (hot : HotAt A x1 s.heap) (nit : x1 ≠ it) (hit : IsTupIter s.heap it t i) (ht : IsTup s.heap t items) (hx : items[i]? = none)
    (hQ : ∀ g, Heap.ExtBut it s.heap g → Q none { s with heap := g }) : wpAny (model prog w) A (pyNext (.ref it)) Q E s := by
  have hT := hit.typeIs
  obtain ⟨o, ho, hc, hd⟩ := hit
  obtain ⟨ot, hot', _, nt, hdt⟩ := ht
  obtain ⟨hh, o1, v1, p1, d1, c1⟩ := hot
  unfold pyNext
  refine wpAny_bind (wpAny_attempt (wpAny_callSpecial?_slot (name := Str.ofString "__next__") hT slot_tupleiter_next (wpAny_call_entry slot_tupleiter_next hT entry_tupleiter_next ?_ (args_tupleiter_next _))))
  show wpAny _ _ (field (.ref it) 0 >>= _) _ _ s
  refine wpAny_bind (wpAny_field ho hd (x := .ref t) rfl ?_)
  show wpAny _ _ (if (Value.ref t == Value.none) = true then _ else _) _ _ s
  rw [if_neg (show ¬ (Value.ref t == Value.none) = true from nofun)]
  show wpAny _ _ (field (.ref it) 1 >>= _) _ _ s
  refine wpAny_bind (wpAny_field ho hd (x := .int i 0) rfl ?_)
  show wpAny _ _ (seqItems? (.ref t) >>= _) _ _ s
  refine wpAny_bind (wpAny_seqItems hot' hdt ?_)
  simp only [Int.toNat_natCast, hx]
  refine wpAny_bind (wpAny_rule (wpAny_bind (wpAny_setField ho hd (by simp) ?_)))
  refine stop_hot (x1 := x1) ⟨hh, o1, v1, ((Heap.SameBut.update ..).2 x1 nit).trans p1, d1, c1⟩ fun g e k q => ?_
  refine wpAny_bind (wpAny_isInstance (T := "StopIteration") (b := true) q isSubtype_stop (wpAny_pure (hQ g fun b o' hb e' => k b o' ((Heap.SameBut.update ..).extBut b o' hb e'))))
theorem unpack_tuple_hot {t : Addr} {items : Array Value} {targets : List (Bool × (Value → Sem Unit))} {Q : Unit → Shared → Prop} (hot : HotAt A x1 s.heap) (ht : IsTup s.heap t items) (hn : targets.length = items.size) (hstar : targets.findIdx? (·.1) = none)
    (h : ∀ g, Heap.ExtBut s.heap.objs.size s.heap g → wpAny (model prog w) A (assignInOrder (targets.map (·.2)) items.toList) Q E { s with heap := g }) : wpAny (model prog w) A (PySem.unpack (.ref t) targets) Q E s := by
  have hlt : t ≠ s.heap.objs.size := by obtain ⟨o, ho, _⟩ := ht; exact Nat.ne_of_lt (Heap.lt_size ho)
  have n1 : x1 ≠ s.heap.objs.size := by obtain ⟨_, o, _, p1, _⟩ := hot; exact Nat.ne_of_lt (Heap.lt_size p1)
  unfold PySem.unpack
  rw [hn, hstar]
  refine wpAny_bind (wpAny_holding ?_)
  unfold unpackItems
  refine wpAny_bind ?_
  unfold notIterableAtAll
  refine wpAny_bind (wpAny_specialOf ht.typeIs slot_tuple_iter.lookup (wpAny_pure ?_))
  simp only [Bool.false_eq_true, if_false]
  refine wpAny_bind (wpAny_holding (iter_tuple ht ?_))
  refine wpAny_bind (wpAny_holding (draw_tuple hlt items.size 0 _ _ ⟨_, Heap.get?_push_size _ rfl, rfl, rfl⟩ (ht.push _) (by omega) fun g1 it1 sb1 => ?_))
  rw [show List.take items.size (List.drop 0 items.toList) = items.toList from by rw [List.drop_zero]; exact List.take_of_length_le (by simp)]
  rw [if_neg (by simp)]
  have t1 : IsTup g1 t items := (ht.push _).extBut sb1.extBut hlt
  obtain ⟨hh, o1, v1, p1, d1, c1⟩ := hot
  refine wpAny_bind (wpAny_holding (next_tuple_end_hot (x1 := x1) ⟨hh, o1, v1, sb1.extBut _ _ n1 (Heap.get?_push_of_some _ p1), d1, c1⟩ n1 it1 t1 (by simp) fun g2 e2 => ?_))
  simp only [Option.isSome_none, Bool.false_eq_true, if_false]
  exact wpAny_pure (h g2 fun b o hb e => e2 b o hb (sb1.extBut b o hb (Heap.get?_push_of_some _ e)))
theorem pyNext_zip_end_hot {z TI TO i1 i2 l1 l2 : Addr} {k1 k2 : Nat} {xs ys : Array Value} {a b : Value} {Q : Option Value → Shared → Prop} (hot : HotAt A x1 s.heap) (D : ZipApart z TI TO i1 i2 l1 l2) (n0 : x1 ≠ z) (n1 : x1 ≠ TO) (n2 : x1 ≠ i1) (n3 : x1 ≠ i2)
    (hz : IsZip s.heap z TI TO .none) (hTI : IsPair s.heap TI (.ref i1) (.ref i2)) (hTO : IsPair s.heap TO a b) (h1 : s.heap.IsListIter i1 l1 k1) (h2 : s.heap.IsListIter i2 l2 k2) (hl1 : s.heap.IsList l1 xs) (hl2 : s.heap.IsList l2 ys) (hend : xs[k1]? = none ∨ ys[k2]? = none)
    (hQ : ∀ g, (∀ c o, c ≠ z → c ≠ TO → c ≠ i1 → c ≠ i2 → s.heap.get? c = some o → g.get? c = some o) → Q none { s with heap := g }) : wpAny (model prog w) A (pyNext (.ref z)) Q E s := by
  obtain ⟨hh, o1, v1, p1, d1, c1⟩ := hot
  have hT : s.TypeIs (.ref z) "zip" := ⟨_, hz, rfl⟩
  unfold pyNext
  refine wpAny_bind (wpAny_attempt (wpAny_callSpecial?_slot (name := Str.ofString "__next__") hT F.slot_zip_next (wpAny_call_entry F.slot_zip_next hT F.entry_zip_next ?_ (F.args_zip_next_1 _))))
  have out : ∀ g e, (∀ c o, c ≠ z → c ≠ TO → c ≠ i1 → c ≠ i2 → s.heap.get? c = some o → g.get? c = some o) → (∃ o, g.get? e = some o ∧ o.cls = .type "StopIteration") →
      wpAny (model prog w) A (do if ← isInstance (.ref e) (.type "StopIteration") then pure none else throw (.ref e)) Q E { s with heap := g } := fun g e k q => wpAny_bind (wpAny_isInstance (T := "StopIteration") (b := true) q isSubtype_stop (wpAny_pure (hQ g k)))
  show wpAny _ _ (field (.ref z) 2 >>= _) _ _ _
  refine wpAny_bind (wpAny_field hz rfl (x := .bool false) rfl ?_)
  show wpAny _ _ (field (.ref z) 3 >>= _) _ _ _
  refine wpAny_bind (wpAny_field hz rfl (x := .ref TI) rfl (wpAny_bind (wpAny_seqItems hTI rfl ?_)))
  show wpAny _ _ (Builtin.SmallTypes.ownedTupleIsFree (.ref z) >>= _) _ _ _
  refine wpAny_bind ?_
  unfold Builtin.SmallTypes.ownedTupleIsFree
  refine wpAny_bind (wpAny_field hz rfl (x := .none) rfl (wpAny_pure ?_))
  simp only [if_true]
  refine wpAny_bind (wpAny_rule (wpAny_bind (wpAny_field hz rfl (x := .ref TO) rfl (wpAny_bind (wpAny_setField_rec hz (by simp) fun g1 z1 b1 => ?_)))))
  replace z1 : IsZip g1 z TI TO .ellipsis := z1
  refine wpAny_bind ?_
  simp only [List.zipIdx_cons, List.zipIdx_nil, List.forIn_cons, List.forIn_nil]
  refine wpAny_bind (wpAny_bind (wpAny_onRaise ?_))
  show wpAny _ _ (Builtin.SmallTypes.nextOf (.ref i1) >>= _) _ _ _
  have p2 := b1.extBut _ _ n0 p1
  cases hx : xs[k1]? with
  | none =>
    refine wpAny_bind (nextOf_list_end_hot (x1 := x1) ⟨hh, o1, v1, p2, d1, c1⟩ n2 (h1.extBut b1.extBut D.i1z) (hl1.extBut b1.extBut D.l1z) hx fun g2 e b2 q => ?_)
    obtain ⟨oe, hoe, hce⟩ := q
    have z2 : IsZip g2 z TI TO .ellipsis := b2 _ _ D.i1z.symm z1
    have nez : e ≠ z := fun x => by subst x; rw [z2] at hoe; cases hoe; simp at hce
    exact wpAny_setField_rec z2 (by simp) fun g3 _ b3 => out g3 e (fun c o a1 _ a3 _ x => b3.extBut _ _ a1 (b2 _ _ a3 (b1.extBut _ _ a1 x))) ⟨oe, b3.extBut _ _ nez hoe, hce⟩
  | some x =>
    have hy : ys[k2]? = none := hend.resolve_left (by rw [hx]; simp)
    refine wpAny_bind (wpAny_nextOf_list_item (h1.extBut b1.extBut D.i1z) (hl1.extBut b1.extBut D.l1z) hx fun g2 i2' b2 => wpAny_pure ?_)
    have t2 : IsPair g2 TO a b := b2.extBut _ _ D.TOi1 (b1.extBut _ _ D.TOz hTO)
    refine wpAny_bind (wpAny_seqItems t2 rfl (wpAny_bind (wpAny_updateSeq_pair t2 fun g3 t3 b3 => wpAny_bind (wpAny_letGo (wpAny_pure ?_)))))
    refine wpAny_bind (wpAny_bind (wpAny_onRaise ?_))
    show wpAny _ _ (Builtin.SmallTypes.nextOf (.ref i2) >>= _) _ _ _
    refine wpAny_bind (nextOf_list_end_hot (x1 := x1) ⟨hh, o1, v1, b3.extBut _ _ n1 (b2.extBut _ _ n2 p2), d1, c1⟩ n3 (((h2.extBut b1.extBut D.i2z).extBut b2.extBut D.i12.symm).extBut b3.extBut D.TOi2.symm) (((hl2.extBut b1.extBut D.l2z).extBut b2.extBut D.l2i1).extBut b3.extBut D.l2TO) hy fun g4 e b4 q => ?_)
    obtain ⟨oe, hoe, hce⟩ := q
    have z4 : IsZip g4 z TI TO .ellipsis := b4 _ _ D.i2z.symm (b3.extBut _ _ D.TOz.symm (b2.extBut _ _ D.i1z.symm z1))
    have nez : e ≠ z := fun x => by subst x; rw [z4] at hoe; cases hoe; simp at hce
    exact wpAny_setField_rec z4 (by simp) fun g5 _ b5 => out g5 e (fun c o a1 a2 a3 a4 x => b5.extBut _ _ a1 (b4 _ _ a4 (b3.extBut _ _ a2 (b2.extBut _ _ a3 (b1.extBut _ _ a1 x))))) ⟨oe, b5.extBut _ _ nez hoe, hce⟩
end
end PF

set_option Elab.async false
set_option linter.all false
set_option maxRecDepth 100000
set_option maxHeartbeats 2000000
/-! While an error is handled: comprehensions over zip. -/
namespace PF
open PySem PySem.Spec PyProof.Rows L2 HotX
def Hot (X : Cx) (h : Heap) : Prop := ∃ x1, HotAt X.A x1 h
section
variable {X : Cx}
theorem hot_blk {s : Shared} {H : Hp} {scope : Scope} {env : PySem.Env} {fp : List Addr} {pins pins' : List (Addr × Obj)} {σ0 σ' : L2.St} {H' : Hp} {s' : Shared} (hc : L2H.HotC X) (iv : L2.Inv X pins σ0 H s) (hf : ∀ b ∈ fp, FpOk X pins H b) (J : L2.Inv (X.blk s H scope env fp) pins' σ' H' s') : Hot (X.blk s H scope env fp) s'.heap := by
  obtain ⟨p, ⟨hh, v1, e1, c1⟩, hp⟩ := hc
  obtain ⟨a1, a2, a3, a4, a5⟩ := iv.pin p (List.mem_append_left _ hp)
  refine ⟨p.1, hh, p.2, v1, J.base.keep p.1 p.2 a1 a2 (fun m => ?_) (fun m => (hf _ m).2.2.2.2.2 p (List.mem_append_left _ hp) rfl), e1, c1⟩
  exact (List.mem_cons.mp (iv.stkSub p.1 m)).elim a3 a4
theorem fit_hot (hc : L2H.HotC X) {scope : Scope} : ∀ (pins : List (Addr × Obj)) (s : Shared) (H : Hp) (σ0 : L2.St) (env : PySem.Env) (fp : List Addr), L2.Inv X pins σ0 H s → (∀ b ∈ fp, FpOk X pins H b) → ∀ σ' H' s', L2.Inv (X.blk s H scope env fp) [] σ' H' s' → Hot (X.blk s H scope env fp) s'.heap :=
  fun _ _ _ _ _ _ iv hf _ _ _ J => hot_blk hc iv hf J
/-- zip of two lists -/
theorem turn_zip_hot {P : Program} {w : World} {K : PySem.W.Frag} {elts : List Expr} {kk : Nat} {tpos : Pos} {a b z TI TO i1 i2 : Addr} (D : ZipApart z TI TO i1 i2 a b) :
    TurnX Hot P w K (.Tuple elts kk tpos) (Itz K a b) [z, TI, TO, i1, i2] z (fun i h => IsZip h z TI TO .none ∧ IsPair h TI (.ref i1) (.ref i2) ∧ (∃ x y, IsPair h TO x y) ∧ h.IsListIter i1 a i ∧ h.IsListIter i2 b i) where
  thing := (turn_zip (P := P) (w := w) (K := K) (elts := elts) (kk := kk) (tpos := tpos) D).obj
  stays := (turn_zip (P := P) (w := w) (K := K) (elts := elts) (kk := kk) (tpos := tpos) D).keep
  same := (turn_zip (P := P) (w := w) (K := K) (elts := elts) (kk := kk) (tpos := tpos) D).self
  more := by
    intro Y hP hw hK i pins s σ H E _ iv hf st hg
    subst hP hw hK
    obtain ⟨hz, hTI, ⟨x0, y0, hTO⟩, h1, h2⟩ := st
    obtain ⟨xs, ys, x, y, lx, ly, hx, hy⟩ := hg
    obtain ⟨its, rv, p, _⟩ := iv.list lx
    obtain ⟨its2, rv2, p2, _⟩ := iv.list ly
    obtain ⟨u, hu, ru⟩ := rv.get hx
    obtain ⟨u2, hu2, ru2⟩ := rv2.get hy
    have lt : ∀ c ∈ [z, TI, TO, i1, i2], c < s.heap.objs.size := fun c hc => by
      obtain ⟨o, e, _⟩ := (turn_zip (P := Y.prog) (w := Y.w) (K := Y.K) (elts := elts) (kk := kk) (tpos := tpos) D).obj i s.heap ⟨hz, hTI, ⟨x0, y0, hTO⟩, h1, h2⟩ c hc
      exact Heap.lt_size e
    refine wpAny_pyNext_zip_item D hz hTI hTO h1 h2 p.isList p2.isList (x := u) (y := u2) (by simpa using hu) (by simpa using hu2) fun g z' t' k1 k2 nT _ kp => ⟨_, rfl, ?_⟩
    refine wpAny_letOwnedTupleGo_zip (s := { s with heap := g }) z' fun g2 z2 sb => ?_
    have at2 : ∀ c o, c ∉ [z, TI, TO, i1, i2] → s.heap.get? c = some o → g2.get? c = some o := fun c o hc e => by
      simp only [List.mem_cons, not_or, List.not_mem_nil, not_false_eq_true, and_true] at hc
      exact (sb.2 c hc.1).trans (kp c o hc.1 hc.2.2.1 hc.2.2.2.1 hc.2.2.2.2.1 e)
    have nT2 : g2.get? s.heap.objs.size = some { cls := .type "tuple", data := .seq #[u, u2] } := (sb.2 _ (Nat.ne_of_gt (lt z (by simp)))).trans nT
    have iv1 : L2.Inv Y pins σ (upd H s.heap.objs.size (.tup [x, y])) { s with heap := g2 } := iv.turnedNew (t' := s.toks) (ch := [z, TI, TO, i1, i2]) at2 hf (Nat.le_refl _) ⟨(by show 2 ≤ sizeLine; decide), [u, u2], .cons ru (.cons ru2 .nil), ⟨_, nT2, rfl, _, rfl⟩⟩
    refine ⟨.ref s.heap.objs.size, _, iv1, rfl, ⟨_, x, y, rfl, iv.hok.fresh (Nat.le_refl _), rfl, fun l hl => by rw [iv.list_inj hl lx]; exact hx, fun l hl => by rw [iv.list_inj hl ly]; exact hy⟩,
      ⟨z2, (sb.2 _ D.TIz).trans (kp _ _ D.TIz D.TITO D.TIi1 D.TIi2 hTI), ⟨u, u2, (sb.2 _ D.TOz).trans t'⟩, k1.at fun o q => (sb.2 _ D.i1z).trans q, k2.at fun o q => (sb.2 _ D.i2z).trans q⟩, fun c hc => ?_⟩
    rw [upd_ne (Nat.ne_of_lt (lt c hc))]
    exact (hf c hc).1
  last := by
    intro Y hP hw hK i pins s σ H E ht iv hf st hg
    subst hP hw hK
    obtain ⟨hz, hTI, ⟨x0, y0, hTO⟩, h1, h2⟩ := st
    obtain ⟨xs, ys, lx, ly, hend⟩ := hg
    obtain ⟨its, rv, p, _⟩ := iv.list lx
    obtain ⟨its2, rv2, p2, _⟩ := iv.list ly
    have l1 := rv.length
    have l2 := rv2.length
    obtain ⟨x1, hh, o1, v1, p1, d1, c1⟩ := ht
    have n0 : x1 ≠ z := fun e => by
      rw [e, hz] at p1
      cases p1
      cases d1
      cases c1
    have n1 : x1 ≠ TO := fun e => by
      rw [e, hTO] at p1
      cases p1
      cases d1
    have li : ∀ {it l : Addr} {k : Nat}, s.heap.IsListIter it l k → x1 ≠ it := fun {it l k} hi e => by
      obtain ⟨o, ho, _, hd⟩ := hi
      rw [e, ho] at p1
      cases p1
      rw [hd] at d1
      cases d1
      cases c1
    refine pyNext_zip_end_hot (x1 := x1) ⟨hh, o1, v1, p1, d1, c1⟩ D n0 n1 (li h1) (li h2) hz hTI hTO h1 h2 p.isList p2.isList (hend.imp (fun q => by simp; omega) fun q => by simp; omega) fun g kp => ⟨rfl, iv.turnedL (t' := s.toks) (ch := [z, TI, TO, i1, i2]) (fun c o hc e => ?_) hf⟩
    simp only [List.mem_cons, not_or, List.not_mem_nil, not_false_eq_true, and_true] at hc
    exact kp c o hc.1 hc.2.2.1 hc.2.2.2.1 hc.2.2.2.2.1 e
/-- a tuple goes to names -/
theorem pg_tup_hot {es : List Expr} {k n : Nat} {pos : Pos} {t : TGs} (hh : ∀ pins σ H s, L2.Inv X pins σ H s → Hot X s.heap) (h : PGs X es t) (hn : (assignEach es X.env).length = n) (hst : (assignEach es X.env).findIdx? (·.1) = none) : PG X (.Tuple es k pos) (gTup X.K n t) := by
  refine ⟨fun pins s σ H v u Q iv r hw => ?_⟩
  obtain ⟨a, xs, rfl, hq, hl, hw⟩ := hw
  cases r
  obtain ⟨its, rv, ht, hz⟩ := iv.tuple hq
  obtain ⟨x1, hot⟩ := hh pins σ H s iv
  rw [assign_Tuple]
  refine wpAny_bind (wpAny_standAt (unpack_tuple_hot hot ht (by simp [hn, ← hl, rv.length]) hst fun g kp => ?_))
  exact h.run pins _ σ H xs _ Q (iv.kept (t' := s.toks) fun b o e => kp b o (Nat.ne_of_lt (Heap.lt_size e)) e) (by simpa using rv) hw
theorem pi_zip_hot {e e2 : Expr} {ta : TA} {p pos tpos : Pos} {elts : List Expr} {kk : Nat} (hg : Gl X "zip") (hm : X.mg "zip" = none) (ha : PA X [e, e2] ta) (hs : starEach [e, e2] X.env = (false, eval e X.env) :: starEach [e2] X.env) (hpl : (backTo pos (starEach [e2] X.env)).any (·.1) = false) :
    PIX Hot X (.Tuple elts kk tpos) (.Call (.Name "zip" p) [e, e2] [] pos) (iZip X.K ta) := by
  refine ⟨fun pins s σ H R iv h => ?_⟩
  refine Call_ (ld_blt iv hg hm PyProof.Rows.boot_zip (PyProof.Rows.callWith_type1 (thn (ha.run pos pins s σ H _ iv h) fun us s1 ⟨vs, H1, iv1, r1, q1⟩ => ?_) hs hpl))
  obtain ⟨a, b, xs, ys, rfl, lx, ly, q⟩ := q1
  obtain ⟨u1, u2, rfl, ra, rb⟩ := vals2 r1
  cases (show u1 = Value.ref a from ra)
  cases (show u2 = Value.ref b from rb)
  obtain ⟨its, rv, p1, _⟩ := iv1.list lx
  obtain ⟨its2, rv2, p2, _⟩ := iv1.list ly
  refine call_zip_2 p1.isList p2.isList fun g hz hTI hTO h1 h2 hsz hk => wpAny_pyIter_zip hz ?_
  refine ⟨s1.heap.objs.size + 4, [s1.heap.objs.size + 4, s1.heap.objs.size + 2, s1.heap.objs.size + 3, s1.heap.objs.size, s1.heap.objs.size + 1], _, _, H1, rfl, iv1.kept (t' := s1.toks) hk, turn_zip_hot (PySem.W.ktu_apart s1.heap.objs.size a b p1.lt p2.lt), ⟨hz, hTI, ⟨_, _, hTO⟩, h1, h2⟩, fun c hc => ?_, q⟩
  have le : s1.heap.objs.size ≤ c := by
    simp only [List.mem_cons, List.not_mem_nil, or_false] at hc
    rcases hc with z | z | z | z | z <;> rw [z] <;> first | exact Nat.le_add_right _ _ | exact Nat.le_refl _
  exact iv1.fpOk le (iv1.hok.fresh le)
end
section
variable {I : Info} {xh : XH} {W : WX} {X : Cx}
theorem weakIX {Fit : Cx → Heap → Prop} {tg e : Expr} {t t' : TI} (h : PIX Fit X tg e t) (w : ∀ σ H R, t' σ H R → t σ H R) : PIX Fit X tg e t' := ⟨fun pins s σ H R i q => h.run pins s σ H R i (w σ H R q)⟩
theorem zl_read (hK : X.K = I.K) {f g : Env → Store → Res D} {σ : L2.St} {H : Hp} {R : L2.It → Hp → Prop} (hw : TIt I xh W (fun ρ st => bnd (f ρ st) fun x st1 => bnd (g ρ st1) fun y st2 => zipL x y st2) σ H R) : iZip X.K (tCons (TD I xh W f) (tCons (TD I xh W g) tNil)) σ H R := by
  refine TR.bind hw fun v H1 d m1 ρ st1 s1 e1 r1 p1 => ?_
  refine ⟨m1, ρ, st1, s1, e1, p1.bind.imp fun w H2 ⟨d2, m2, st2, M⟩ => ?_⟩
  have p2 := M.post
  have r1 := r1.mono M.gr s1.mok
  have r2 := M.rep
  rw [hK]
  cases r1 with
  | @loc n a h1 => cases r2 with
    | @loc k b h2 =>
      simp only [zipL] at p2
      cases e3 : listAt st2 n with
      | none => rw [e3] at p2; exact p2.elim
      | some xs =>
        cases e4 : listAt st2 k with
        | none => rw [e3, e4] at p2; exact p2.elim
        | some ys =>
          rw [e3, e4] at p2
          obtain ⟨vs, h3, h4⟩ := M.st.ob n a xs h1 (listAt_some e3)
          obtain ⟨ws, h5, h6⟩ := M.st.ob k b ys h2 (listAt_some e4)
          exact ⟨a, b, vs, ws, rfl, SqL.of h3, SqL.of h5, p2.here M.st (.zLL h1 h2)⟩
    | _ => exact p2.elim
  | _ => first | exact p2.elim | (cases r2 <;> exact p2.elim)
theorem i_zl_hot (hK : X.K = I.K) {e e2 : Expr} {p pos tpos : Pos} {elts : List Expr} {kk : Nat} {f g : Env → Store → Res D} (hg : Gl X "zip") (hm : X.mg "zip" = none) (h : PE X e (TD I xh W f)) (h2 : PE X e2 (TD I xh W g)) (hn : noStar e = true) (hn2 : noStar e2 = true) :
    PIX Hot X (.Tuple elts kk tpos) (.Call (.Name "zip" p) [e, e2] [] pos) (TIt I xh W fun ρ st => bnd (f ρ st) fun x st1 => bnd (g ρ st1) fun y st2 => zipL x y st2) := by
  have s2 : starEach [e2] X.env = [(false, eval e2 X.env)] := star_eq (noStar_ne hn2)
  exact weakIX (pi_zip_hot hg hm (pa_cons h (pa_cons h2 pa_nil s2) (star_eq (noStar_ne hn))) (star_eq (noStar_ne hn)) (by rw [s2]; rfl)) fun σ H R hw => zl_read hK hw
end
end PF

set_option Elab.async false
set_option linter.all false
set_option maxRecDepth 100000
set_option maxHeartbeats 2000000
/-! While an error is handled: isinstance of it, a def that is given it. -/
namespace PF
open PySem PySem.Spec PyProof.Rows L2 HotX
/-- the context bears the error in hand -/
def HotS (X : Cx) (xh : XH) : Prop := ∃ a cls d oe, xh = some (a, cls, d) ∧ (a, oe) ∈ X.pn ∧ L2N.Zn cls d oe ∧ (∃ vs, oe.data = .fields vs) ∧ X.A.handled = some (.ref a)
theorem HotS.hotC {X : Cx} {xh : XH} (h : HotS X xh) : L2H.HotC X := by
  obtain ⟨a, cls, d, oe, _, hp, hz, ⟨vs, hv⟩, hh⟩ := h
  exact ⟨(a, oe), ⟨hh, vs, hv, hz.2.2 vs hv⟩, hp⟩
section
variable {I : Info} {xh : XH} {W : WX} {X : Cx}
/-- isinstance(e, c), e the error in hand -/
def rIsX (K : PySem.W.Frag) (D a : Addr) : List V → Hp → VK → Prop := fun xs H Q => ∃ (c : V) (cv : Value) (b : Bool), xs = [.ref a, c] ∧ (∀ u, RelV c u → u = cv) ∧ PySem.W.kitOne K (.ref D) cv = some b ∧ Q (.bl b) H
theorem call_isX {a D : Addr} {oe : Obj} (C : ExcC X.K D) (hp : (a, oe) ∈ X.pn) (hz : Zc (.ref D) none oe) (hf : ∃ vs, oe.data = .fields vs) : CallR X (.builtin "isinstance") (rIsX X.K D a) := by
  intro pins s σ H xs us Q iv r h
  obtain ⟨c, cv, b, rfl, hcv, e, q⟩ := h
  obtain ⟨u1, u2, rfl, r1, r2⟩ := vals2 r
  cases (show u1 = Value.ref a from r1)
  have ec := hcv _ r2
  subst ec
  have hget := (iv.pin (a, oe) (List.mem_append_left _ hp)).1
  obtain ⟨vs, hv⟩ := hf
  obtain ⟨oc, od, oda, osl⟩ := oe
  obtain ⟨h1, h2⟩ := hz
  dsimp only at h1 h2 hv
  subst h1 h2 hv
  have J : PySem.W.InstAt s.heap a ⟨.ref D, none, .fields vs, osl⟩ D none := ⟨hget, rfl, rfl, trivial⟩
  exact PySem.W.kia_one (PySem.W.handS_kitx_exc C.hg C.hk C.hs C.hd C.ha C.hn C.ht C.hm) iv.kIn J e (fun z => nomatch z) fun tk => ⟨.bl b, H, iv.kept (t' := tk) fun _ _ z => z, rfl, q⟩
/-- what is known of the classes that are asked for -/
structure IsiOk (I : Info) (t : Ty) (cv : Value) : Prop where
  ec : ∀ k D, I.ca k = some D → I.fld k = none → ExcC I.K D
  kit : ∀ k D b, I.ca k = some D → isiX k t = some b → PySem.W.kitOne I.K (.ref D) cv = some b
  fl : ∀ k, I.fld k = none ∨ ∃ f, I.fld k = some f
theorem e_isiX {t : Ty} {T : Str} {cv : Value} {v : V} {p p2 pos : Pos} {e : Expr} {f : Env → Store → Res PF.A} (hK : X.K = I.K) (hx : HotS X xh) (ok : IsiOk I t cv) (hb : bTy t = false) (hg : Gl X "isinstance") (hm : X.mg "isinstance" = none) (hv : ∀ u, RelV v u → u = cv) (hT : PE X (.Name T p2) (tC v))
    (he : PE X e (TAx I xh W f)) (hst : noStar e = true) : PE X (.Call (.Name "isinstance" p) [e, .Name T p2] [] pos) (TD I xh W (isiE f t)) := by
  refine ⟨fun pins s σ H Q iv hw => ?_⟩
  obtain ⟨a, cls, d, oe, rfl, hp, hz, hf, hh⟩ := hx
  refine wpAny_Call_Name_kw (ld_blt (u := .builtin "isinstance") iv hg hm (by decide +kernel) ?_ (by decide) (by decide))
  have pa : PA X [e, .Name T p2] (tCons (TAx I (some (a, cls, d)) W f) (tCons (tC v) tNil)) := pa_cons he (pa_cons hT pa_nil) (star_eq (noStar_ne hst))
  refine PyProof.Rows.callWith_builtin1 (thn (pa.run pos pins s σ H (fun vs H1 => ∃ w, vs = [w, v] ∧ ∃ x m1 st1, RepSt I m1 H1 st1 ∧ RepA I m1 (some (a, cls, d)) H1 x w ∧ PostR I (rD I) m1 H1 (oth ((isiA x t).map .bl) st1) Q fun c d H' => W c d σ H') iv ?_) fun us s1 ⟨vs, H1, iv1, r1, w, ev, x, m1, st1, hs, rx, hp1⟩ => ?_) (star_eq (noStar_ne hst)) rfl
  · exact TR.bind (R1 := fun m H x v => RepA I m (some (a, cls, d)) H x v) hw fun w H1 x m1 ρ st1 s1 e1 r1 p1 => ⟨w, rfl, x, m1, st1, s1, r1, p1⟩
  · subst ev
    obtain ⟨b, hzb, hq⟩ := PostR.othm hp1
    cases rx with
    | d r => cases t <;> first | (cases hb; done) | (cases hzb; done)
    | clo => cases hzb
    | @exn _ a' cls' d' c fs h1 h2 =>
      cases h1
      cases fs with
      | cons _ _ => cases hzb
      | nil =>
        obtain ⟨D, hD, hc, hfl⟩ := h2
        have hd : d = none ∧ I.fld c = none := by
          cases q : I.fld c with
          | none => dsimp only at hfl; rw [q] at hfl; exact ⟨hfl, rfl⟩
          | some g =>
            dsimp only at hfl
            rw [q] at hfl
            obtain ⟨_, _, _, _, z, _⟩ := hfl
            cases z
        obtain ⟨hd1, hd2⟩ := hd
        subst hc hd1
        exact call_isX (by rw [hK]; exact ok.ec c D hD hd2) hp hz.zc hf pins s1 σ H1 _ us Q iv1 r1 ⟨v, cv, b, rfl, hv, by rw [hK]; exact ok.kit c D b hD hzb, hq.here hs (.bl b)⟩
/-- the def that is given an error in hand -/
def NamesOk (I : Info) (Pr : Prog) (Wf : Nat) (P : Program) (w : World) (mg : Str → Option Value) (base : Heap) (n i : Nat) : Prop :=
  ∀ f, I.na = some f → ∃ fd ps, PySem.W.keepIn I.K (.ref f) = true ∧ Binds I.K fd ps [] ∧ ps.length = 1 ∧ ∀ (A : Around) (outer : List PySem.Env) (s : Shared) (H : Hp) (args : Args) (Q : VK) (E : XK) (p : Addr × Obj) (cls : Value) (dd : Option Addr) (c : Nat) (fs : List D) (m : AH) (st : Store),
    L2H.RoomH n A → L2H.Hot1 A p → L2H.PinOk outer H s p → L2N.Zn cls dd p.2 → (∃ vs, p.2.data = .fields vs) → Env0 P w I.K mg base A outer s H → BindsTo s fd args (ps.zip [.ref p.1]) → RepSt I m H st → RepX I m H ⟨c, fs⟩ cls dd → PostR I (rD I) m H (callN Pr Wf n (.d (.fn i)) [.exn c fs] st) Q E →
    codeAny (model P w) A (.call (.ref f) args) (CR (L2N.CX P w) outer P w H s Q E) s
theorem e_hcall {Pr : Prog} {Wf n : Nat} {i j : Nat} {f : Addr} {x y : Str} {p q pos : Pos} (hK : X.K = I.K) (hx : HotS X xh) (tk : L2N.Takes X W) (hr : L2H.RoomH n X.A) (nm : NamesOk I Pr Wf X.prog X.w X.mg X.base n i) (hf : I.na = some f) (hg : Gl X x) (hm : X.mg x = some (.ref f)) (hdb : (x == ("__debug__" : Str)) = false) (hv : PE X (.Name y q) (tVar j)) :
    PE X (.Call (.Name x p) [.Name y q] [] pos) (TD I xh W fun ρ st => bnd (slotA j ρ st) fun x st1 => bnd (oth (exnOf x) st1) fun p st2 => callN Pr Wf n (.d (.fn i)) [.exn p.1 p.2] st2) := by
  refine ⟨fun pins s σ H Q iv ⟨m, ρ, st, hs, he, hp⟩ => ?_⟩
  obtain ⟨a, cls, d, oe, rfl, hpn, hz, hfd, hh⟩ := hx
  obtain ⟨fd, ps, kp, hb, hl, run⟩ := nm f hf
  dsimp only at hp
  unfold slotA at hp
  cases e : ρ[j]? with
  | none => rw [e] at hp; exact hp.elim
  | some o =>
    cases o with
    | none => rw [e] at hp; exact hp.elim
    | some z =>
      obtain ⟨v, h1, h2⟩ := he.at_ j _ e
      rw [e] at hp
      cases h2 with
      | d _ => exact hp.elim
      | clo => exact hp.elim
      | @exn _ a' cls' d' c fs e1 rx =>
        cases e1
        have hp2 : PostR I (rD I) m H (callN Pr Wf n (.d (.fn i)) [.exn c fs] st) Q fun c d H' => W c d σ H' := hp
        refine wpAny_Call_Name_kw (ld_glob iv hg hm ?_ hdb)
        have pa : PA X [.Name y q] (tCons (tVar j) tNil) := pa_cons hv pa_nil
        refine PySem.W.callWith_K (h₀ := X.base) iv.ok.mod.kin (by rw [hK]; exact kp) (thn (pa.run pos pins s σ H (fun vs H1 => vs = [V.ref a] ∧ H1 = H) iv ⟨.ref a, h1, rfl, rfl⟩) fun us s1 ⟨vs, H1, iv1, r1, ev, eh⟩ => ⟨iv1.kIn, ?_⟩)
        subst ev
        subst eh
        cases r1 with
        | cons r rr =>
          cases rr
          cases r
          have P1 := iv1.pin (a, oe) (List.mem_append_left _ hpn)
          have b := hb s1 [.ref a] (by rw [← hK]; exact iv1.kIn) (by rw [List.append_nil]; exact hl.symm)
          rw [List.append_nil] at b
          have e0 := iv1.env0
          rw [hK] at e0
          obtain ⟨vs, hvs⟩ := hfd
          refine wpAny_call (codeAny_mono (run X.A X.stack s1 _ ⟨[.ref a], []⟩ Q (fun c d H' => W c d σ H') (a, oe) cls d c fs m st hr ⟨hh, vs, hvs, hz.2.2 vs hvs⟩ ⟨P1.1, P1.2.1, fun hm => (List.mem_cons.mp (iv1.stkSub a hm)).elim P1.2.2.1 P1.2.2.2.1, P1.2.2.2.2⟩ hz ⟨vs, hvs⟩ e0 b hs rx hp2) fun r s' hq => ?_)
          cases r with
          | error e => exact tk e s' (L2N.XE.of_call iv1 (fun _ _ _ z => z) hq)
          | ok fl =>
            cases fl with
            | ret u => exact iv1.after hq
            | next => exact False.elim hq
            | brk => exact False.elim hq
            | cont => exact False.elim hq
end
end PF

set_option Elab.async false
set_option linter.all false
set_option maxRecDepth 100000
set_option maxHeartbeats 2000000
/-! sorted, of lists whose items can be compared. -/
namespace PF
open PySem PySem.Spec PyProof.Rows L2
open PySem.W (alike alikeAll dataLt keyToks dataLe dataLe_eq AllAlike Sortable EachIs TotalLe sameRank sort_one sort_pairwise sort_stable sorted_data)
section
variable {α : Type} {le : α → α → Bool}
theorem insB_mem {x y : α} : ∀ {l : List α}, y ∈ insB le x l → y = x ∨ y ∈ l
  | [], h => by simp [insB] at h; exact .inl h
  | z :: r, h => by
    simp only [insB] at h
    split at h
    · rcases List.mem_cons.mp h with e | e
      · exact .inl e
      · exact .inr e
    · rcases List.mem_cons.mp h with e | e
      · exact .inr (by rw [e]; exact List.mem_cons_self)
      · rcases insB_mem e with z | z
        · exact .inl z
        · exact .inr (List.mem_cons_of_mem _ z)
theorem insB_sorted (T : TotalLe le) {x : α} : ∀ {l : List α}, l.Pairwise (fun a b => le a b = true) → (insB le x l).Pairwise (fun a b => le a b = true)
  | [], _ => by simp [insB]
  | y :: r, h => by
    have h1 := List.pairwise_cons.mp h
    simp only [insB]
    split
    · rename_i z
      refine List.pairwise_cons.mpr ⟨fun w hw => ?_, h⟩
      rcases List.mem_cons.mp hw with e | e
      · rw [e]; exact z
      · exact T.trans _ _ _ z (h1.1 w e)
    · rename_i z
      refine List.pairwise_cons.mpr ⟨fun w hw => ?_, insB_sorted T h1.2⟩
      rcases insB_mem hw with e | e
      · rw [e]
        exact (T.total x y).resolve_left z
      · exact h1.1 w e
theorem sortB_sorted (T : TotalLe le) : ∀ l : List α, (sortB le l).Pairwise (fun a b => le a b = true)
  | [] => List.Pairwise.nil
  | x :: r => insB_sorted T (sortB_sorted T r)
theorem insB_rank (T : TotalLe le) {c x : α} : ∀ {l : List α}, (insB le x l).filter (sameRank le c) = (x :: l).filter (sameRank le c)
  | [] => rfl
  | y :: r => by
    simp only [insB]
    split
    · rfl
    · rename_i z
      rw [List.filter_cons, insB_rank T (l := r), List.filter_cons, List.filter_cons, List.filter_cons]
      have z : le x y = false := by simpa using z
      by_cases h1 : sameRank le c x = true
      · by_cases h2 : sameRank le c y = true
        · simp only [sameRank, Bool.and_eq_true] at h1 h2
          rw [T.trans _ _ _ h1.2 h2.1] at z
          cases z
        · simp [h1, h2]
      · simp [h1]
theorem sortB_rank (T : TotalLe le) {c : α} : ∀ l : List α, (sortB le l).filter (sameRank le c) = l.filter (sameRank le c)
  | [] => rfl
  | x :: r => by
    simp only [sortB]
    rw [insB_rank T, List.filter_cons, List.filter_cons, sortB_rank T r]
theorem sortB_merge (T : TotalLe le) (l : List α) : l.mergeSort le = sortB le l :=
  sort_one T _ _ (sort_pairwise T l) (sortB_sorted T l) fun c => (sort_stable T l c).trans (sortB_rank T l).symm
theorem sortB_len : ∀ l : List α, (sortB le l).length = l.length
  | [] => rfl
  | x :: r => by
    have h : ∀ (l : List α), (insB le x l).length = l.length + 1 := by
      intro l
      induction l with
      | nil => rfl
      | cons y r ih => simp only [insB]; split <;> simp [ih]
    simp only [sortB]
    rw [h, sortB_len r]
    rfl
end
theorem dataLe_total {α : Type} (k : α → PyData) : TotalLe (dataLe false k) := PySem.W.sortLe_total _ _ _
/-- the pairs of what the items read as, and the items -/
abbrev sortP (bs : List (PyData × V)) : List (PyData × V) := sortB (dataLe false fun p => p.1) bs
def rSortD (K : PySem.W.Frag) : List V → Hp → VK → Prop := fun vs H Q => ∃ (a : Addr) (bs : List (PyData × V)), vs = [V.ref a] ∧ SqL K H a (bs.map (·.2)) ∧ (∀ p ∈ bs, Dp K H p.2 p.1) ∧ AllAlike (bs.map (·.1)) ∧ Sortable (bs.map (·.1)) ∧ (∀ p ∈ bs, p.1.depth ≤ 62) ∧
  ∀ p, H p = none → Q (.ref p) (upd H p (.lst ((sortP bs).map (·.2))))
section
variable {X : Cx}
theorem vals_each : ∀ {bs : List (PyData × V)} {us : List Value}, Vals (bs.map (·.2)) us → EachIs (fun u (p : PyData × V) => RelV p.2 u) us bs
  | [], [], _ => .nil
  | [], _ :: _, h => by cases h
  | _ :: _, [], h => by cases h
  | b :: bs, u :: us, .cons h r => .cons h (vals_each r)
theorem each_vals : ∀ {bs : List (PyData × V)} {us : List Value}, EachIs (fun u (p : PyData × V) => RelV p.2 u) us bs → Vals (bs.map (·.2)) us
  | _, _, .nil => .nil
  | _, _, .cons h r => .cons h (each_vals r)
theorem each_reads {pins : List (Addr × Obj)} {σ : L2.St} {H : Hp} {s : Shared} (iv : L2.Inv X pins σ H s) : ∀ {bs : List (PyData × V)} {us : List Value}, (∀ p ∈ bs, Dp X.K H p.2 p.1) → EachIs (fun u (p : PyData × V) => RelV p.2 u) us bs → EachIs (fun u (p : PyData × V) => ∃ as, Reads s.heap u p.1 as) us bs
  | _, _, _, .nil => .nil
  | _, _, hd, .cons h r => .cons (Dp.reads iv _ _ _ (hd _ List.mem_cons_self) h) (each_reads iv (fun p hp => hd p (List.mem_cons_of_mem _ hp)) r)
theorem cr_sortD (hu : X.A.units + 65 < cLine) : CallR X (.builtin "sorted") (rSortD X.K) := by
  intro pins s σ H vs us Q iv r h
  obtain ⟨a, bs, rfl, hs, hd, hal, hk, hdep, q⟩ := h
  obtain ⟨its, rv, hl, hz⟩ := iv.list hs
  obtain ⟨u, rfl, ru⟩ := vals1 r
  obtain rfl : u = Value.ref a := ru
  have e := vals_each rv
  rw [List.length_map] at hz
  refine sorted_data (enc := fun p : PyData × V => p.1) hl.isList e (each_reads iv hd e) hal hk hz (fun b hb => by have := hdep b hb; omega) fun out hlen he => ?_
  rw [sortB_merge (dataLe_total _)] at he
  obtain ⟨ep, he'⟩ := PyProof.Rows.sortedAll_at s.heap its out.toArray
  have hlen2 : ((sortP bs).map (·.2)).length ≤ sizeLine := by rw [List.length_map, sortB_len]; exact hz
  exact ⟨.ref _, upd H (s.heap.objs.size + 1) (.lst ((sortP bs).map (·.2))), iv.laid (t' := s.toks) (fun _ _ => PyProof.Rows.sortedAll_old) (Nat.le_succ _) ⟨hlen2, out, ep, each_vals he, he'⟩, rfl, q _ (iv.hok.fresh (Nat.le_succ _))⟩
end
section
variable {I : Info} {X : Cx}
theorem pairs_of {m : AH} {H : Hp} : ∀ {ds : List D} {vs : List V}, RepDs I m H ds vs → (∀ d ∈ ds, dataW pN d = true) → ∃ bs : List (D × V), bs.map (·.1) = ds ∧ bs.map (·.2) = vs ∧ ∀ p ∈ bs, RepD I m H p.1 p.2
  | _, _, .nil, _ => ⟨[], rfl, rfl, fun p hp => by cases hp⟩
  | _, _, .cons (d := d) (v := v) h r, hd => by
    obtain ⟨bs, e1, e2, e3⟩ := pairs_of r fun d hd' => hd d (List.mem_cons_of_mem _ hd')
    exact ⟨(d, v) :: bs, by simp [e1], by simp [e2], fun p hp => (List.mem_cons.mp hp).elim (fun z => by rw [z]; exact h) (e3 p)⟩
/-- insertion goes along with a map that keeps the order -/
theorem insB_map {α β : Type} {le : α → α → Bool} {le' : β → β → Bool} (f : α → β) {x : α} : ∀ {l : List α}, (∀ y ∈ l, le' (f x) (f y) = le x y) → (insB le x l).map f = insB le' (f x) (l.map f)
  | [], _ => rfl
  | y :: r, h => by
    simp only [insB, List.map_cons]
    rw [h y List.mem_cons_self]
    split
    · rfl
    · rw [List.map_cons, insB_map f fun z hz => h z (List.mem_cons_of_mem _ hz)]
theorem sortB_mem {α : Type} {le : α → α → Bool} {x : α} : ∀ {l : List α}, x ∈ sortB le l → x ∈ l
  | [], h => h
  | y :: r, h => by
    rcases insB_mem h with e | e
    · rw [e]; exact List.mem_cons_self
    · exact List.mem_cons_of_mem _ (sortB_mem e)
theorem sortB_map {α β : Type} {le : α → α → Bool} {le' : β → β → Bool} (f : α → β) : ∀ {l : List α}, (∀ x ∈ l, ∀ y ∈ l, le' (f x) (f y) = le x y) → (sortB le l).map f = sortB le' (l.map f)
  | [], _ => rfl
  | x :: r, h => by
    simp only [sortB, List.map_cons]
    rw [insB_map f fun y hy => h x List.mem_cons_self y (List.mem_cons_of_mem _ (sortB_mem hy)), sortB_map f fun a ha b hb => h a (List.mem_cons_of_mem _ ha) b (List.mem_cons_of_mem _ hb)]
theorem rep_pairs {m : AH} {H : Hp} : ∀ {bs : List (D × V)}, (∀ p ∈ bs, RepD I m H p.1 p.2) → RepDs I m H (bs.map (·.1)) (bs.map (·.2))
  | [], _ => .nil
  | b :: bs, h => .cons (h b List.mem_cons_self) (rep_pairs fun p hp => h p (List.mem_cons_of_mem _ hp))
theorem cl_sorted (hK : X.K = I.K) (hu : X.A.units + 65 < cLine) : CalS I X (.builtin "sorted") fun st => primD st .sorted := by
  refine ⟨_, cr_sortD hu, fun {m H st ds vs Q E} hs r hp => ?_⟩
  obtain ⟨d, v, rfl, r1, p⟩ := p1_of r hp
  have p : PostR I (rD I) m H (sortD st d) Q E := p
  cases r1 with
  | @loc n a h1 =>
    simp only [sortD] at p
    cases e : listAt st n with
    | none => rw [e] at p; exact p.elim
    | some es =>
      rw [e] at p
      dsimp only at p
      split at p
      · rename_i ok
        obtain ⟨ws, h2, h3⟩ := hs.ob n a es h1 (listAt_some e)
        simp only [sortOk, Bool.and_eq_true, Bool.or_eq_true, List.all_eq_true, decide_eq_true_eq] at ok
        obtain ⟨ok1, ok2⟩ := ok
        obtain ⟨bs, e1, e2, e3⟩ := pairs_of h3 fun d hd => (ok1 d hd).1.1
        subst e1 e2
        have mm : ∀ q ∈ bs, q.1 ∈ bs.map (·.1) := fun q hq => List.mem_map.mpr ⟨q, hq, rfl⟩
        have le_eq : ∀ x ∈ bs, ∀ y ∈ bs, dataLe false (fun p : PyData × V => p.1) (pyW qN x.1, x.2) (pyW qN y.1, y.2) = leW x.1 y.1 := fun x hx y hy => by
          rw [dataLe_eq]
          have a := (ok1 y.1 (mm y hy))
          have b := (ok1 x.1 (mm x hx))
          show (!dataLt (pyW qN y.1) (pyW qN x.1)) = !ltW y.1 x.1
          rw [lt_W y.1 x.1 (a.2 x.1 (mm x hx)) a.1.1 b.1.1]
        have s1 : (sortB (fun x y : D × V => leW x.1 y.1) bs).map (fun q => (pyW qN q.1, q.2)) = sortP (bs.map fun q => (pyW qN q.1, q.2)) := sortB_map (fun q : D × V => (pyW qN q.1, q.2)) le_eq
        have s2 : (sortB (fun x y : D × V => leW x.1 y.1) bs).map (·.1) = sortB leW (bs.map (·.1)) := sortB_map (fun q : D × V => q.1) fun x _ y _ => rfl
        have rs : RepDs I m H (sortB leW (bs.map (·.1))) ((sortP (bs.map fun q => (pyW qN q.1, q.2))).map (·.2)) := by
          rw [← s1, ← s2, List.map_map]
          exact rep_pairs (bs := sortB (fun x y : D × V => leW x.1 y.1) bs) fun q hq => e3 q (sortB_mem hq)
        rw [hK]
        refine ⟨a, bs.map fun q => (pyW qN q.1, q.2), rfl, ?_, fun q hq => ?_, fun d hd d' hd' => ?_, ?_, fun q hq => ?_, post_alloc p hs rs⟩
        · rw [List.map_map]
          exact SqL.of h2
        · obtain ⟨z, hz, rfl⟩ := List.mem_map.mp hq
          exact dp_W (p := pN) (q := qN) (fun n a h => by cases h) (ok1 z.1 (mm z hz)).1.1 (e3 z hz)
        · rw [List.map_map] at hd hd'
          obtain ⟨z, hz, rfl⟩ := List.mem_map.mp hd
          obtain ⟨z', hz', rfl⟩ := List.mem_map.mp hd'
          exact alike_W _ _ ((ok1 z.1 (mm z hz)).2 z'.1 (mm z' hz')) (ok1 z.1 (mm z hz)).1.1 (ok1 z'.1 (mm z' hz')).1.1
        · rw [List.map_map]
          refine ok2.imp (fun h d hd => ?_) fun h d hd => ?_
          · obtain ⟨z, hz, rfl⟩ := List.mem_map.mp hd
            have := h z.1 (mm z hz)
            obtain ⟨zd, zv⟩ := z
            show ∃ x r, pyW qN zd = .tuple (x :: r)
            cases zd <;> first | (cases this; done) | skip
            rename_i xs
            cases xs with
            | nil => cases this
            | cons x r => exact ⟨pyW qN x, pysW qN r, by simp only [pyW, pysW]⟩
          · obtain ⟨z, hz, rfl⟩ := List.mem_map.mp hd
            have a := h z.1 (mm z hz)
            have b := (ok1 z.1 (mm z hz)).1.1
            obtain ⟨zd, zv⟩ := z
            show pyW qN zd ≠ .none ∧ ∀ xs, pyW qN zd ≠ .tuple xs
            cases zd <;> first | (cases a; done) | (cases b; done) | (simp [pyW]; done)
        · obtain ⟨z, hz, rfl⟩ := List.mem_map.mp hq
          have a := dep_N _ (ok1 z.1 (mm z hz)).1.1
          have b := (ok1 z.1 (mm z hz)).1.2
          show (pyW qN z.1).depth ≤ 62
          omega
      · exact p.elim
  | _ => exact p.elim
end
end PF

set_option Elab.async false
set_option linter.all false
set_option maxRecDepth 100000
/-! A look at the row's own syntax: that the pure form is its form. -/
namespace PF
open PySem PySem.Spec PyProof.Rows L2

/-- what a name of the module stands for -/
inductive GV where
  | fn (i : Nat)
  | cst (d : Kst)
  | cls (c : Nat)
  | nf
  deriving DecidableEq
structure Mo where
  gl : List (Str × GV)
  no : List Str
  below : Nat → List Nat
  plain : List Nat
  names : Nat
/-- a block of the text -/
structure Sc where
  N : List Str
  sc : Scope
  fn : Str → Bool
  qual : Str
  hot : Bool
  lam : Bool
  blk : Bool

def lookB (sc : Sc) (x : Str) (k : NameKind) : Bool := decide (sc.sc.names.lookup x = some k)
def visB (sc : Sc) (x : Str) : Bool := lookB sc x .local || lookB sc x .cell || lookB sc x .free
def varB (sc : Sc) (i : Nat) (x : Str) : Bool := decide (sc.N[i]? = some x) && visB sc x && !(x == ("__debug__" : Str)) && !(x == ("__classdict__" : Str))
def bltB (mo : Mo) (sc : Sc) (x : Str) : Bool := lookB sc x .globalImplicit && decide (x ∈ mo.no) && !decide (x = ("__name__" : Str)) && !(x == ("__debug__" : Str))
def gvB (mo : Mo) (sc : Sc) (x : Str) (v : GV) : Bool := lookB sc x .globalImplicit && decide (mo.gl.lookup x = some v) && !(x == ("__debug__" : Str))
def kstB : Kst → Const → Bool
  | .non, .none => true
  | .bl b, .bool c => decide (b = c)
  | .int i, .int j => decide (i = j)
  | .str s, .str t => decide (t = ⟨s.toArray⟩)
  | _, _ => false
def opB : Bin → Operator → Bool
  | .add, .Add => true
  | .sub, .Sub => true
  | .mul, .Mult => true
  | .fdiv, .FloorDiv => true
  | .mod, .Mod => true
  | .pow, .Pow => true
  | _, _ => false
def cmpB : Cmp → CmpOp → Bool
  | .eq, .Eq => true
  | .ne, .NotEq => true
  | .lt, .Lt => true
  | .le, .LtE => true
  | .gt, .Gt => true
  | .ge, .GtE => true
  | .is, .Is => true
  | .isnot, .IsNot => true
  | .inn, .In => true
  | .notin, .NotIn => true
  | _, _ => false
def notSlice : Expr → Bool
  | .Slice _ _ _ _ => false
  | _ => true
def notSet : Expr → Bool
  | .Set _ _ _ => false
  | _ => true
def notComp : Expr → Bool
  | .ListComp _ _ _ _ => false
  | .SetComp _ _ _ _ => false
  | .DictComp _ _ _ _ _ => false
  | _ => true
def primS : Prim → Str
  | .len => "len"
  | .abs => "abs"
  | .int => "int"
  | .max2 => "max"
  | .min2 => "min"
  | .maxL => "max"
  | .minL => "min"
  | .sumL => "sum"
  | .tuple => "tuple"
  | .list => "list"
  | .all => "all"
  | .any => "any"
  | .sorted => "sorted"
/-- needs that nothing is handled -/
def primC : Prim → Bool
  | .len => false
  | .abs => false
  | .int => false
  | .tuple => false
  | .list => false
  | .sorted => true
  | _ => true
def tyS : Ty → Str
  | .int => "int"
  | .bool => "bool"
  | .str => "str"
  | .tuple => "tuple"
  | .list => "list"
  | .own _ _ => "?"
  | .vale => "ValueError"
/-- a block's own names -/
def ownP (N : List Str) (own : List Nat) : List (Str × Nat) := own.filterMap fun i => (N[i]?).map fun x => (x, i)
def blkB (N : List Str) (sc scope : Scope) (own : List (Str × Nat)) : Bool :=
  decide (scope.kind = .function) && scope.names.all (fun y => decide (scope.names.lookup y.1 = some y.2)) && own.all (fun p => decide (N[p.2]? = some p.1)) &&
    scope.names.all (fun y => !decide (y.2 = .free) || decide (sc.names.lookup y.1 = some .cell) || decide (sc.names.lookup y.1 = some .free)) &&
    scope.names.all (fun y => !(decide (y.2 = .local) || decide (y.2 = .cell)) || decide (y.1 ∈ own.map (·.1)) || decide (y.1 ∉ N))
def blkSc (sc : Sc) (scope : Scope) : Sc := { sc with sc := relS scope sc.sc, fn := fun x => decide (scope.names.lookup x = some .cell), blk := true }
def argsB (a : Arguments) : Bool := a.posonlyargs.isEmpty && a.vararg.isNone && a.kwonlyargs.isEmpty && a.kw_defaults.isEmpty && a.kwarg.isNone && a.defaults.isEmpty
def lamI (qual : Str) (a : Arguments) (body : Expr) (scope : Scope) : LamI :=
  ⟨qual, a, body, scope, a.args.map (·.arg) ++ (scope.names.filter fun y => decide (y.2 = .free)).map (·.1), a.args.map (·.arg), (scope.names.filter fun y => decide (y.2 = .free)).map (·.1)⟩
def lamSc (L : LamI) : Sc := ⟨L.N, L.scope, fun _ => false, "", false, false, false⟩
/-- what is captured: name by name -/
def capsB (sc : Sc) (scope : Scope) : List Nat → List Str → Bool
  | [], [] => true
  | i :: is, x :: xs => decide (sc.N[i]? = some x) && decide (scope.names.lookup x = some .free) && (lookB sc x .cell || lookB sc x .free) && capsB sc scope is xs
  | _, _ => false
/-- name = [..] on one line -/
def swapB (sc : Sc) : Expr → Expr → Bool
  | .Name y p, .ListComp _ _ s pos => lookB sc y .local && (p.line == pos.line) && !(s.names.any fun (n, k) => n == y && (k == .local || k == .cell))
  | _, _ => false
/-- names = [..] -/
def shapeB : Expr → Expr → Bool
  | .Name _ _, .ListComp _ _ _ _ => true
  | .Tuple _ _ _, .ListComp _ _ _ _ => true
  | _, _ => false
/-- the names of a target, all of them plain ones -/
def parN (sc : Sc) (ts : List Expr) : List Str := ts.filterMap fun
  | .Name id pos => if sc.sc.names.lookup id == some .local && pos.line == (ts.head?.map (·.pos.line)).getD 0 then some id else none
  | _ => none
def noStar' (vs : List Expr) : Bool := !(vs.any fun | .Starred .. => true | _ => false)
/-- a, b = x, y is stored from the right -/
def parB (sc : Sc) (ts vs : List Expr) : Bool := (ts.length == 2 || ts.length == 3) && vs.length == ts.length && noStar' vs && (parN sc ts).length == ts.length && (parN sc ts).eraseDups.length == (parN sc ts).length && !(vs.all (foldedForSure 8)) && !(vs.all (constantsAlone 8))
/-- it is not -/
def noParB (sc : Sc) : Expr → Expr → Bool
  | .Tuple ts _ _, .Tuple vs _ _ => !(ts.length == 2 || ts.length == 3) || vs.length != ts.length || (parN sc ts).length != ts.length
  | .List _ _, _ => false
  | _, _ => true
/-- inversions -/
def tnOf : C → Option Nat
  | .tn i => some i
  | _ => none
theorem tnOf_eq {t : C} {i : Nat} (h : tnOf t = some i) : t = .tn i := by cases t <;> first | (cases h; rfl) | cases h
def nmOf : Expr → Option Str
  | .Name y _ => some y
  | _ => none
theorem nmOf_eq {e : Expr} {y : Str} (h : nmOf e = some y) : ∃ p, e = .Name y p := by cases e <;> first | (cases h; exact ⟨_, rfl⟩) | cases h
def isNil : C → Bool
  | .nil => true
  | _ => false
theorem isNil_eq {t : C} (h : isNil t = true) : t = .nil := by cases t <;> first | rfl | cases h
def two : List Expr → Option (Str × Str)
  | [a, b] => (match nmOf a, nmOf b with
    | some x, some y => some (x, y)
    | _, _ => none)
  | _ => none
theorem two_eq {ts : List Expr} {x y : Str} (h : two ts = some (x, y)) : ∃ p q, ts = [.Name x p, .Name y q] := by
  match ts, h with
  | [a, b], h =>
    simp only [two] at h
    cases ea : nmOf a with
    | none => rw [ea] at h; cases h
    | some u =>
      cases eb : nmOf b with
      | none => rw [ea, eb] at h; cases h
      | some v =>
        rw [ea, eb] at h
        cases h
        obtain ⟨p, rfl⟩ := nmOf_eq ea
        obtain ⟨q, rfl⟩ := nmOf_eq eb
        exact ⟨p, q, rfl⟩
def three : List Expr → Option (Str × Str × Str)
  | [a, b, c] => (match nmOf a, nmOf b, nmOf c with
    | some x, some y, some z => some (x, y, z)
    | _, _, _ => none)
  | _ => none
theorem three_eq {ts : List Expr} {x y z : Str} (h : three ts = some (x, y, z)) : ∃ p q r, ts = [.Name x p, .Name y q, .Name z r] := by
  match ts, h with
  | [a, b, c], h =>
    simp only [three] at h
    cases ea : nmOf a with
    | none => rw [ea] at h; cases h
    | some u =>
      cases eb : nmOf b with
      | none => rw [ea, eb] at h; cases h
      | some v =>
        cases ec : nmOf c with
        | none => rw [ea, eb, ec] at h; cases h
        | some w =>
          rw [ea, eb, ec] at h
          cases h
          obtain ⟨p, rfl⟩ := nmOf_eq ea
          obtain ⟨q, rfl⟩ := nmOf_eq eb
          obtain ⟨r, rfl⟩ := nmOf_eq ec
          exact ⟨p, q, r, rfl⟩
/-- the class of an error that is made of a written text -/
def mkOf : Option Expr → Option Str
  | some (.Call f [a] [] _) => (match nmOf f, a with
    | some x, .Constant (.str _) _ _ => some x
    | _, _ => none)
  | _ => none
theorem mkOf_eq {o : Option Expr} {x : Str} (h : mkOf o = some x) : ∃ p m j p2 p3, o = some (.Call (.Name x p) [.Constant (.str m) j p2] [] p3) := by
  cases o with
  | none => cases h
  | some e =>
    cases e <;> first | (cases h; done) | skip
    rename_i f as ks pos
    match as, ks, h with
    | [a], [], h =>
      simp only [mkOf] at h
      cases ef : nmOf f with
      | none => rw [ef] at h; cases h
      | some y =>
        rw [ef] at h
        obtain ⟨p, rfl⟩ := nmOf_eq ef
        cases a <;> first | (cases h; done) | skip
        rename_i c j p2
        cases c <;> first | (cases h; done) | skip
        cases h
        exact ⟨p, _, j, p2, pos, rfl⟩
/-- one handler: its class, its name, its suite -/
def handOf : List ExceptHandler → Option (Str × Str × Stmt × List Stmt)
  | [.ExceptHandler (some e) (some y) (b :: r) _] => (nmOf e).map fun x => (x, y, b, r)
  | _ => none
theorem handOf_eq {l : List ExceptHandler} {x y : Str} {b : Stmt} {r : List Stmt} (h : handOf l = some (x, y, b, r)) : ∃ p q, l = [.ExceptHandler (some (.Name x p)) (some y) (b :: r) q] := by
  match l, h with
  | [.ExceptHandler (some e) (some y') (b' :: r') q], h =>
    simp only [handOf] at h
    cases en : nmOf e with
    | none => rw [en] at h; cases h
    | some x' =>
      rw [en] at h
      cases h
      obtain ⟨p, rfl⟩ := nmOf_eq en
      exact ⟨p, q, rfl⟩
structure Ck where
  e : Sc → Expr → Bool
  x : Sc → Expr → Bool
  y : Sc → Expr → Bool
  c : Sc → Str → Bool
  a : Sc → List Expr → Bool
  aa : Sc → List Expr → Bool
  t : Sc → Option Expr → Bool
  ts : Sc → List Expr → Bool
  g : Sc → List Nat → Expr → Bool
  gs : Sc → List Nat → List Expr → Bool
  i : Sc → Expr → Expr → Bool
  s : Sc → Stmt → Bool
  ss : Sc → List Stmt → Bool
def Ck.none : Ck := ⟨fun _ _ => false, fun _ _ => false, fun _ _ => false, fun _ _ => false, fun _ _ => false, fun _ _ => false, fun _ _ => false, fun _ _ => false, fun _ _ _ => false, fun _ _ _ => false, fun _ _ _ => false, fun _ _ => false, fun _ _ => false⟩
def exprCk (f : Sc → Expr → Bool) : Ck := { Ck.none with
  e := f
  x := f
  y := f
  t := fun sc o => (match o with
    | some e => f sc e
    | none => false)
  ts := fun sc l => (match l with
    | [c] => f sc c
    | _ => false) }
def stmtCk (f : Sc → Stmt → Bool) : Ck := { Ck.none with s := f }
def tgtCk (f : Sc → List Nat → Expr → Bool) : Ck := { Ck.none with g := f }
def itCk (f : Sc → Expr → Expr → Bool) : Ck := { Ck.none with i := f }

section
variable (mo : Mo)
def chk : C → Ck
  | .k d => { exprCk (fun _ e => match e with
      | .Constant c _ _ => kstB d c
      | _ => false) with
      ts := fun _ l => (match l with
        | [] => decide (d = .bl true)
        | [.Constant c _ _] => kstB d c
        | _ => false) }
  | .v i => { exprCk (fun sc e => match e with
      | .Name x _ => varB sc i x
      | _ => false) with c := fun sc x => varB sc i x }
  | .g d => exprCk fun sc e => match e with
      | .Name x _ => gvB mo sc x (.cst d)
      | _ => false
  | .gf i => { exprCk (fun sc e => match e with
      | .Name x _ => gvB mo sc x (.fn i)
      | _ => false) with c := fun sc x => gvB mo sc x (.fn i) }
  | .tup as => exprCk fun sc e => match e with
      | .Tuple es _ _ => (chk as).a sc es
      | _ => false
  | .lst as => exprCk fun sc e => match e with
      | .List es _ => (chk as).a sc es
      | _ => false
  | .bin o a b => exprCk fun sc e => match e with
      | .BinOp l op r _ => opB o op && (chk a).e sc l && (chk b).e sc r
      | _ => false
  | .neg a => exprCk fun sc e => match e with
      | .UnaryOp .USub x _ => (chk a).e sc x
      | _ => false
  | .not a => exprCk fun sc e => match e with
      | .UnaryOp .Not x _ => (chk a).e sc x
      | _ => false
  | .cmp o a b => exprCk fun sc e => match e with
      | .Compare l [op] [r] _ => cmpB o op && (chk a).e sc l && (chk b).e sc r && !behindInMarks op r
      | _ => false
  | .chain o p a b c => exprCk fun sc e => match e with
      | .Compare l [op, op'] [m, r] _ => cmpB o op && cmpB p op' && (chk a).e sc l && (chk b).e sc m && (chk c).e sc r && !lastMarks [op, op'] [m, r]
      | _ => false
  | .and a b => exprCk fun sc e => match e with
      | .BoolOp .And [x, y] _ => (chk a).e sc x && (chk b).e sc y
      | .BoolOp .And (x :: y :: z :: r) pos => (chk a).e sc x && (chk b).e sc (.BoolOp .And (y :: z :: r) pos)
      | _ => false
  | .or a b => exprCk fun sc e => match e with
      | .BoolOp .Or [x, y] _ => (chk a).e sc x && (chk b).e sc y
      | .BoolOp .Or (x :: y :: z :: r) pos => (chk a).e sc x && (chk b).e sc (.BoolOp .Or (y :: z :: r) pos)
      | _ => false
  | .ite c a b => exprCk fun sc e => match e with
      | .IfExp t x y _ => (chk c).e sc t && (chk a).e sc x && (chk b).e sc y
      | _ => false
  | .idx a i => exprCk fun sc e => match e with
      | .Subscript x y _ => notSlice y && (chk a).e sc x && (chk i).e sc y
      | _ => false
  | .sl a lo hi => exprCk fun sc e => match e with
      | .Subscript x (.Slice l h none _) _ => (chk a).e sc x && (chk lo).t sc l && (chk hi).t sc h
      | _ => false
  | .call f as => exprCk fun sc e => match e with
      | .Call (.Name x _) args [] _ => !sc.hot && args.all noStar && (chk f).c sc x && (chk as).aa sc args
      | _ => false
  | .prim p as => exprCk fun sc e => match e with
      | .Call (.Name x _) (e1 :: es) [] _ => decide (x = primS p) && bltB mo sc x && (!primC p || !sc.hot) && (e1 :: es).all noStar && (chk as).a sc (e1 :: es)
      | _ => false
  | .meth m o a => exprCk fun sc e => match e with
      | .Call (.Attribute x nm apos) [y] [] cpos => (apos.endLine == cpos.line) && (match m with
        | .append => decide (nm = ("append" : Str)) && notCall0 x && noStar y && (chk o).e sc x && (chk a).e sc y
        | .join => decide (nm = ("join" : Str)) && notCall0 x && noStar y && (chk o).e sc x && (chk a).e sc y
        | .split => decide (nm = ("split" : Str)) && (match o, a, x, y with
          | .k (.str s), .k (.str [c]), .Constant (.str t) _ _, .Constant (.str u) _ _ => decide (t = ⟨s.toArray⟩) && decide (u = ⟨#[c]⟩) && decide (Txt.split ⟨s.toArray⟩ ⟨#[c]⟩ = (splitS c s).map fun x => ⟨x.toArray⟩)
          | _, _, _, _ => false)
        | _ => false)
      | _ => false
  | .isi a t => exprCk fun sc e => match e with
      | .Call (.Name x _) [y, .Name T _] [] _ => decide (x = ("isinstance" : Str)) && bltB mo sc x && noStar y && (chk a).y sc y && (match t with
        | .own c below => sc.hot && !sc.blk && gvB mo sc T (.cls c) && decide (below = mo.below c)
        | .vale => sc.hot && !sc.blk && bltB mo sc T && decide (T = ("ValueError" : Str))
        | t => bltB mo sc T && decide (T = tyS t))
      | _ => false
  | .comp elt tg it cond own => exprCk fun sc e => match e with
      | .ListComp e0 [⟨tg0, iter, ifs, n⟩] scope _ => decide (n = 0) && (!sc.hot || !sc.blk) && decide ((ownP sc.N own).map (·.2) = own) && blkB sc.N sc.sc scope (ownP sc.N own) && notSet iter && (chk it).i sc tg0 iter && (chk tg).g (blkSc sc scope) own tg0 && (chk cond).ts (blkSc sc scope) ifs && (chk elt).e (blkSc sc scope) e0
      | _ => false
  | .lam ps n b caps => { Ck.none with
      e := fun sc e => (match e with
        | .Lambda a body scope _ => decide (caps = []) && !sc.hot && sc.lam && argsB a && decide (ps = a.args.length) && decide (n = (lamI (sc.qual ++ "<lambda>") a body scope).N.length) && NdefX.nscB (lamI (sc.qual ++ "<lambda>") a body scope).N (lamI (sc.qual ++ "<lambda>") a body scope).ps (lamI (sc.qual ++ "<lambda>") a body scope).fr scope && capsB sc scope caps (lamI (sc.qual ++ "<lambda>") a body scope).fr && (chk b).e (lamSc (lamI (sc.qual ++ "<lambda>") a body scope)) body
        | _ => false)
      x := fun sc e => (match e with
        | .Lambda a body scope _ => !sc.hot && sc.lam && argsB a && decide (ps = a.args.length) && decide (n = (lamI (sc.qual ++ "<lambda>") a body scope).N.length) && NdefX.nscB (lamI (sc.qual ++ "<lambda>") a body scope).N (lamI (sc.qual ++ "<lambda>") a body scope).ps (lamI (sc.qual ++ "<lambda>") a body scope).fr scope && capsB sc scope caps (lamI (sc.qual ++ "<lambda>") a body scope).fr && (chk b).e (lamSc (lamI (sc.qual ++ "<lambda>") a body scope)) body
        | _ => false) }
  | .attr _ _ => Ck.none
  | .hcall f j => exprCk fun sc e => match e with
      | .Call (.Name x _) [.Name y _] [] _ => sc.hot && !sc.blk && decide (f = mo.names) && gvB mo sc x .nf && varB sc j y
      | _ => false
  | .nil => { Ck.none with
      a := fun _ l => l.isEmpty
      aa := fun _ l => l.isEmpty
      gs := fun _ _ l => l.isEmpty
      ss := fun _ l => l.isEmpty }
  | .cons a as => { Ck.none with
      a := fun sc l => (match l with
        | e :: es => noStar e && (chk a).e sc e && (chk as).a sc es
        | [] => false)
      aa := fun sc l => (match l with
        | e :: es => noStar e && (chk a).x sc e && (chk as).aa sc es
        | [] => false)
      gs := fun sc own l => (match l with
        | e :: es => noStar e && (chk a).g sc own e && (chk as).gs sc own es
        | [] => false)
      ss := fun sc l => (match l with
        | e :: es => (chk a).s sc e && (chk as).ss sc es
        | [] => false) }
  | .no => { Ck.none with t := fun _ o => o.isNone }
  | .tn i => tgtCk fun sc own e => match e with
      | .Name x _ => decide (sc.N[i]? = some x) && decide (i ∈ own) && (lookB sc x .local || (lookB sc x .cell && sc.fn x))
      | _ => false
  | .tt ts => tgtCk fun sc own e => match e with
      | .Tuple es _ _ => (chk ts).gs sc own es
      | _ => false
  | .tsub o i => tgtCk fun sc _ e => match e with
      | .Subscript x y _ => notSlice y && (chk o).e sc x && (chk i).e sc y
      | _ => false
  | .iv a => itCk fun sc _ e => !sc.hot && (chk a).e sc e
  | .ir1 a => itCk fun sc _ e => match e with
      | .Call (.Name x _) [y] [] _ => !sc.hot && decide (x = ("range" : Str)) && bltB mo sc x && noStar y && (chk a).e sc y
      | _ => false
  | .ir2 a b => itCk fun sc _ e => match e with
      | .Call (.Name x _) [y, z] [] _ => !sc.hot && decide (x = ("range" : Str)) && bltB mo sc x && noStar y && noStar z && (chk a).e sc y && (chk b).e sc z
      | _ => false
  | .ien a => itCk fun sc tg e => match tg, e with
      | .Tuple _ _ _, .Call (.Name x _) [y] [] _ => !sc.hot && decide (x = ("enumerate" : Str)) && bltB mo sc x && noStar y && (chk a).e sc y
      | _, _ => false
  | .izip a b => itCk fun sc tg e => match tg, e with
      | .Tuple _ _ _, .Call (.Name x _) [y, z] [] _ => !sc.hot && decide (x = ("zip" : Str)) && bltB mo sc x && noStar y && noStar z && (chk a).e sc y && (chk b).e sc z
      | _, _ => false
  | .izl a b => itCk fun sc tg e => match tg, e with
      | .Tuple _ _ _, .Call (.Name x _) [y, z] [] _ => sc.hot && decide (x = ("zip" : Str)) && bltB mo sc x && noStar y && noStar z && (chk a).e sc y && (chk b).e sc z
      | _, _ => false
  | .asg t e => stmtCk fun sc st => match st with
      | .Assign [tg] ex _ => (match swapB sc tg ex with
        | true => (match tnOf t, nmOf tg with
          | some i, some y => decide (sc.N[i]? = some y) && lookB sc y .local && (chk e).e sc ex
          | _, _ => false)
        | false => noStar tg && (notComp ex || shapeB tg ex) && noParB sc tg ex && (chk e).e sc ex && (chk t).g sc (List.range sc.N.length) tg)
      | _ => false
  | .par is as => stmtCk fun sc st => match st with
      | .Assign [.Tuple ts _ _] (.Tuple vs _ _) _ => !sc.hot && parB sc ts vs && (chk as).a sc vs && (match two ts, is with
        | some (x, y), [i, j] => decide (sc.N[i]? = some x) && decide (sc.N[j]? = some y) && !decide (i = j) && lookB sc x .local && lookB sc y .local && decide (parN sc ts = [x, y])
        | _, _ => (match three ts, is with
          | some (x, y, z), [i, j, k] => decide (sc.N[i]? = some x) && decide (sc.N[j]? = some y) && decide (sc.N[k]? = some z) && !decide (i = j) && !decide (i = k) && !decide (j = k) && lookB sc x .local && lookB sc y .local && lookB sc z .local && decide (parN sc ts = [x, y, z])
          | _, _ => false))
      | _ => false
  | .ex e => stmtCk fun sc st => match st with
      | .Expr x _ => notComp x && (chk e).e sc x
      | _ => false
  | .ret e => stmtCk fun sc st => match st with
      | .Return (some x) _ => (chk e).e sc x
      | _ => false
  | .retN => stmtCk fun _ st => match st with
      | .Return none _ => true
      | _ => false
  | .pass => stmtCk fun _ st => match st with
      | .Pass _ => true
      | _ => false
  | .brk => stmtCk fun _ st => match st with
      | .Break _ => true
      | _ => false
  | .iff c a b => stmtCk fun sc st => match st with
      | .If t x y _ => (chk c).e sc t && (chk a).ss sc x && (chk b).ss sc y
      | _ => false
  | .forr t it b => stmtCk fun sc st => match st with
      | .For tg iter body [] _ => !sc.hot && notSet iter && (chk it).i sc tg iter && (chk t).g sc (List.range sc.N.length) tg && (chk b).ss sc body
      | _ => false
  | .whl c b => stmtCk fun sc st => match st with
      | .While t body [] _ => !sc.hot && (chk c).e sc t && (chk b).ss sc body
      | _ => false
  | .raise c as => stmtCk fun sc st => match st with
      | .Raise o none _ => !sc.hot && isNil as && (match mkOf o with
        | some x => gvB mo sc x (.cls c) && decide (c ∈ mo.plain)
        | none => false)
      | _ => false
  | .tryx b cs slot h => stmtCk fun sc st => match st with
      | .Try body hs [] [] _ => (match handOf hs, slot with
        | some (x, y, b0, suite), some i => !sc.hot && !sc.blk && decide (sc.N[i]? = some y) && lookB sc y .local && lookB sc x .globalImplicit && !(x == ("__debug__" : Str)) && (match mo.gl.lookup x with
          | some (.cls c) => decide (cs = mo.below c)
          | _ => false) && (chk b).ss sc body && (chk h).ss { sc with hot := true, lam := false } (b0 :: suite)
        | _, _ => false)
      | _ => false
/-- a lambda's words -/
def lamB (d : Def) (L : LamI) : Bool := argsB L.params && decide (L.ps = L.params.args.map (·.arg)) && decide (d.ps = L.ps.length) && decide (d.n = L.N.length) && decide (L.N = L.ps ++ L.fr) && NdefX.nscB L.N L.ps L.fr L.scope && (chk mo d.body).e (lamSc L) L.body
end
end PF

set_option Elab.async false
set_option linter.all false
set_option maxRecDepth 100000
set_option maxHeartbeats 1000000
/-! What has been looked at is sound. -/
namespace PF
open PySem PySem.Spec PyProof.Rows L2

structure MoOk (I : Info) (mo : Mo) (mg : Str → Option Value) : Prop where
  fn : ∀ x i, mo.gl.lookup x = some (.fn i) → ∃ f, mg x = some (.ref f) ∧ I.fa i = some f
  cst : ∀ x d, mo.gl.lookup x = some (.cst d) → ∃ u v, mg x = some u ∧ L2.RelV v u ∧ ∀ m H, RepD I m H d.d v
  cls : ∀ x c, mo.gl.lookup x = some (.cls c) → ∃ C, mg x = some (.ref C) ∧ I.ca c = some C ∧ ExmOk I (.ref C) (mo.below c) ∧ IsiOk I (.own c (mo.below c)) (.ref C)
  plain : ∀ c ∈ mo.plain, I.fld c = none ∧ ∀ C, I.ca c = some C → ExnOk I.K C
  no : ∀ x ∈ mo.no, mg x = none
  vale : IsiOk I .vale (.type "ValueError")
  nf : ∀ x, mo.gl.lookup x = some .nf → ∃ f, mg x = some (.ref f) ∧ I.na = some f
structure ScOk (I : Info) (mo : Mo) (Pr : Prog) (Wf n : Nat) (X : Cx) (W : WX) (xh : XH) (sc : Sc) : Prop where
  hK : X.K = I.K
  eN : X.N = sc.N
  nd : X.N.Nodup
  es : X.env.scope = sc.sc
  kd : X.env.scope.kind = .function
  ef : ∀ x, sc.fn x = true → X.fn x = true
  eq : sc.lam = true → X.env.qual = sc.qual
  un : X.A.units + 65 < cLine
  mg : MoOk I mo X.mg
  cold : sc.hot = false → X.calm = true ∧ xh = none ∧ Cc I Pr Wf X W n
  heat : sc.hot = true → ∀ pins σ H s, L2.Inv X pins σ H s → Hot X s.heap
  hotS : sc.hot = true → sc.blk = false → HotS X xh ∧ L2N.Takes X W ∧ L2H.RoomH n X.A ∧ NamesOk I Pr Wf X.prog X.w X.mg X.base n mo.names
  lamc : sc.lam = true → ∃ c P, LamC I X c P
  nm : NamesOk I Pr Wf X.prog X.w X.mg X.base n mo.names
structure StOk (I : Info) (mo : Mo) (Pr : Prog) (Wf n : Nat) (X : Cx) (W : WX) (xh : XH) (sc : Sc) : Prop extends ScOk I mo Pr Wf n X W xh sc where
  stk : X.stack = X.env :: X.outer
  frm : X.env.frame = some X.env.locals
  pas : sc.hot = false → PassesOwn (model X.prog X.w) X.A X.env X.xe
  tk : L2N.Takes X W
  all : ∀ x, X.fn x = true
  nb : sc.blk = false
section
variable {I : Info} {mo : Mo} {Pr : Prog} {Wf n : Nat} {X : Cx} {W : WX} {xh : XH} {sc : Sc}
theorem lookB_at {x : Str} {k : NameKind} (ok : ScOk I mo Pr Wf n X W xh sc) (h : lookB sc x k = true) : X.env.scope.names.lookup x = some k := by
  rw [ok.es]
  exact of_decide_eq_true h
theorem ScOk.gl {x : Str} (ok : ScOk I mo Pr Wf n X W xh sc) (h : lookB sc x .globalImplicit = true) : Gl X x := lookB_at ok h
theorem ScOk.vis {x : Str} (ok : ScOk I mo Pr Wf n X W xh sc) (h : visB sc x = true) : Vis X.env.scope x := by
  simp only [visB, Bool.or_eq_true] at h
  rcases h with (h | h) | h
  · exact .inl (lookB_at ok h)
  · exact .inr (.inl (lookB_at ok h))
  · exact .inr (.inr (lookB_at ok h))
theorem ScOk.slot {i : Nat} {x : Str} (ok : ScOk I mo Pr Wf n X W xh sc) (h : decide (sc.N[i]? = some x) = true) : X.N[i]? = some x := by
  rw [ok.eN]
  exact of_decide_eq_true h
theorem ScOk.var {i : Nat} {x : Str} {p : Pos} (ok : ScOk I mo Pr Wf n X W xh sc) (h : varB sc i x = true) : PE X (.Name x p) (tVar i) := by
  simp only [varB, Bool.and_eq_true, Bool.not_eq_true'] at h
  exact pe_var (ok.slot h.1.1.1) (ok.vis h.1.1.2) h.1.2 h.2
structure Blt (mo : Mo) (X : Cx) (x : Str) : Prop where
  gl : Gl X x
  mg : X.mg x = none
  nm : x ≠ "__name__"
  db : (x == ("__debug__" : Str)) = false
theorem ScOk.blt {x : Str} (ok : ScOk I mo Pr Wf n X W xh sc) (h : bltB mo sc x = true) : Blt mo X x := by
  simp only [bltB, Bool.and_eq_true, Bool.not_eq_true', decide_eq_true_eq, decide_eq_false_iff_not] at h
  exact ⟨ok.gl h.1.1.1, ok.mg.no x h.1.1.2, h.1.2, h.2⟩
theorem ScOk.gv {x : Str} {v : GV} (ok : ScOk I mo Pr Wf n X W xh sc) (h : gvB mo sc x v = true) : Gl X x ∧ mo.gl.lookup x = some v ∧ (x == ("__debug__" : Str)) = false := by
  simp only [gvB, Bool.and_eq_true, Bool.not_eq_true', decide_eq_true_eq] at h
  exact ⟨ok.gl h.1.1, h.1.2, h.2⟩
theorem e_kst {d : Kst} {c : Const} {j : Nat} {pos : Pos} (h : kstB d c = true) : PE X (.Constant c j pos) (TD I xh W fun _ st => .ok d.d st) := by
  cases d <;> cases c <;> simp only [kstB, decide_eq_true_eq] at h <;> first | (cases h; done) | skip
  · exact e_const pe_non fun m H => .non
  · subst h; exact e_const pe_bl fun m H => .bl _
  · subst h; exact e_const pe_int fun m H => .int _
  · subst h; exact e_const pe_str fun m H => .str _
theorem op_ok {o : Bin} {op : Operator} (hK : X.K = I.K) (h : opB o op = true) : OpS I X (binaryOp op) fun st => binD st o := by
  cases o <;> cases op <;> simp only [opB] at h <;> first | (cases h; done) | skip
  · exact os_add hK
  · exact os_sub
  · exact os_mul hK
  · exact os_fdiv
  · exact os_mod
  · exact os_pow
theorem cmp_ok {o : Cmp} {op : CmpOp} (hK : X.K = I.K) (hu : X.A.units + 65 < cLine) (h : cmpB o op = true) : CmpS I X op o := by
  have hu' : X.A.units + 64 < cLine := by omega
  cases o <;> cases op <;> simp only [cmpB] at h <;> first | (cases h; done) | skip
  · exact cs_eq hK hu'
  · exact cs_ne hK hu'
  · exact cs_lt hK hu'
  · exact cs_le
  · exact cs_gt
  · exact cs_ge
  · exact cs_is
  · exact cs_isnot
  · exact cs_in hK hu
  · exact cs_notin hK hu
theorem slice_ne {y : Expr} (h : notSlice y = true) : ∀ a b c p, y ≠ .Slice a b c p := fun a b c p z => by subst z; cases h
theorem set_ne {iter : Expr} (h : notSet iter = true) : ∀ x, foldedSetIterable iter X.env x = pure x := fun x => by
  cases iter <;> first | rfl | cases h
theorem t_ite {c a b : Expr} {pos : Pos} {t f g : Env → Store → Res D} (hc : PT X c (TBl I xh W (tru t))) (ha : PT X a (TBl I xh W (tru f))) (hb : PT X b (TBl I xh W (tru g))) :
    PT X (.IfExp c a b pos) (TBl I xh W (tru fun ρ st => bnd (tru t ρ st) fun r st1 => if r then f ρ st1 else g ρ st1)) := by
  refine ⟨fun pins s σ H Q iv ⟨m, ρ, st, hs, he, hp⟩ => ?_⟩
  show wpAny _ _ (do if ← isTrue c X.env (eval c X.env) then isTrue a X.env (eval a X.env) else isTrue b X.env (eval b X.env)) _ _ _
  have e : tru (fun ρ st => bnd (tru t ρ st) fun r st1 => if r then f ρ st1 else g ρ st1) ρ st = bnd (tru t ρ st) fun r st1 => if r then tru f ρ st1 else tru g ρ st1 := by
    unfold tru
    rw [bnd_assoc]
    congr 1
    funext r st1
    cases r <;> rfl
  rw [e] at hp
  refine wpAny_bind (thn (hc.run pins s σ H _ iv ⟨m, ρ, st, hs, he, hp.bind (R1 := rEq)⟩) fun r s1 ⟨H1, iv1, a', m1, st1, M⟩ => ?_)
  have er : a' = r := M.rep
  subst er
  have e1 := he.mono M.gr hs.mok
  have p1 := M.post
  cases a' with
  | true => exact ha.run pins s1 σ H1 Q iv1 ⟨m1, ρ, st1, M.st, e1, p1⟩
  | false => exact hb.run pins s1 σ H1 Q iv1 ⟨m1, ρ, st1, M.st, e1, p1⟩
end
end PF

set_option Elab.async false
set_option linter.all false
set_option maxRecDepth 100000
set_option maxHeartbeats 1000000
/-! What has been looked at is sound: the parts. -/
namespace PF
open PySem PySem.Spec PyProof.Rows L2
section
variable {I : Info} {mo : Mo} {Pr : Prog} {Wf n : Nat} {X : Cx} {W : WX} {xh : XH} {sc : Sc}
theorem prim_ok {p : Prim} {ps pos : Pos} {e : Expr} {es : List Expr} {g : Env → Store → Res (List D)} (hK : X.K = I.K) (hu : X.A.units + 65 < cLine) (b : Blt mo X (primS p)) (hc : primC p = true → X.calm = true) (hst : (e :: es).all noStar = true) (ha : PA X (e :: es) (TDs I xh W g)) :
    PE X (.Call (.Name (primS p) ps) (e :: es) [] pos) (TD I xh W fun ρ st => bnd (g ρ st) fun ds st1 => primD st1 p ds) := by
  cases p with
  | len => exact e_callB (cl_len hK) b.gl b.mg (by decide +kernel) ha b.nm b.db hst
  | abs => exact e_callB cl_abs b.gl b.mg (by decide +kernel) ha b.nm b.db hst
  | int => exact e_callT cl_int b.gl b.mg (by decide +kernel) ha b.nm b.db hst
  | max2 => exact e_callB (cl_max2 (hc rfl)) b.gl b.mg (by decide +kernel) ha b.nm b.db hst
  | min2 => exact e_callB (cl_min2 (hc rfl)) b.gl b.mg (by decide +kernel) ha b.nm b.db hst
  | maxL => exact e_callB (cl_maxL hK (hc rfl)) b.gl b.mg (by decide +kernel) ha b.nm b.db hst
  | minL => exact e_callB (cl_minL hK (hc rfl)) b.gl b.mg (by decide +kernel) ha b.nm b.db hst
  | sumL => exact e_callB (cl_sumL hK (hc rfl)) b.gl b.mg (by decide +kernel) ha b.nm b.db hst
  | tuple => exact e_callT (cl_tuple hK) b.gl b.mg (by decide +kernel) ha b.nm b.db hst
  | list => exact e_callT (cl_list hK) b.gl b.mg (by decide +kernel) ha b.nm b.db hst
  | all => exact e_callB (cl_all hK (hc rfl)) b.gl b.mg (by decide +kernel) ha b.nm b.db hst
  | any => exact e_callB (cl_any hK (hc rfl)) b.gl b.mg (by decide +kernel) ha b.nm b.db hst
  | sorted => exact e_callB (cl_sorted hK hu) b.gl b.mg (by decide +kernel) ha b.nm b.db hst
theorem isi_ok {t : Ty} {T : Str} {p p2 pos : Pos} {e : Expr} {f : Env → Store → Res PF.A} (ok : ScOk I mo Pr Wf n X W xh sc) (b : Blt mo X "isinstance") (hst : noStar e = true) (he : PE X e (TAx I xh W f))
    (h : (match t with
        | .own c below => sc.hot && !sc.blk && gvB mo sc T (.cls c) && decide (below = mo.below c)
        | .vale => sc.hot && !sc.blk && bltB mo sc T && decide (T = ("ValueError" : Str))
        | t => bltB mo sc T && decide (T = tyS t)) = true) : PE X (.Call (.Name "isinstance" p) [e, .Name T p2] [] pos) (TD I xh W (isiE f t)) := by
  cases t with
  | int =>
    simp only [Bool.and_eq_true, decide_eq_true_eq] at h
    have d := ok.blt h.1
    exact e_isi (t := .int) ok.hK rfl b.gl b.mg d.gl d.mg (by rw [h.2]; decide +kernel) d.nm d.db he hst
  | bool =>
    simp only [Bool.and_eq_true, decide_eq_true_eq] at h
    have d := ok.blt h.1
    exact e_isi (t := .bool) ok.hK rfl b.gl b.mg d.gl d.mg (by rw [h.2]; decide +kernel) d.nm d.db he hst
  | str =>
    simp only [Bool.and_eq_true, decide_eq_true_eq] at h
    have d := ok.blt h.1
    exact e_isi (t := .str) ok.hK rfl b.gl b.mg d.gl d.mg (by rw [h.2]; decide +kernel) d.nm d.db he hst
  | tuple =>
    simp only [Bool.and_eq_true, decide_eq_true_eq] at h
    have d := ok.blt h.1
    exact e_isi (t := .tuple) ok.hK rfl b.gl b.mg d.gl d.mg (by rw [h.2]; decide +kernel) d.nm d.db he hst
  | list =>
    simp only [Bool.and_eq_true, decide_eq_true_eq] at h
    have d := ok.blt h.1
    exact e_isi (t := .list) ok.hK rfl b.gl b.mg d.gl d.mg (by rw [h.2]; decide +kernel) d.nm d.db he hst
  | own c below =>
    simp only [Bool.and_eq_true, Bool.not_eq_true', decide_eq_true_eq] at h
    obtain ⟨g1, g2, g3⟩ := ok.gv h.1.2
    obtain ⟨C, m1, m2, m3, m4⟩ := ok.mg.cls _ _ g2
    rw [← h.2] at m4
    exact e_isiX ok.hK (ok.hotS h.1.1.1 h.1.1.2).1 m4 rfl b.gl b.mg (v := .ref C) (fun u r => r) (pe_glob g1 m1 rfl g3) he hst
  | vale =>
    simp only [Bool.and_eq_true, Bool.not_eq_true', decide_eq_true_eq] at h
    have d := ok.blt h.1.2
    exact e_isiX ok.hK (ok.hotS h.1.1.1 h.1.1.2).1 ok.mg.vale rfl b.gl b.mg (v := .ty "ValueError") (fun u r => r) (pe_bltn d.gl d.mg (by rw [h.2]; decide +kernel) rfl d.nm d.db) he hst
theorem blk_ok {N : List Str} {s scope : Scope} {own : List (Str × Nat)} (h : blkB N s scope own = true) : BlkOk N s scope own := by
  simp only [blkB, Bool.and_eq_true, Bool.or_eq_true, Bool.not_eq_true', decide_eq_true_eq, List.all_eq_true, decide_eq_false_iff_not, Bool.or_eq_false_iff] at h
  obtain ⟨⟨⟨⟨h1, h2⟩, h3⟩, h4⟩, h5⟩ := h
  refine ⟨h1, h2, h3, fun y hy e => ?_, fun y hy e => ?_⟩
  · rcases h4 y hy with (z | z) | z
    · exact absurd e z
    · exact .inl z
    · exact .inr z
  · rcases h5 y hy with (z | z) | z
    · exact (e.elim z.1 z.2).elim
    · exact .inl z
    · exact .inr z
theorem takes0 {Y : Cx} : L2N.Takes Y W0 := fun u s' ⟨_, _, _, _, _, _, _, _, _, _, _, _, _, _, _, _, w⟩ => w.elim
/-- a comprehension's block -/
theorem ScOk.blk (ok : ScOk I mo Pr Wf n X W xh sc) {s : Shared} {H : Hp} {C : Addr} {cl : List (Str × Addr)} {fp : List Addr} {scope : Scope} (hk : scope.kind = .function) (ba : BlkAt X s H cl fp) (hs : sc.hot = true → L2H.HotC X) : ScOk I mo Pr Wf n (X.blk s H scope (compEnvC scope cl C X.env) fp) W0 xh (blkSc sc scope) := by
  have e1 : (compEnvC scope cl C X.env).scope = relS scope sc.sc := by
    show relabel scope X.env = _
    rw [← ok.es]
    rfl
  refine ⟨ok.hK, ok.eN, ok.nd, e1, hk, fun x hx => ?_, ok.eq, ok.un, ok.mg, fun h => ?_, fun h pins σ H' s' J => ?_, fun _ h => (by cases h), fun h => ?_, ok.nm⟩
  · show (scope.names.lookup x == some .cell) = true
    have : scope.names.lookup x = some .cell := of_decide_eq_true hx
    rw [this]
    rfl
  · obtain ⟨c1, c2, c3⟩ := ok.cold h
    exact ⟨c1, c2, c3.hK, fun y c e => (ba.cells y c e).elim (c3.hc y c) id, takes0, c3.hr, c3.ok⟩
  · obtain ⟨ps, σ0, iv, hf⟩ := ba.here
    exact hot_blk (hs h) iv hf J
  · obtain ⟨c, P, L⟩ := ok.lamc h
    exact ⟨c, P, L.code, L.tab, L.mem, L.uni⟩
theorem args_def {a : Arguments} {env : PySem.Env} (h : argsB a = true) : defaultsOf a env = ([], []) := by
  simp only [argsB, Bool.and_eq_true, List.isEmpty_iff, Option.isNone_iff_eq_none] at h
  obtain ⟨a1, a2, a3, a4, a5, a6, a7⟩ := a
  simp only at h
  obtain ⟨⟨⟨⟨⟨h1, h2⟩, h3⟩, h4⟩, h5⟩, h6⟩ := h
  subst h4 h6
  rfl
theorem caps_ok {scope : Scope} (ok : ScOk I mo Pr Wf n X W xh sc) : ∀ {is : List Nat} {fr : List Str}, capsB sc scope is fr = true → is.length = fr.length ∧ ∀ (j : Nat) (y : Str), fr[j]? = some y → scope.names.lookup y = some .free ∧ ∃ i : Nat, is[j]? = some i ∧ X.N[i]? = some y ∧ (X.env.scope.names.lookup y = some .cell ∨ X.env.scope.names.lookup y = some .free)
  | [], [], _ => ⟨rfl, fun j y e => by simp at e⟩
  | [], _ :: _, h => by cases h
  | _ :: _, [], h => by cases h
  | i :: is, x :: xs, h => by
    simp only [capsB, Bool.and_eq_true, Bool.or_eq_true, decide_eq_true_eq] at h
    obtain ⟨⟨⟨h1, h2⟩, h3⟩, h4⟩ := h
    obtain ⟨r1, r2⟩ := caps_ok ok h4
    refine ⟨by simp [r1], fun j y e => ?_⟩
    cases j with
    | zero =>
      simp at e
      subst e
      exact ⟨h2, i, rfl, ok.slot (decide_eq_true h1), h3.imp (lookB_at ok) (lookB_at ok)⟩
    | succ j =>
      obtain ⟨q1, k, q2, q3⟩ := r2 j y (by simpa using e)
      exact ⟨q1, k, by simpa using q2, q3⟩
theorem each_ne {e : Expr} {es : List Expr} {env : PySem.Env} (h : noStar e = true) : assignEach (e :: es) env = (false, assign e env) :: assignEach es env := by
  cases e <;> first | rfl | cases h
theorem each_len {env : PySem.Env} : ∀ {es : List Expr}, es.all noStar = true → (assignEach es env).length = es.length ∧ (assignEach es env).findIdx? (·.1) = none
  | [], _ => ⟨rfl, rfl⟩
  | e :: es, h => by
    simp only [List.all_cons, Bool.and_eq_true] at h
    obtain ⟨h1, h2⟩ := each_len (env := env) h.2
    rw [each_ne h.1]
    refine ⟨by simp [h1], ?_⟩
    rw [List.findIdx?_cons]
    simp [h2]
theorem swaps_not {ex : Expr} {t : Option Expr} {l : Nat} {env : PySem.Env} (h : notComp ex = true) : swapsWith ex t l env = pure false := by
  cases ex <;> first | rfl | cases h
theorem noSwap_ok {tg ex : Expr} {l : Nat} (ok : ScOk I mo Pr Wf n X W xh sc) (h : swapB sc tg ex = false) (h2 : (notComp ex || shapeB tg ex) = true) : swapsWithSole [tg] ex l X.env = pure false := by
  show swapsWith ex (some tg) l X.env = pure false
  cases hc : notComp ex with
  | true => exact swaps_not hc
  | false =>
    rw [hc, Bool.false_or] at h2
    cases ex <;> first | (cases hc; done) | (cases tg <;> cases h2; done) | skip
    rename_i elt gs s pos
    cases tg <;> first | (cases h2; done) | skip
    · rename_i y p
      have bk : X.env.blockKind = .function := by
        unfold Env.blockKind
        rw [ok.kd]
        rfl
      have ky : X.env.kindOf y = sc.sc.names.lookup y := by
        unfold Env.kindOf
        rw [ok.es]
      show (pure (X.env.blockKind == .function && X.env.kindOf y == some .local && p.line == pos.line && !(s.names.any fun (n, k) => n == y && (k == .local || k == .cell))) : Sem Bool) = pure false
      congr 1
      rw [bk, ky]
      simp only [swapB, lookB] at h
      by_cases z : sc.sc.names.lookup y = some .local
      · rw [z] at h ⊢
        simpa using h
      · have : (sc.sc.names.lookup y == some .local) = false := by simpa using z
        rw [this]
        simp
    · rfl
theorem swap_ok {y : Str} {p pos : Pos} {elt : Expr} {gs : List Comprehension} {s : Scope} {l : Nat} (ok : ScOk I mo Pr Wf n X W xh sc) (h : swapB sc (.Name y p) (.ListComp elt gs s pos) = true) : swapsWith (.ListComp elt gs s pos) (some (.Name y p)) l X.env = pure true := by
  have bk : X.env.blockKind = .function := by
    unfold Env.blockKind
    rw [ok.kd]
    rfl
  have ky : X.env.kindOf y = sc.sc.names.lookup y := by
    unfold Env.kindOf
    rw [ok.es]
  show (pure (X.env.blockKind == .function && X.env.kindOf y == some .local && p.line == pos.line && !(s.names.any fun (n, k) => n == y && (k == .local || k == .cell))) : Sem Bool) = pure true
  congr 1
  rw [bk, ky]
  simp only [swapB, lookB, Bool.and_eq_true, decide_eq_true_eq] at h
  rw [h.1.1]
  simpa using ⟨by simpa using h.1.2, by simpa using h.2⟩
end
end PF

set_option Elab.async false
set_option linter.all false
set_option maxRecDepth 100000
set_option maxHeartbeats 1000000
/-! Stores of tuples. -/
namespace PF
open PySem PySem.Spec PyProof.Rows L2
section
variable {I : Info} {mo : Mo} {Pr : Prog} {Wf n : Nat} {X : Cx} {W : WX} {xh : XH} {sc : Sc}
theorem blockKind_fn (ok : ScOk I mo Pr Wf n X W xh sc) : X.env.blockKind = .function := by
  unfold Env.blockKind
  rw [ok.kd]
  rfl
theorem kindOf_eq (ok : ScOk I mo Pr Wf n X W xh sc) (y : Str) : X.env.kindOf y = sc.sc.names.lookup y := by
  unfold Env.kindOf
  rw [ok.es]
/-- swappedStores, for two tuples -/
theorem sw_tuples (ok : ScOk I mo Pr Wf n X W xh sc) (ts vs : List Expr) (k k2 : Nat) (p p2 : Pos) : swappedStores [.Tuple ts k p] (.Tuple vs k2 p2) X.env =
    (if (!(ts.length == 2 || ts.length == 3) || vs.length != ts.length || false) = true then pure none else
      if (vs.any fun | .Starred .. => true | _ => false) = true then pure none else
        if ((parN sc ts).length != ts.length || (parN sc ts).eraseDups.length != (parN sc ts).length) = true then pure none else
          if vs.all (foldedForSure 8) = true then pure none else
            if vs.all (constantsAlone 8) = true then (do unsupported "assign.tuple-of-constant-expressions:order-of-the-stores"; pure (some (parN sc ts))) else pure (some (parN sc ts))) := by
  unfold swappedStores parN
  dsimp only
  rw [blockKind_fn ok]
  simp only [kindOf_eq ok]
  generalize (ts.filterMap fun x => (match x with
    | .Name id pos => if (sc.sc.names.lookup id == some .local && pos.line == (ts.head?.map (·.pos.line)).getD 0) = true then some id else none
    | _ => none : Option Str)) = ns
  generalize (!(ts.length == 2 || ts.length == 3) || vs.length != ts.length) = c1
  generalize vs.all (foldedForSure 8) = c4
  generalize vs.all (constantsAlone 8) = c5
  have e0 : (ScopeKind.function != ScopeKind.function) = false := by decide
  rw [e0]
  generalize (ns.length != ts.length || ns.eraseDups.length != ns.length) = c3
  cases c1 <;> cases c3 <;> cases c4 <;> cases c5 <;> first | rfl | (split <;> first | rfl | (rename_i z; rw [if_pos z]; rfl) | (rename_i z; rw [if_neg z]; rfl))
theorem noPar_ok {tg ex : Expr} (ok : ScOk I mo Pr Wf n X W xh sc) (h : noParB sc tg ex = true) : swappedStores [tg] ex X.env = pure none := by
  cases tg with
  | Tuple ts k p =>
    cases ex with
    | Tuple vs k2 p2 =>
      rw [sw_tuples ok]
      simp only [noParB, Bool.or_eq_true] at h
      by_cases a : (!(ts.length == 2 || ts.length == 3) || vs.length != ts.length || false) = true
      · rw [if_pos a]
      · rw [if_neg a]
        split
        · rfl
        · rw [if_pos]
          rcases h with h | h
          · exact absurd (by simpa using h) a
          · rw [h]; rfl
    | _ => rfl
  | List ts p => cases h
  | _ => rfl
theorem par_ok {ts vs : List Expr} {k k2 : Nat} {p p2 : Pos} {xs : List Str} (ok : ScOk I mo Pr Wf n X W xh sc) (h : parB sc ts vs = true) (e : parN sc ts = xs) : swappedStores [.Tuple ts k p] (.Tuple vs k2 p2) X.env = pure (some xs) := by
  rw [sw_tuples ok]
  simp only [parB, noStar', Bool.and_eq_true, Bool.not_eq_true'] at h
  obtain ⟨⟨⟨⟨⟨⟨h1, h2⟩, h3⟩, h4⟩, h5⟩, h6⟩, h7⟩ := h
  rw [if_neg (by simp only [bne, h1, h2]; decide)]
  split
  · rename_i z
    exact absurd (h3.symm.trans z) Bool.false_ne_true
  · rw [if_neg (by simp only [bne, h4, h5]; decide), if_neg (by rw [h6]; decide), if_neg (by rw [h7]; decide), e]
end
end PF

set_option Elab.async false
set_option linter.all false
set_option maxRecDepth 100000
set_option maxHeartbeats 1000000
/-! What has been looked at is sound: all forms. -/
namespace PF
open PySem PySem.Spec PyProof.Rows L2
section
variable (I : Info) (mo : Mo) (Pr : Prog) (Wf : Nat)
abbrev dn (n : Nat) (c : C) : Den := den Wf (callN Pr Wf n) c
/-- an expression -/
structure GE (n : Nat) (X : Cx) (W : WX) (xh : XH) (ex : Expr) (f : Env → Store → Res D) : Prop where
  e : PE X ex (TD I xh W f)
  t : PT X ex (TBl I xh W (tru f))
  w : ∀ op vs pos, ex = .BoolOp op vs pos → PW X ex (TBl I xh W (tru f))
/-- a comprehension -/
def GL (n : Nat) (X : Cx) (W : WX) (xh : XH) (elt : Expr) (gs : List Comprehension) (scope : Scope) (f : Env → Store → Res D) : Prop :=
  ∃ Fit own tg iter ifs j g c e, gs = [⟨tg, iter, ifs, 0⟩] ∧ LcOk I xh W X Fit own elt tg iter ifs scope j g c e ∧ f = compE Wf (own.map (·.2)) j g c e
structure Good (q : C) : Prop where
  e : ∀ {n X W xh sc}, ScOk I mo Pr Wf n X W xh sc → ∀ {ex}, (chk mo q).e sc ex = true → GE I n X W xh ex (dn Pr Wf n q).e
  l : ∀ {n X W xh sc}, ScOk I mo Pr Wf n X W xh sc → ∀ {elt gs scope pos}, (chk mo q).e sc (.ListComp elt gs scope pos) = true → GL I Wf n X W xh elt gs scope (dn Pr Wf n q).e
  x : ∀ {n X W sc}, ScOk I mo Pr Wf n X W none sc → sc.hot = false → ∀ {ex}, (chk mo q).x sc ex = true → PE X ex (TA1 I X W (dn Pr Wf n q).ea)
  y : ∀ {n X W xh sc}, ScOk I mo Pr Wf n X W xh sc → ∀ {ex}, (chk mo q).y sc ex = true → PE X ex (TAx I xh W (dn Pr Wf n q).ea)
  c : ∀ {n X W sc}, ScOk I mo Pr Wf n X W none sc → sc.hot = false → ∀ {x}, (chk mo q).c sc x = true → ∀ {p pos args g}, PA X args (TAP I X W g) → args.all noStar = true → (args = [] → g = fun _ st => .ok [] st) → PE X (.Call (.Name x p) args [] pos) (TD I none W (callE (callN Pr Wf n) (dn Pr Wf n q).ea g))
  a : ∀ {n X W xh sc}, ScOk I mo Pr Wf n X W xh sc → ∀ {es}, (chk mo q).a sc es = true → PA X es (TDs I xh W (dn Pr Wf n q).a)
  aa : ∀ {n X W sc}, ScOk I mo Pr Wf n X W none sc → sc.hot = false → ∀ {es}, (chk mo q).aa sc es = true → PA X es (TAP I X W (dn Pr Wf n q).aa) ∧ (es = [] → (dn Pr Wf n q).aa = fun _ st => .ok [] st)
  t : ∀ {n X W xh sc}, ScOk I mo Pr Wf n X W xh sc → ∀ {o}, (chk mo q).t sc o = true → PO X o (TOi I xh W (dn Pr Wf n q).t)
  ts : ∀ {n X W xh sc}, ScOk I mo Pr Wf n X W xh sc → ∀ {l}, (chk mo q).ts sc l = true → PTs X l (TBl I xh W (tru (dn Pr Wf n q).e))
  g : ∀ {n X W xh sc}, ScOk I mo Pr Wf n X W xh sc → ∀ {own ex}, (chk mo q).g sc own ex = true → PG X ex (TGt I xh W own (dn Pr Wf n q).g)
  gs : ∀ {n X W xh sc}, ScOk I mo Pr Wf n X W xh sc → ∀ {own es}, (chk mo q).gs sc own es = true → PGs X es (TGs' I xh own (dn Pr Wf n q).gs) ∧ es.all noStar = true ∧ ∀ ds ρ st, ds.length ≠ es.length → noX ((dn Pr Wf n q).gs ds ρ st) = .stuck
  i : ∀ {n X W xh sc}, ScOk I mo Pr Wf n X W xh sc → ∀ {tg ex}, (chk mo q).i sc tg ex = true → (sc.hot = false → PI X tg ex (TIt I xh W (dn Pr Wf n q).i)) ∧ (sc.hot = true → PIX Hot X tg ex (TIt I xh W (dn Pr Wf n q).i))
  s : ∀ {n X W xh sc}, StOk I mo Pr Wf n X W xh sc → ∀ {st}, (chk mo q).s sc st = true → PS X st (TSt I xh W (dn Pr Wf n q).s)
  ss : ∀ {n X W xh sc}, StOk I mo Pr Wf n X W xh sc → ∀ {l}, (chk mo q).ss sc l = true → PSs X l (TSt I xh W (dn Pr Wf n q).ss)
end
section
variable {I : Info} {mo : Mo} {Pr : Prog} {Wf : Nat}
theorem StOk.hotC {n : Nat} {X : Cx} {W : WX} {xh : XH} {sc : Sc} (ok : StOk I mo Pr Wf n X W xh sc) : sc.hot = true → sc.blk = false → L2H.HotC X := fun h1 h2 => (ok.hotS h1 h2).1.hotC
theorem ScOk.hotC {n : Nat} {X : Cx} {W : WX} {xh : XH} {sc : Sc} (ok : ScOk I mo Pr Wf n X W xh sc) : sc.hot = true → sc.blk = false → L2H.HotC X := fun h1 h2 => (ok.hotS h1 h2).1.hotC
/-- a plain expression, as a test -/
theorem GE.plain {n : Nat} {X : Cx} {W : WX} {xh : XH} {ex : Expr} {f : Env → Store → Res D} (hK : X.K = I.K) (h : PE X ex (TD I xh W f)) (he : ∀ whole, isTrue ex X.env whole = (do let v ← whole; standAt ex.pos; holding [v] (truthy v))) (hb : ∀ op vs pos, ex ≠ .BoolOp op vs pos) : GE I n X W xh ex f :=
  ⟨h, t_plain hK h he, fun op vs pos e => absurd e (hb op vs pos)⟩
/-- a form that is an expression alone -/
theorem Good.ofE {c : C} {f : Sc → Expr → Bool} {g : Nat → Env → Store → Res D} (hc : chk mo c = exprCk f) (hd : ∀ n, dn Pr Wf n c = exprDen (g n))
    (he : ∀ {n X W xh sc}, ScOk I mo Pr Wf n X W xh sc → ∀ {ex}, f sc ex = true → GE I n X W xh ex (g n))
    (hl : ∀ {n X W xh sc}, ScOk I mo Pr Wf n X W xh sc → ∀ {elt gs scope pos}, f sc (.ListComp elt gs scope pos) = true → GL I Wf n X W xh elt gs scope (g n)) : Good I mo Pr Wf c := by
  refine ⟨fun {n X W xh sc} ok {ex} h => ?_, fun {n X W xh sc} ok {a b d p} h => ?_, fun {n X W sc} ok _ {ex} h => ?_, fun {n X W xh sc} ok {ex} h => ?_, fun {n X W sc} ok _ {x} h => ?_, fun {n X W xh sc} ok {ex} h => ?_, fun {n X W sc} ok _ {ex} h => ?_, fun {n X W xh sc} ok {o} h => ?_, fun {n X W xh sc} ok {l} h => ?_, fun {n X W xh sc} ok {a b} h => ?_, fun {n X W xh sc} ok {a b} h => ?_, fun {n X W xh sc} ok {a b} h => ?_, fun {n X W xh sc} ok {a} h => ?_, fun {n X W xh sc} ok {a} h => ?_⟩
  · rw [hc] at h; rw [hd]; exact he ok h
  · rw [hc] at h; rw [hd]; exact hl ok h
  · rw [hc] at h; rw [hd]; exact a1_val (he ok h).e
  · rw [hc] at h; rw [hd]; exact ax_val (he ok h).e
  · rw [hc] at h; cases h
  · rw [hc] at h; cases h
  · rw [hc] at h; cases h
  · rw [hc] at h
    rw [hd]
    cases o with
    | none => cases h
    | some e => exact o_some (he ok h).e
  · rw [hc] at h
    rw [hd]
    match l, h with
    | [c], h => exact pts_one (he ok h).t
  · rw [hc] at h; cases h
  · rw [hc] at h; cases h
  · rw [hc] at h; cases h
  · rw [hc] at h; cases h
  · rw [hc] at h; cases h
theorem Good.ofS {c : C} {f : Sc → Stmt → Bool} {g : Nat → Env → Store → SR} (hc : chk mo c = stmtCk f) (hd : ∀ n, dn Pr Wf n c = stmtDen (g n))
    (hs : ∀ {n X W xh sc}, StOk I mo Pr Wf n X W xh sc → ∀ {st}, f sc st = true → PS X st (TSt I xh W (g n))) : Good I mo Pr Wf c := by
  refine ⟨fun {n X W xh sc} ok {ex} h => ?_, fun {n X W xh sc} ok {a b d p} h => ?_, fun {n X W sc} ok _ {ex} h => ?_, fun {n X W xh sc} ok {ex} h => ?_, fun {n X W sc} ok _ {x} h => ?_, fun {n X W xh sc} ok {ex} h => ?_, fun {n X W sc} ok _ {ex} h => ?_, fun {n X W xh sc} ok {o} h => ?_, fun {n X W xh sc} ok {l} h => ?_, fun {n X W xh sc} ok {a b} h => ?_, fun {n X W xh sc} ok {a b} h => ?_, fun {n X W xh sc} ok {a b} h => ?_, fun {n X W xh sc} ok {a} h => ?_, fun {n X W xh sc} ok {a} h => ?_⟩
  all_goals rw [hc] at h
  all_goals first | (cases h; done) | skip
  rw [hd]
  exact hs ok h
theorem Good.ofG {c : C} {f : Sc → List Nat → Expr → Bool} {g : Nat → D → Env → Store → Res Env} (hc : chk mo c = tgtCk f) (hd : ∀ n, dn Pr Wf n c = tgtDen (g n))
    (hs : ∀ {n X W xh sc}, ScOk I mo Pr Wf n X W xh sc → ∀ {own ex}, f sc own ex = true → PG X ex (TGt I xh W own (g n))) : Good I mo Pr Wf c := by
  refine ⟨fun {n X W xh sc} ok {ex} h => ?_, fun {n X W xh sc} ok {a b d p} h => ?_, fun {n X W sc} ok _ {ex} h => ?_, fun {n X W xh sc} ok {ex} h => ?_, fun {n X W sc} ok _ {x} h => ?_, fun {n X W xh sc} ok {ex} h => ?_, fun {n X W sc} ok _ {ex} h => ?_, fun {n X W xh sc} ok {o} h => ?_, fun {n X W xh sc} ok {l} h => ?_, fun {n X W xh sc} ok {a b} h => ?_, fun {n X W xh sc} ok {a b} h => ?_, fun {n X W xh sc} ok {a b} h => ?_, fun {n X W xh sc} ok {a} h => ?_, fun {n X W xh sc} ok {a} h => ?_⟩
  all_goals rw [hc] at h
  all_goals first | (cases h; done) | skip
  rw [hd]
  exact hs ok h
theorem Good.ofI {c : C} {f : Sc → Expr → Expr → Bool} {g : Nat → Env → Store → Res PF.It} (hc : chk mo c = itCk f) (hd : ∀ n, dn Pr Wf n c = itDen (g n))
    (hs : ∀ {n X W xh sc}, ScOk I mo Pr Wf n X W xh sc → ∀ {tg ex}, f sc tg ex = true → (sc.hot = false → PI X tg ex (TIt I xh W (g n))) ∧ (sc.hot = true → PIX Hot X tg ex (TIt I xh W (g n)))) : Good I mo Pr Wf c := by
  refine ⟨fun {n X W xh sc} ok {ex} h => ?_, fun {n X W xh sc} ok {a b d p} h => ?_, fun {n X W sc} ok _ {ex} h => ?_, fun {n X W xh sc} ok {ex} h => ?_, fun {n X W sc} ok _ {x} h => ?_, fun {n X W xh sc} ok {ex} h => ?_, fun {n X W sc} ok _ {ex} h => ?_, fun {n X W xh sc} ok {o} h => ?_, fun {n X W xh sc} ok {l} h => ?_, fun {n X W xh sc} ok {a b} h => ?_, fun {n X W xh sc} ok {a b} h => ?_, fun {n X W xh sc} ok {a b} h => ?_, fun {n X W xh sc} ok {a} h => ?_, fun {n X W xh sc} ok {a} h => ?_⟩
  all_goals rw [hc] at h
  all_goals first | (cases h; done) | skip
  rw [hd]
  exact hs ok h
end
end PF

set_option Elab.async false
set_option linter.all false
set_option maxRecDepth 100000
set_option maxHeartbeats 1000000
/-! Each form in turn: expressions. -/
namespace PF
open PySem PySem.Spec PyProof.Rows L2
section
variable {I : Info} {mo : Mo} {Pr : Prog} {Wf : Nat}
theorem good_k (d : Kst) : Good I mo Pr Wf (.k d) := by
  have he : ∀ {n X W xh sc}, ScOk I mo Pr Wf n X W xh sc → ∀ {ex}, (match ex with
      | .Constant c _ _ => kstB d c
      | _ => false) = true → GE I n X W xh ex fun _ st => .ok d.d st := fun {n X W xh sc} ok {ex} h => by
    cases ex <;> first | (cases h; done) | skip
    exact .plain ok.hK (e_kst h) (fun _ => rfl) fun _ _ _ z => by cases z
  refine ⟨fun {n X W xh sc} ok {ex} h => he ok h, fun {n X W xh sc} ok {a b d p} h => (by cases h), fun {n X W sc} ok _ {ex} h => a1_val (he ok h).e, fun {n X W xh sc} ok {ex} h => ax_val (he ok h).e, fun {n X W sc} ok _ {x} h => (by cases h), fun {n X W xh sc} ok {ex} h => (by cases h), fun {n X W sc} ok _ {ex} h => (by cases h), fun {n X W xh sc} ok {o} h => ?_, fun {n X W xh sc} ok {l} h => ?_, fun {n X W xh sc} ok {a b} h => (by cases h), fun {n X W xh sc} ok {a b} h => (by cases h), fun {n X W xh sc} ok {a b} h => (by cases h), fun {n X W xh sc} ok {a} h => (by cases h), fun {n X W xh sc} ok {a} h => (by cases h)⟩
  · cases o with
    | none => cases h
    | some e => exact o_some (he ok h).e
  · match l, h with
    | [], h =>
      have e : d = .bl true := of_decide_eq_true h
      subst e
      exact ⟨fun pins s σ H Q iv ⟨m, ρ, st, hs, hen, hp⟩ => pts_nil.run pins s σ H Q iv (hp.here hs rfl)⟩
    | [.Constant c j p], h => exact pts_one (he ok (ex := .Constant c j p) h).t
theorem good_v (i : Nat) : Good I mo Pr Wf (.v i) := by
  have he : ∀ {n X W xh sc}, ScOk I mo Pr Wf n X W xh sc → ∀ {ex}, (match ex with
      | .Name x _ => varB sc i x
      | _ => false) = true → GE I n X W xh ex (slotD i) ∧ PE X ex (tVar i) := fun {n X W xh sc} ok {ex} h => by
    cases ex <;> first | (cases h; done) | skip
    exact ⟨.plain ok.hK (e_var (ok.var h)) (fun _ => rfl) fun _ _ _ z => (by cases z), ok.var h⟩
  refine ⟨fun {n X W xh sc} ok {ex} h => (he ok h).1, fun {n X W xh sc} ok {a b d p} h => (by cases h), fun {n X W sc} ok _ {ex} h => a1_var (he ok h).2, fun {n X W xh sc} ok {ex} h => ax_var (he ok h).2, fun {n X W sc} ok hh {x} h {p pos args g} ha hst hn => ?_, fun {n X W xh sc} ok {ex} h => (by cases h), fun {n X W sc} ok _ {ex} h => (by cases h), fun {n X W xh sc} ok {o} h => ?_, fun {n X W xh sc} ok {l} h => ?_, fun {n X W xh sc} ok {a b} h => (by cases h), fun {n X W xh sc} ok {a b} h => (by cases h), fun {n X W xh sc} ok {a b} h => (by cases h), fun {n X W xh sc} ok {a} h => (by cases h), fun {n X W xh sc} ok {a} h => (by cases h)⟩
  · have v : PE X (.Name x p) (tVar i) := ok.var h
    cases args with
    | nil => rw [hn rfl]; exact e_callV0 (ok.cold hh).2.2 v
    | cons e es => exact e_callV (ok.cold hh).2.2 v ha hst
  · cases o with
    | none => cases h
    | some e => exact o_some (he ok h).1.e
  · match l, h with
    | [c], h => exact pts_one (he ok h).1.t
theorem good_g (d : Kst) : Good I mo Pr Wf (.g d) := by
  refine .ofE rfl (fun n => rfl) (fun {n X W xh sc} ok {ex} h => ?_) (fun {n X W xh sc} ok {a b d p} h => by cases h)
  cases ex <;> first | (cases h; done) | skip
  obtain ⟨g1, g2, g3⟩ := ok.gv h
  obtain ⟨u, v, h1, h2, h3⟩ := ok.mg.cst _ _ g2
  exact .plain ok.hK (e_const (pe_glob g1 h1 h2 g3) h3) (fun _ => rfl) fun _ _ _ z => by cases z
theorem good_gf (i : Nat) : Good I mo Pr Wf (.gf i) := by
  have he : ∀ {n X W xh sc}, ScOk I mo Pr Wf n X W xh sc → ∀ {ex}, (match ex with
      | .Name x _ => gvB mo sc x (.fn i)
      | _ => false) = true → GE I n X W xh ex fun _ st => .ok (.fn i) st := fun {n X W xh sc} ok {ex} h => by
    cases ex <;> first | (cases h; done) | skip
    obtain ⟨g1, g2, g3⟩ := ok.gv h
    obtain ⟨f, h1, h2⟩ := ok.mg.fn _ _ g2
    exact .plain ok.hK (e_const (v := .ref f) (pe_glob g1 h1 rfl g3) fun m H => .fn h2) (fun _ => rfl) fun _ _ _ z => by cases z
  refine ⟨fun {n X W xh sc} ok {ex} h => he ok h, fun {n X W xh sc} ok {a b d p} h => (by cases h), fun {n X W sc} ok _ {ex} h => a1_val (he ok h).e, fun {n X W xh sc} ok {ex} h => ax_val (he ok h).e, fun {n X W sc} ok hh {x} h {p pos args g} ha hst hn => ?_, fun {n X W xh sc} ok {ex} h => (by cases h), fun {n X W sc} ok _ {ex} h => (by cases h), fun {n X W xh sc} ok {o} h => ?_, fun {n X W xh sc} ok {l} h => ?_, fun {n X W xh sc} ok {a b} h => (by cases h), fun {n X W xh sc} ok {a b} h => (by cases h), fun {n X W xh sc} ok {a b} h => (by cases h), fun {n X W xh sc} ok {a} h => (by cases h), fun {n X W xh sc} ok {a} h => (by cases h)⟩
  · obtain ⟨g1, g2, g3⟩ := ok.gv h
    obtain ⟨f, h1, h2⟩ := ok.mg.fn _ _ g2
    cases args with
    | nil => rw [hn rfl]; exact e_callG0 (ok.cold hh).2.2 g1 h1 h2 g3
    | cons e es => exact e_callG (ok.cold hh).2.2 g1 h1 h2 g3 ha hst
  · cases o with
    | none => cases h
    | some e => exact o_some (he ok h).e
  · match l, h with
    | [c], h => exact pts_one (he ok h).t
section
variable {a b c : C} (ga : Good I mo Pr Wf a) (gb : Good I mo Pr Wf b) (gc : Good I mo Pr Wf c)
include ga
theorem good_tup : Good I mo Pr Wf (.tup a) := by
  refine .ofE rfl (fun n => rfl) (fun {n X W xh sc} ok {ex} h => ?_) (fun {n X W xh sc} ok {a b d p} h => by cases h)
  cases ex <;> first | (cases h; done) | skip
  exact .plain ok.hK (e_tup (ga.a ok h)) (fun _ => rfl) fun _ _ _ z => by cases z
theorem good_lst : Good I mo Pr Wf (.lst a) := by
  refine .ofE rfl (fun n => rfl) (fun {n X W xh sc} ok {ex} h => ?_) (fun {n X W xh sc} ok {a b d p} h => by cases h)
  cases ex <;> first | (cases h; done) | skip
  exact .plain ok.hK (e_lst (ga.a ok h)) (fun _ => rfl) fun _ _ _ z => by cases z
theorem good_neg : Good I mo Pr Wf (.neg a) := by
  refine .ofE rfl (fun n => rfl) (fun {n X W xh sc} ok {ex} h => ?_) (fun {n X W xh sc} ok {a b d p} h => by cases h)
  match ex, h with
  | .UnaryOp .USub x pos, h => exact .plain ok.hK (e_neg (ga.e ok h).e) (fun _ => rfl) fun _ _ _ z => by cases z
theorem good_not : Good I mo Pr Wf (.not a) := by
  refine .ofE rfl (fun n => rfl) (fun {n X W xh sc} ok {ex} h => ?_) (fun {n X W xh sc} ok {a b d p} h => by cases h)
  match ex, h with
  | .UnaryOp .Not x pos, h => exact ⟨e_not ok.hK (ga.e ok h).e, t_not (ga.e ok h).t, fun _ _ _ z => (by cases z)⟩
include gb
theorem good_bin (o : Bin) : Good I mo Pr Wf (.bin o a b) := by
  refine .ofE rfl (fun n => rfl) (fun {n X W xh sc} ok {ex} h => ?_) (fun {n X W xh sc} ok {a b d p} h => by cases h)
  cases ex <;> first | (cases h; done) | skip
  simp only [Bool.and_eq_true] at h
  exact .plain ok.hK (e_bin (op_ok ok.hK h.1.1) (ga.e ok h.1.2).e (gb.e ok h.2).e) (fun _ => rfl) fun _ _ _ z => by cases z
theorem good_cmp (o : Cmp) : Good I mo Pr Wf (.cmp o a b) := by
  refine .ofE rfl (fun n => rfl) (fun {n X W xh sc} ok {ex} h => ?_) (fun {n X W xh sc} ok {a b d p} h => by cases h)
  match ex, h with
  | .Compare l [op] [r] pos, h =>
    simp only [Bool.and_eq_true, Bool.not_eq_true'] at h
    have k := cmp_ok ok.hK ok.un h.1.1.1
    exact ⟨e_cmp k (ga.e ok h.1.1.2).e (gb.e ok h.1.2).e h.2, t_cmp k (ga.e ok h.1.1.2).e (gb.e ok h.1.2).e h.2, fun _ _ _ z => (by cases z)⟩
theorem good_and : Good I mo Pr Wf (.and a b) := by
  refine .ofE rfl (fun n => rfl) (fun {n X W xh sc} ok {ex} h => ?_) (fun {n X W xh sc} ok {a b d p} h => by cases h)
  match ex, h with
  | .BoolOp .And [x, y] pos, h =>
    simp only [Bool.and_eq_true] at h
    have w := t_and (pos := pos) (ga.e ok h.1).t (pw_and1 (gb.e ok h.2).t)
    exact ⟨e_and ok.hK (ga.e ok h.1).e (pe_one (gb.e ok h.2).e), w.pt, fun _ _ _ _ => w⟩
  | .BoolOp .And (x :: y :: z :: r) pos, h =>
    simp only [Bool.and_eq_true] at h
    have w := t_and (pos := pos) (ga.e ok h.1).t ((gb.e ok h.2).w _ _ _ rfl)
    exact ⟨e_and ok.hK (ga.e ok h.1).e (gb.e ok h.2).e, w.pt, fun _ _ _ _ => w⟩
theorem good_or : Good I mo Pr Wf (.or a b) := by
  refine .ofE rfl (fun n => rfl) (fun {n X W xh sc} ok {ex} h => ?_) (fun {n X W xh sc} ok {a b d p} h => by cases h)
  match ex, h with
  | .BoolOp .Or [x, y] pos, h =>
    simp only [Bool.and_eq_true] at h
    have w := t_or (pos := pos) (ga.e ok h.1).t (pw_or1 (gb.e ok h.2).t)
    exact ⟨e_or ok.hK (ga.e ok h.1).e (pe_one (gb.e ok h.2).e), w.pt, fun _ _ _ _ => w⟩
  | .BoolOp .Or (x :: y :: z :: r) pos, h =>
    simp only [Bool.and_eq_true] at h
    have w := t_or (pos := pos) (ga.e ok h.1).t ((gb.e ok h.2).w _ _ _ rfl)
    exact ⟨e_or ok.hK (ga.e ok h.1).e (gb.e ok h.2).e, w.pt, fun _ _ _ _ => w⟩
theorem good_idx : Good I mo Pr Wf (.idx a b) := by
  refine .ofE rfl (fun n => rfl) (fun {n X W xh sc} ok {ex} h => ?_) (fun {n X W xh sc} ok {a b d p} h => by cases h)
  cases ex <;> first | (cases h; done) | skip
  simp only [Bool.and_eq_true] at h
  exact .plain ok.hK (e_idx ok.hK (ga.e ok h.1.2).e (gb.e ok h.2).e (slice_ne h.1.1)) (fun _ => rfl) fun _ _ _ z => by cases z
include gc
theorem good_chain (o p : Cmp) : Good I mo Pr Wf (.chain o p a b c) := by
  refine .ofE rfl (fun n => rfl) (fun {n X W xh sc} ok {ex} h => ?_) (fun {n X W xh sc} ok {a b d p} h => by cases h)
  match ex, h with
  | .Compare l [op, op'] [m, r] pos, h =>
    simp only [Bool.and_eq_true, Bool.not_eq_true'] at h
    have k := cmp_ok ok.hK ok.un h.1.1.1.1.1
    have k2 := cmp_ok ok.hK ok.un h.1.1.1.1.2
    exact ⟨e_chain k k2 (ga.e ok h.1.1.1.2).e (gb.e ok h.1.1.2).e (gc.e ok h.1.2).e h.2, t_chain k k2 (ga.e ok h.1.1.1.2).e (gb.e ok h.1.1.2).e (gc.e ok h.1.2).e h.2, fun _ _ _ z => (by cases z)⟩
theorem good_ite : Good I mo Pr Wf (.ite a b c) := by
  refine .ofE rfl (fun n => rfl) (fun {n X W xh sc} ok {ex} h => ?_) (fun {n X W xh sc} ok {a b d p} h => by cases h)
  cases ex <;> first | (cases h; done) | skip
  simp only [Bool.and_eq_true] at h
  exact ⟨e_ite (ga.e ok h.1.1).t (gb.e ok h.1.2).e (gc.e ok h.2).e, t_ite (ga.e ok h.1.1).t (gb.e ok h.1.2).t (gc.e ok h.2).t, fun _ _ _ z => (by cases z)⟩
theorem good_sl : Good I mo Pr Wf (.sl a b c) := by
  refine .ofE rfl (fun n => rfl) (fun {n X W xh sc} ok {ex} h => ?_) (fun {n X W xh sc} ok {a b d p} h => by cases h)
  match ex, h with
  | .Subscript x (.Slice l u none p2) pos, h =>
    simp only [Bool.and_eq_true] at h
    exact .plain ok.hK (e_sl ok.hK (ga.e ok h.1.1).e (gb.t ok h.1.2) (gc.t ok h.2)) (fun _ => rfl) fun _ _ _ z => by cases z
end
section
variable {a b c : C} (ga : Good I mo Pr Wf a) (gb : Good I mo Pr Wf b)
include ga
theorem good_prim (p : Prim) : Good I mo Pr Wf (.prim p a) := by
  refine .ofE rfl (fun n => rfl) (fun {n X W xh sc} ok {ex} h => ?_) (fun {n X W xh sc} ok {a b d p} h => by cases h)
  match ex, h with
  | .Call (.Name x q) (e1 :: es) [] pos, h =>
    simp only [Bool.and_eq_true, decide_eq_true_eq] at h
    obtain ⟨⟨⟨⟨h1, h2⟩, h3⟩, h4⟩, h5⟩ := h
    subst h1
    refine .plain ok.hK (prim_ok ok.hK ok.un (ok.blt h2) (fun hp => ?_) h4 (ga.a ok h5)) (fun _ => rfl) fun _ _ _ z => by cases z
    rw [hp] at h3
    exact (ok.cold (by simpa using h3)).1
theorem good_isi (t : Ty) : Good I mo Pr Wf (.isi a t) := by
  refine .ofE rfl (fun n => rfl) (fun {n X W xh sc} ok {ex} h => ?_) (fun {n X W xh sc} ok {a b d p} h => by cases h)
  match ex, h with
  | .Call (.Name x q) [y, .Name T q2] [] pos, h =>
    simp only [Bool.and_eq_true, decide_eq_true_eq] at h
    obtain ⟨⟨⟨⟨h1, h2⟩, h3⟩, h4⟩, h5⟩ := h
    subst h1
    exact .plain ok.hK (isi_ok ok (ok.blt h2) h3 (ga.y ok h4) h5) (fun _ => rfl) fun _ _ _ z => by cases z
include gb
theorem good_call : Good I mo Pr Wf (.call a b) := by
  refine .ofE rfl (fun n => rfl) (fun {n X W xh sc} ok {ex} h => ?_) (fun {n X W xh sc} ok {a b d p} h => by cases h)
  match ex, h with
  | .Call (.Name x q) args [] pos, h =>
    simp only [Bool.and_eq_true, Bool.not_eq_true'] at h
    obtain ⟨⟨⟨h1, h2⟩, h3⟩, h4⟩ := h
    obtain ⟨c1, c2, c3⟩ := ok.cold h1
    subst c2
    obtain ⟨p1, p2⟩ := gb.aa ok h1 h4
    exact .plain ok.hK (ga.c ok h1 h3 p1 h2 p2) (fun _ => rfl) fun _ _ _ z => by cases z
theorem good_meth (m : Meth) : Good I mo Pr Wf (.meth m a b) := by
  refine .ofE rfl (fun n => rfl) (fun {n X W xh sc} ok {ex} h => ?_) (fun {n X W xh sc} ok {a b d p} h => by cases h)
  match ex, h with
  | .Call (.Attribute x nm apos) [y] [] cpos, h =>
    simp only [Bool.and_eq_true] at h
    obtain ⟨h1, h2⟩ := h
    cases m with
    | append =>
      simp only [Bool.and_eq_true, decide_eq_true_eq] at h2
      obtain ⟨⟨⟨⟨k1, k2⟩, k3⟩, k4⟩, k5⟩ := h2
      subst k1
      exact .plain ok.hK (e_append (ga.e ok k4).e (gb.e ok k5).e k2 h1 k3) (fun _ => rfl) fun _ _ _ z => by cases z
    | join =>
      simp only [Bool.and_eq_true, decide_eq_true_eq] at h2
      obtain ⟨⟨⟨⟨k1, k2⟩, k3⟩, k4⟩, k5⟩ := h2
      subst k1
      exact .plain ok.hK (e_join ok.hK (ga.e ok k4).e (gb.e ok k5).e k2 h1 k3) (fun _ => rfl) fun _ _ _ z => by cases z
    | split =>
      simp only [Bool.and_eq_true, decide_eq_true_eq] at h2
      obtain ⟨k1, k2⟩ := h2
      subst k1
      match a, b, x, y, k2 with
      | .k (.str s), .k (.str [c]), .Constant (.str t) j p, .Constant (.str u) k p', k2 =>
        simp only [Bool.and_eq_true, decide_eq_true_eq] at k2
        obtain ⟨⟨z1, z2⟩, z3⟩ := k2
        subst z1 z2
        exact .plain ok.hK (e_split h1 z3) (fun _ => rfl) fun _ _ _ z => by cases z
    | _ => cases h2
end
end
end PF

set_option Elab.async false
set_option linter.all false
set_option maxRecDepth 100000
set_option maxHeartbeats 1000000
/-! Each form in turn: comprehensions, lambdas, targets, what is walked, statements. -/
namespace PF
open PySem PySem.Spec PyProof.Rows L2
section
variable {I : Info} {mo : Mo} {Pr : Prog} {Wf : Nat}
section
variable {elt tg it cond : C} (ge : Good I mo Pr Wf elt) (gt : Good I mo Pr Wf tg) (gi : Good I mo Pr Wf it) (gc : Good I mo Pr Wf cond)
include ge gt gi gc
theorem comp_gl {own : List Nat} {n : Nat} {X : Cx} {W : WX} {xh : XH} {sc : Sc} (ok : ScOk I mo Pr Wf n X W xh sc) {e0 : Expr} {gs : List Comprehension} {scope : Scope} {pos : Pos} (h : (chk mo (.comp elt tg it cond own)).e sc (.ListComp e0 gs scope pos) = true) :
    GL I Wf n X W xh e0 gs scope (dn Pr Wf n (.comp elt tg it cond own)).e := by
  match gs, h with
  | [⟨tg0, iter, ifs, k⟩], h =>
    simp only [chk, exprCk, Bool.and_eq_true, Bool.or_eq_true, Bool.not_eq_true', decide_eq_true_eq] at h
    obtain ⟨⟨⟨⟨⟨⟨⟨⟨h1, h2⟩, h3⟩, h4⟩, h5⟩, h6⟩, h7⟩, h8⟩, h9⟩ := h
    subst h1
    have hot : sc.hot = true → L2H.HotC X := fun hh => ok.hotC hh (h2.resolve_left (by rw [hh]; decide))
    have bk := blk_ok h4
    have e3 : dn Pr Wf n (.comp elt tg it cond own) = exprDen (compE Wf own (dn Pr Wf n it).i (dn Pr Wf n tg).g (dn Pr Wf n cond).e (dn Pr Wf n elt).e) := rfl
    have cells : ∀ {s : Shared} {H : Hp} {C : Addr} {cl : List (Str × Addr)} {fp : List Addr}, BlkAt X s H cl fp → ScOk I mo Pr Wf n (X.blk s H scope (compEnvC scope cl C X.env) fp) W0 xh (blkSc sc scope) := fun ba => ok.blk bk.kind ba hot
    rw [← ok.eN, ← ok.es] at bk
    have H : ∀ (Fit : Cx → Heap → Prop), PIX Fit X tg0 iter (TIt I xh W (dn Pr Wf n it).i) → (∀ (pins : List (Addr × Obj)) (s : Shared) (H : Hp) (σ0 : L2.St) (env : PySem.Env) (fp : List Addr), L2.Inv X pins σ0 H s → (∀ b ∈ fp, FpOk X pins H b) → ∀ σ' H' s', L2.Inv (X.blk s H scope env fp) [] σ' H' s' → Fit (X.blk s H scope env fp) s'.heap) →
        GL I Wf n X W xh e0 [⟨tg0, iter, ifs, 0⟩] scope (dn Pr Wf n (.comp elt tg it cond own)).e := fun Fit p1 p2 => by
      refine ⟨Fit, ownP X.N own, tg0, iter, ifs, (dn Pr Wf n it).i, (dn Pr Wf n tg).g, (dn Pr Wf n cond).e, (dn Pr Wf n elt).e, rfl, ⟨ok.nd, p1, by rw [ok.eN] at bk ⊢; exact bk, p2, fun s H C cl fp ba => ?_, fun s H C cl fp ba => gc.ts (cells ba) h8, fun s H C cl fp ba => (ge.e (cells ba) h9).e, set_ne h5⟩, ?_⟩
      · rw [ok.eN, h3]
        exact gt.g (cells ba) h7
      · rw [ok.eN, h3, e3]
        rfl
    cases hh : sc.hot with
    | false => exact H Calm (.of ((gi.i ok h6).1 hh)) (fit_calm (ok.cold hh).1)
    | true => exact H Hot ((gi.i ok h6).2 hh) (fit_hot (hot hh))
theorem good_comp (own : List Nat) : Good I mo Pr Wf (.comp elt tg it cond own) := by
  refine .ofE rfl (fun n => rfl) (fun {n X W xh sc} ok {ex} h => ?_) (fun {n X W xh sc} ok {a b d p} h => comp_gl ge gt gi gc (pos := p) ok h)
  cases ex <;> first | (cases h; done) | skip
  rename_i e0 gs scope pos
  obtain ⟨Fit, own', tg', iter, ifs, j, g, c, e, rfl, L, ef⟩ := comp_gl ge gt gi gc (pos := pos) ok h
  have ef : (compE Wf own (dn Pr Wf n it).i (dn Pr Wf n tg).g (dn Pr Wf n cond).e (dn Pr Wf n elt).e) = compE Wf (own'.map (·.2)) j g c e := ef
  have := e_compX (n := Wf) (pos := pos) L
  rw [← ef] at this
  exact .plain ok.hK this (fun _ => rfl) fun _ _ _ z => by cases z
end
theorem good_hcall (f j : Nat) : Good I mo Pr Wf (.hcall f j) := by
  refine .ofE rfl (fun n => rfl) (fun {n X W xh sc} ok {ex} h => ?_) (fun {n X W xh sc} ok {a b d p} h => by cases h)
  match ex, h with
  | .Call (.Name x q) [.Name y q2] [] pos, h =>
    simp only [Bool.and_eq_true, Bool.not_eq_true', decide_eq_true_eq] at h
    obtain ⟨⟨⟨⟨h1, h2⟩, h3⟩, h4⟩, h5⟩ := h
    subst h3
    obtain ⟨k1, k2, k3, k4⟩ := ok.hotS h1 h2
    obtain ⟨g1, g2, g3⟩ := ok.gv h4
    obtain ⟨a, m1, m2⟩ := ok.mg.nf _ g2
    exact .plain ok.hK (e_hcall ok.hK k1 k2 k3 k4 m2 g1 m1 g3 (ok.var h5)) (fun _ => rfl) fun _ _ _ z => by cases z
theorem good_none {c : C} (hc : chk mo c = Ck.none) : Good I mo Pr Wf c := by
  refine ⟨fun {n X W xh sc} ok {ex} h => ?_, fun {n X W xh sc} ok {a b d p} h => ?_, fun {n X W sc} ok _ {ex} h => ?_, fun {n X W xh sc} ok {ex} h => ?_, fun {n X W sc} ok _ {x} h => ?_, fun {n X W xh sc} ok {ex} h => ?_, fun {n X W sc} ok _ {ex} h => ?_, fun {n X W xh sc} ok {o} h => ?_, fun {n X W xh sc} ok {l} h => ?_, fun {n X W xh sc} ok {a b} h => ?_, fun {n X W xh sc} ok {a b} h => ?_, fun {n X W xh sc} ok {a b} h => ?_, fun {n X W xh sc} ok {a} h => ?_, fun {n X W xh sc} ok {a} h => ?_⟩
  all_goals rw [hc] at h
  all_goals cases h
theorem filter_free {scope : Scope} {y : Str × NameKind} (h : y ∈ scope.names) (e : y.2 = .free) : y.1 ∈ (scope.names.filter fun y => decide (y.2 = .free)).map (·.1) := List.mem_map.mpr ⟨y, List.mem_filter.mpr ⟨h, decide_eq_true e⟩, rfl⟩
theorem good_lam {ps n : Nat} {b : C} {caps : List Nat} (hI : ∀ d L, lamB mo d L = true → I.lamP d L) : Good I mo Pr Wf (.lam ps n b caps) := by
  have key : ∀ {k X W xh sc}, ScOk I mo Pr Wf k X W xh sc → ∀ {a body scope pos}, (chk mo (.lam ps n b caps)).x sc (.Lambda a body scope pos) = true →
      sc.hot = false ∧ (∃ c P, LamC I X c P) ∧ X.env.qual = sc.qual ∧ argsB a = true ∧ I.lamP ⟨ps, n, b⟩ (lamI (sc.qual ++ "<lambda>") a body scope) ∧ capsB sc scope caps (lamI (sc.qual ++ "<lambda>") a body scope).fr = true := fun {k X W xh sc} ok {a body scope pos} h => by
    simp only [chk, Bool.and_eq_true, Bool.not_eq_true', decide_eq_true_eq] at h
    obtain ⟨⟨⟨⟨⟨⟨⟨h1, h2⟩, h3⟩, h4⟩, h5⟩, h6⟩, h7⟩, h8⟩ := h
    refine ⟨h1, ok.lamc h2, ok.eq h2, h3, hI _ _ ?_, h7⟩
    simp only [lamB, Bool.and_eq_true, decide_eq_true_eq]
    exact ⟨⟨⟨⟨⟨⟨h3, rfl⟩, by simp [lamI, h4]⟩, h5⟩, rfl⟩, h6⟩, h8⟩
  have hfr : ∀ {k X W xh sc}, ScOk I mo Pr Wf k X W xh sc → ∀ {a : Arguments} {body : Expr} {scope : Scope}, capsB sc scope caps (lamI (sc.qual ++ "<lambda>") a body scope).fr = true → ∀ y ∈ scope.names, y.2 = .free → X.env.scope.names.lookup y.1 = some .cell ∨ X.env.scope.names.lookup y.1 = some .free := fun {k X W xh sc} ok {a body scope} h y hy e => by
    obtain ⟨j, hj, ej⟩ := List.getElem_of_mem (filter_free hy e)
    obtain ⟨_, i, _, _, z⟩ := (caps_ok ok h).2 j y.1 (by show ((scope.names.filter fun y => decide (y.2 = .free)).map (·.1))[j]? = _; rw [List.getElem?_eq_getElem hj, ej])
    exact z
  have xx : ∀ {k X W sc}, ScOk I mo Pr Wf k X W none sc → sc.hot = false → ∀ {ex}, caps ≠ [] → (chk mo (.lam ps n b caps)).x sc ex = true → PE X ex (TA1 I X W fun ρ st => oth ((slotsAt ρ caps).map fun ds => .clo ⟨ps, n, b⟩ ds) st) := fun {k X W sc} ok hh {ex} hne h => by
    cases ex <;> first | (cases h; done) | skip
    rename_i a body scope pos
    obtain ⟨h1, ⟨c, P, L⟩, h3, h4, h5, h6⟩ := key ok (pos := pos) h
    obtain ⟨c1, c2⟩ := caps_ok ok h6
    exact a1_lam (L := lamI (sc.qual ++ "<lambda>") a body scope) h5 L (by rw [h3]; rfl) (args_def h4) (hfr ok h6) c1 c2
  have ee : caps = [] → ∀ {k X W xh sc}, ScOk I mo Pr Wf k X W xh sc → ∀ {ex}, (chk mo (.lam ps n b caps)).x sc ex = true → GE I k X W xh ex fun _ st => .ok (.lam ⟨ps, n, b⟩) st := fun hne {k X W xh sc} ok {ex} h => by
    cases ex <;> first | (cases h; done) | skip
    rename_i a body scope pos
    obtain ⟨h1, ⟨c, P, L⟩, h3, h4, h5, h6⟩ := key ok (pos := pos) h
    have c1 := (caps_ok ok h6).1
    rw [hne] at c1
    have fr0 : (lamI (sc.qual ++ "<lambda>") a body scope).fr = [] := List.length_eq_zero_iff.mp c1.symm
    refine .plain ok.hK (e_lam (L := lamI (sc.qual ++ "<lambda>") a body scope) h5 L (by rw [h3]; rfl) (args_def h4) (fun y hy e => ?_) fr0) (fun _ => rfl) fun _ _ _ z => by cases z
    have : y.1 ∈ (scope.names.filter fun y => decide (y.2 = .free)).map (·.1) := filter_free hy e
    rw [show ((scope.names.filter fun y => decide (y.2 = .free)).map (·.1)) = [] from fr0] at this
    cases this
  have toX : ∀ {sc ex}, (chk mo (.lam ps n b caps)).e sc ex = true → caps = [] ∧ (chk mo (.lam ps n b caps)).x sc ex = true := fun {sc ex} h => by
    cases ex <;> first | (cases h; done) | skip
    simp only [chk, Bool.and_eq_true, Bool.not_eq_true', decide_eq_true_eq] at h ⊢
    obtain ⟨⟨⟨⟨⟨⟨⟨⟨h0, h1⟩, h2⟩, h3⟩, h4⟩, h5⟩, h6⟩, h7⟩, h8⟩ := h
    exact ⟨h0, ⟨⟨⟨⟨⟨⟨h1, h2⟩, h3⟩, h4⟩, h5⟩, h6⟩, h7⟩, h8⟩
  refine ⟨fun {k X W xh sc} ok {ex} h => ?_, fun {n X W xh sc} ok {a b d p} h => (by cases h), fun {k X W sc} ok hh {ex} h => ?_, fun {n X W xh sc} ok {ex} h => (by cases h), fun {n X W sc} ok _ {x} h => (by cases h), fun {n X W xh sc} ok {ex} h => (by cases h), fun {n X W sc} ok _ {ex} h => (by cases h), fun {n X W xh sc} ok {o} h => (by cases h), fun {n X W xh sc} ok {l} h => (by cases h), fun {n X W xh sc} ok {a b} h => (by cases h), fun {n X W xh sc} ok {a b} h => (by cases h), fun {n X W xh sc} ok {a b} h => (by cases h), fun {n X W xh sc} ok {a} h => (by cases h), fun {n X W xh sc} ok {a} h => (by cases h)⟩
  · obtain ⟨h0, h1⟩ := toX h
    have := ee h0 ok h1
    subst h0
    exact this
  · cases hc : caps with
    | nil =>
      have := a1_val (ee hc ok h).e
      subst hc
      exact this
    | cons i is =>
      have := xx ok hh (by rw [hc]; simp) h
      subst hc
      exact this
theorem good_nil : Good I mo Pr Wf .nil := by
  refine ⟨fun {n X W xh sc} ok {ex} h => (by cases h), fun {n X W xh sc} ok {a b d p} h => (by cases h), fun {n X W sc} ok _ {ex} h => (by cases h), fun {n X W xh sc} ok {ex} h => (by cases h), fun {n X W sc} ok _ {x} h => (by cases h), fun {n X W xh sc} ok {ex} h => ?_, fun {n X W sc} ok _ {ex} h => ?_, fun {n X W xh sc} ok {o} h => (by cases h), fun {n X W xh sc} ok {l} h => (by cases h), fun {n X W xh sc} ok {a b} h => (by cases h), fun {n X W xh sc} ok {a b} h => ?_, fun {n X W xh sc} ok {a b} h => (by cases h), fun {n X W xh sc} ok {a} h => (by cases h), fun {n X W xh sc} ok {a} h => ?_⟩
  · have e : ex = [] := List.isEmpty_iff.mp h
    subst e
    exact a_nil
  · have e : ex = [] := List.isEmpty_iff.mp h
    subst e
    exact ⟨ap_nil, fun _ => rfl⟩
  · have e : b = [] := List.isEmpty_iff.mp h
    subst e
    refine ⟨gs_nil, rfl, fun ds ρ st hl => ?_⟩
    cases ds with
    | nil => exact absurd rfl hl
    | cons d ds => rfl
  · have e : a = [] := List.isEmpty_iff.mp h
    subst e
    exact ss_nil
theorem good_cons {a b : C} (ga : Good I mo Pr Wf a) (gb : Good I mo Pr Wf b) : Good I mo Pr Wf (.cons a b) := by
  refine ⟨fun {n X W xh sc} ok {ex} h => (by cases h), fun {n X W xh sc} ok {a b d p} h => (by cases h), fun {n X W sc} ok _ {ex} h => (by cases h), fun {n X W xh sc} ok {ex} h => (by cases h), fun {n X W sc} ok _ {x} h => (by cases h), fun {n X W xh sc} ok {l} h => ?_, fun {n X W sc} ok hh {l} h => ?_, fun {n X W xh sc} ok {o} h => (by cases h), fun {n X W xh sc} ok {l} h => (by cases h), fun {n X W xh sc} ok {a b} h => (by cases h), fun {n X W xh sc} ok {own l} h => ?_, fun {n X W xh sc} ok {a b} h => (by cases h), fun {n X W xh sc} ok {a} h => (by cases h), fun {n X W xh sc} ok {l} h => ?_⟩
  · cases l with
    | nil => cases h
    | cons e es =>
      simp only [chk, Bool.and_eq_true] at h
      exact a_cons (ga.e ok h.1.2).e (gb.a ok h.2) (star_eq (noStar_ne h.1.1))
  · cases l with
    | nil => cases h
    | cons e es =>
      simp only [chk, Bool.and_eq_true] at h
      exact ⟨ap_cons (ga.x ok hh h.1.2) (gb.aa ok hh h.2).1 (star_eq (noStar_ne h.1.1)), fun z => by cases z⟩
  · cases l with
    | nil => cases h
    | cons e es =>
      simp only [chk, Bool.and_eq_true] at h
      obtain ⟨g1, g2, g3⟩ := gb.gs ok h.2
      refine ⟨gs_cons (W := W) (ga.g ok h.1.2) g1 (by rw [each_ne h.1.1]; rfl), by simp [h.1.1, g2], fun ds ρ st hl => ?_⟩
      cases ds with
      | nil => rfl
      | cons d ds =>
        show noX (bnd ((dn Pr Wf n a).g d ρ st) fun ρ1 st1 => (dn Pr Wf n b).gs ds ρ1 st1) = .stuck
        cases (dn Pr Wf n a).g d ρ st with
        | ok ρ1 st1 => exact g3 ds ρ1 st1 (by simpa using hl)
        | exc x st1 => rfl
        | stuck => rfl
  · cases l with
    | nil => cases h
    | cons e es =>
      simp only [chk, Bool.and_eq_true] at h
      exact ss_cons (ga.s ok h.1) (gb.ss ok h.2)
theorem good_no : Good I mo Pr Wf .no := by
  refine ⟨fun {n X W xh sc} ok {ex} h => (by cases h), fun {n X W xh sc} ok {a b d p} h => (by cases h), fun {n X W sc} ok _ {ex} h => (by cases h), fun {n X W xh sc} ok {ex} h => (by cases h), fun {n X W sc} ok _ {x} h => (by cases h), fun {n X W xh sc} ok {ex} h => (by cases h), fun {n X W sc} ok _ {ex} h => (by cases h), fun {n X W xh sc} ok {o} h => ?_, fun {n X W xh sc} ok {l} h => (by cases h), fun {n X W xh sc} ok {a b} h => (by cases h), fun {n X W xh sc} ok {a b} h => (by cases h), fun {n X W xh sc} ok {a b} h => (by cases h), fun {n X W xh sc} ok {a} h => (by cases h), fun {n X W xh sc} ok {a} h => (by cases h)⟩
  cases o with
  | none => exact o_none
  | some e => cases h
theorem good_tn (i : Nat) : Good I mo Pr Wf (.tn i) := by
  refine .ofG rfl (fun n => rfl) fun {n X W xh sc} ok {own ex} h => ?_
  cases ex <;> first | (cases h; done) | skip
  simp only [Bool.and_eq_true, Bool.or_eq_true, decide_eq_true_eq] at h
  obtain ⟨⟨h1, h2⟩, h3⟩ := h
  rcases h3 with h3 | ⟨h3, h4⟩
  · exact g_name h2 ok.nd (ok.slot (decide_eq_true h1)) (.inl (lookB_at ok h3)) (.inr (lookB_at ok h3))
  · exact g_name h2 ok.nd (ok.slot (decide_eq_true h1)) (.inr (lookB_at ok h3)) (.inl (ok.ef _ h4))
theorem good_tt {a : C} (ga : Good I mo Pr Wf a) : Good I mo Pr Wf (.tt a) := by
  refine .ofG rfl (fun n => rfl) fun {n X W xh sc} ok {own ex} h => ?_
  cases ex <;> first | (cases h; done) | skip
  obtain ⟨g1, g2, g3⟩ := ga.gs ok h
  obtain ⟨l1, l2⟩ := each_len (env := X.env) g2
  cases hh : sc.hot with
  | false => exact g_tup ok.hK (ok.cold hh).1 g1 l1 l2 g3
  | true => exact g_tup0 ok.hK (pg_tup_hot (ok.heat hh) g1 l1 l2) g3
theorem good_tsub {a b : C} (ga : Good I mo Pr Wf a) (gb : Good I mo Pr Wf b) : Good I mo Pr Wf (.tsub a b) := by
  refine .ofG rfl (fun n => rfl) fun {n X W xh sc} ok {own ex} h => ?_
  cases ex <;> first | (cases h; done) | skip
  simp only [Bool.and_eq_true] at h
  exact g_sub (ga.e ok h.1.2).e (gb.e ok h.2).e (slice_ne h.1.1)
section
variable {a b : C} (ga : Good I mo Pr Wf a) (gb : Good I mo Pr Wf b)
include ga
theorem good_iv : Good I mo Pr Wf (.iv a) := by
  refine .ofI rfl (fun n => rfl) fun {n X W xh sc} ok {tg ex} h => ?_
  simp only [Bool.and_eq_true, Bool.not_eq_true'] at h
  exact ⟨fun _ => i_val ok.hK (ga.e ok h.2).e, fun hh => by rw [h.1] at hh; cases hh⟩
theorem good_ir1 : Good I mo Pr Wf (.ir1 a) := by
  refine .ofI rfl (fun n => rfl) fun {n X W xh sc} ok {tg ex} h => ?_
  match ex, h with
  | .Call (.Name x p) [y] [] pos, h =>
    simp only [Bool.and_eq_true, Bool.not_eq_true', decide_eq_true_eq] at h
    obtain ⟨⟨⟨⟨h1, h2⟩, h3⟩, h4⟩, h5⟩ := h
    subst h2
    have b := ok.blt h3
    exact ⟨fun _ => i_rng1 b.gl b.mg (ga.e ok h5).e h4, fun hh => by rw [h1] at hh; cases hh⟩
theorem good_ien : Good I mo Pr Wf (.ien a) := by
  refine .ofI rfl (fun n => rfl) fun {n X W xh sc} ok {tg ex} h => ?_
  match tg, ex, h with
  | .Tuple _ _ _, .Call (.Name x p) [y] [] pos, h =>
    simp only [Bool.and_eq_true, Bool.not_eq_true', decide_eq_true_eq] at h
    obtain ⟨⟨⟨⟨h1, h2⟩, h3⟩, h4⟩, h5⟩ := h
    subst h2
    have b := ok.blt h3
    exact ⟨fun _ => i_enum ok.hK b.gl b.mg (ga.e ok h5).e h4, fun hh => by rw [h1] at hh; cases hh⟩
include gb
theorem good_ir2 : Good I mo Pr Wf (.ir2 a b) := by
  refine .ofI rfl (fun n => rfl) fun {n X W xh sc} ok {tg ex} h => ?_
  match ex, h with
  | .Call (.Name x p) [y, z] [] pos, h =>
    simp only [Bool.and_eq_true, Bool.not_eq_true', decide_eq_true_eq] at h
    obtain ⟨⟨⟨⟨⟨⟨h1, h2⟩, h3⟩, h4⟩, h5⟩, h6⟩, h7⟩ := h
    subst h2
    have b := ok.blt h3
    exact ⟨fun _ => i_rng2 b.gl b.mg (ga.e ok h6).e (gb.e ok h7).e h4 h5, fun hh => by rw [h1] at hh; cases hh⟩
theorem good_izip : Good I mo Pr Wf (.izip a b) := by
  refine .ofI rfl (fun n => rfl) fun {n X W xh sc} ok {tg ex} h => ?_
  match tg, ex, h with
  | .Tuple _ _ _, .Call (.Name x p) [y, z] [] pos, h =>
    simp only [Bool.and_eq_true, Bool.not_eq_true', decide_eq_true_eq] at h
    obtain ⟨⟨⟨⟨⟨⟨h1, h2⟩, h3⟩, h4⟩, h5⟩, h6⟩, h7⟩ := h
    subst h2
    have b := ok.blt h3
    exact ⟨fun _ => i_zip ok.hK b.gl b.mg (ga.e ok h6).e (gb.e ok h7).e h4 h5, fun hh => by rw [h1] at hh; cases hh⟩
theorem good_izl : Good I mo Pr Wf (.izl a b) := by
  refine .ofI rfl (fun n => rfl) fun {n X W xh sc} ok {tg ex} h => ?_
  match tg, ex, h with
  | .Tuple _ _ _, .Call (.Name x p) [y, z] [] pos, h =>
    simp only [Bool.and_eq_true, decide_eq_true_eq] at h
    obtain ⟨⟨⟨⟨⟨⟨h1, h2⟩, h3⟩, h4⟩, h5⟩, h6⟩, h7⟩ := h
    subst h2
    have b := ok.blt h3
    exact ⟨fun hh => (by rw [h1] at hh; cases hh), fun _ => i_zl_hot ok.hK b.gl b.mg (ga.e ok h6).e (gb.e ok h7).e h4 h5⟩
end
end
end PF

set_option Elab.async false
set_option linter.all false
set_option maxRecDepth 100000
set_option maxHeartbeats 1000000
/-! Each form in turn: statements. -/
namespace PF
open PySem PySem.Spec PyProof.Rows L2
section
variable {I : Info} {mo : Mo} {Pr : Prog} {Wf : Nat}
section
variable {a b c : C} (ga : Good I mo Pr Wf a) (gb : Good I mo Pr Wf b) (gc : Good I mo Pr Wf c)
include ga
theorem good_ex : Good I mo Pr Wf (.ex a) := by
  refine .ofS rfl (fun n => rfl) fun {n X W xh sc} ok {st} h => ?_
  cases st <;> first | (cases h; done) | skip
  simp only [Bool.and_eq_true] at h
  exact s_ex (ga.e ok.toScOk h.2).e (swaps_not h.1)
theorem good_ret : Good I mo Pr Wf (.ret a) := by
  refine .ofS rfl (fun n => rfl) fun {n X W xh sc} ok {st} h => ?_
  cases st <;> first | (cases h; done) | skip
  rename_i o pos
  cases o with
  | none => cases h
  | some x => exact s_ret (ga.e ok.toScOk h).e
include gb
theorem good_asg : Good I mo Pr Wf (.asg a b) := by
  refine .ofS rfl (fun n => rfl) fun {n X W xh sc} ok {st} h => ?_
  cases st <;> first | (cases h; done) | skip
  rename_i tgs ex pos
  cases tgs with
  | nil => cases h
  | cons tg r =>
    cases r with
    | cons _ _ => cases h
    | nil =>
      dsimp only at h
      cases q : swapB sc tg ex with
      | true =>
        rw [q] at h
        dsimp only at h
        cases e1 : tnOf a with
        | none => rw [e1] at h; cases h
        | some i =>
          rw [e1] at h
          cases e2 : nmOf tg with
          | none => rw [e2] at h; cases h
          | some y =>
            rw [e2] at h
            obtain rfl := tnOf_eq e1
            obtain ⟨py, rfl⟩ := nmOf_eq e2
            simp only [Bool.and_eq_true, decide_eq_true_eq] at h
            cases ex <;> first | (cases q; done) | skip
            rename_i elt gs scope p2
            obtain ⟨Fit, own', tg', iter, ifs, j, g, c, e, rfl, L, ef⟩ := gb.l ok.toScOk h.2
            have s := s_setLcX (n := Wf) (spos := pos) (py := py) L (ok.slot (decide_eq_true h.1.1)) (lookB_at ok.toScOk h.1.2) (swap_ok ok.toScOk q)
            rw [← ef] at s
            exact s
      | false =>
        rw [q] at h
        simp only [Bool.and_eq_true] at h
        obtain ⟨⟨⟨⟨h1, h2⟩, h3⟩, h4⟩, h5⟩ := h
        exact s_asg (gb.e ok.toScOk h4).e (ga.g ok.toScOk h5) (noSwap_ok ok.toScOk q h2) (noPar_ok ok.toScOk h3) (by rw [each_ne h1]; rfl)
theorem good_whl : Good I mo Pr Wf (.whl a b) := by
  refine .ofS rfl (fun n => rfl) fun {n X W xh sc} ok {st} h => ?_
  cases st <;> first | (cases h; done) | skip
  rename_i t body els pos
  cases els with
  | cons _ _ => cases h
  | nil =>
    simp only [Bool.and_eq_true, Bool.not_eq_true'] at h
    exact s_while (ok.pas h.1.1) (ga.e ok.toScOk h.1.2).t (gb.ss ok h.2)
include gc
theorem good_iff : Good I mo Pr Wf (.iff a b c) := by
  refine .ofS rfl (fun n => rfl) fun {n X W xh sc} ok {st} h => ?_
  cases st <;> first | (cases h; done) | skip
  simp only [Bool.and_eq_true] at h
  exact s_if (ga.e ok.toScOk h.1.1).t (gb.ss ok h.1.2) (gc.ss ok h.2)
theorem good_forr : Good I mo Pr Wf (.forr a b c) := by
  refine .ofS rfl (fun n => rfl) fun {n X W xh sc} ok {st} h => ?_
  cases st <;> first | (cases h; done) | skip
  rename_i tg iter body els pos
  cases els with
  | cons _ _ => cases h
  | nil =>
    simp only [Bool.and_eq_true, Bool.not_eq_true'] at h
    obtain ⟨⟨⟨⟨h1, h2⟩, h3⟩, h4⟩, h5⟩ := h
    exact s_for (ok.pas h1) (ok.cold h1).1 ((gb.i ok.toScOk h3).1 h1) (ga.g ok.toScOk h4) (gc.ss ok h5) (set_ne h2)
end
theorem good_retN : Good I mo Pr Wf .retN := by
  refine .ofS rfl (fun n => rfl) fun {n X W xh sc} ok {st} h => ?_
  cases st <;> first | (cases h; done) | skip
  rename_i o pos
  cases o with
  | some x => cases h
  | none => exact s_retN
theorem good_pass : Good I mo Pr Wf .pass := by
  refine .ofS rfl (fun n => rfl) fun {n X W xh sc} ok {st} h => ?_
  cases st <;> first | (cases h; done) | skip
  exact s_pass
theorem good_brk : Good I mo Pr Wf .brk := by
  refine .ofS rfl (fun n => rfl) fun {n X W xh sc} ok {st} h => ?_
  cases st <;> first | (cases h; done) | skip
  exact s_brk
theorem good_raise (k : Nat) (a : C) : Good I mo Pr Wf (.raise k a) := by
  refine .ofS rfl (fun n => rfl) fun {n X W xh sc} ok {st} h => ?_
  cases st <;> first | (cases h; done) | skip
  rename_i o cause pos
  cases cause with
  | some _ => cases h
  | none =>
    simp only [Bool.and_eq_true, Bool.not_eq_true'] at h
    obtain ⟨⟨h1, h2⟩, h3⟩ := h
    obtain rfl := isNil_eq h2
    cases e : mkOf o with
    | none => rw [e] at h3; cases h3
    | some x =>
      rw [e] at h3
      obtain ⟨p, m, j, p2, p3, rfl⟩ := mkOf_eq e
      simp only [Bool.and_eq_true, decide_eq_true_eq] at h3
      obtain ⟨g1, g2, g3⟩ := ok.gv h3.1
      obtain ⟨C, m1, m2, _, _⟩ := ok.mg.cls _ _ g2
      obtain ⟨f1, f2⟩ := ok.mg.plain k h3.2
      exact s_raise (ok.cold h1).1 ok.hK ok.tk m2 f1 (f2 C m2) g1 m1 g3
theorem good_par {a : C} (ga : Good I mo Pr Wf a) (is : List Nat) : Good I mo Pr Wf (.par is a) := by
  refine .ofS rfl (fun n => rfl) fun {n X W xh sc} ok {st} h => ?_
  cases st <;> first | (cases h; done) | skip
  rename_i tgs ex pos
  cases tgs with
  | nil => cases h
  | cons tg r =>
    cases r with
    | cons _ _ => cases tg <;> cases h
    | nil =>
      cases tg <;> first | (cases h; done) | skip
      rename_i ts kt pt
      cases ex <;> first | (cases h; done) | skip
      rename_i vs kv p2
      simp only [Bool.and_eq_true, Bool.not_eq_true'] at h
      obtain ⟨⟨⟨h1, h2⟩, h3⟩, h4⟩ := h
      have pa := ga.a ok.toScOk h3
      have hl : vs.length = ts.length := by
        simp only [parB, Bool.and_eq_true] at h2
        exact beq_iff_eq.mp h2.1.1.1.1.1.2
      cases e2 : two ts with
      | some xy =>
        obtain ⟨x, y⟩ := xy
        rw [e2] at h4
        obtain ⟨px, py, rfl⟩ := two_eq e2
        have case3 : three [Expr.Name x px, Expr.Name y py] = none := rfl
        match is, h4 with
        | [i, j], h4 =>
          simp only [Bool.and_eq_true, Bool.not_eq_true', decide_eq_true_eq, decide_eq_false_iff_not] at h4
          obtain ⟨⟨⟨⟨⟨k1, k2⟩, k3⟩, k4⟩, k5⟩, k6⟩ := h4
          have hw := par_ok (k := kt) (k2 := kv) (p := pt) (p2 := p2) ok.toScOk h2 k6
          match vs, hl with
          | [u, v], _ => exact s_par2 (ok.cold h1).1 ok.nd (ok.slot (decide_eq_true k1)) (ok.slot (decide_eq_true k2)) k3 (lookB_at ok.toScOk k4) (lookB_at ok.toScOk k5) pa hw
        | [], h4 => cases h4
        | [_], h4 => cases h4
        | _ :: _ :: _ :: _, h4 => cases h4
      | none =>
        rw [e2] at h4
        dsimp only at h4
        cases e3 : three ts with
        | none => rw [e3] at h4; cases h4
        | some xyz =>
          obtain ⟨x, y, z⟩ := xyz
          rw [e3] at h4
          obtain ⟨px, py, pz, rfl⟩ := three_eq e3
          match is, h4 with
          | [i, j, k], h4 =>
            simp only [Bool.and_eq_true, Bool.not_eq_true', decide_eq_true_eq, decide_eq_false_iff_not] at h4
            obtain ⟨⟨⟨⟨⟨⟨⟨⟨⟨k1, k2⟩, k3⟩, k4⟩, k5⟩, k6⟩, k7⟩, k8⟩, k9⟩, k10⟩ := h4
            have hw := par_ok (k := kt) (k2 := kv) (p := pt) (p2 := p2) ok.toScOk h2 k10
            match vs, hl with
            | [u, v, w], _ => exact s_par3 (ok.cold h1).1 ok.nd (ok.slot (decide_eq_true k1)) (ok.slot (decide_eq_true k2)) (ok.slot (decide_eq_true k3)) k4 k5 k6 (lookB_at ok.toScOk k7) (lookB_at ok.toScOk k8) (lookB_at ok.toScOk k9) pa hw
          | [], h4 => cases h4
          | [_], h4 => cases h4
          | [_, _], h4 => cases h4
          | _ :: _ :: _ :: _ :: _, h4 => cases h4
theorem good_tryx {b h : C} (cs : List Nat) (slot : Option Nat) (gb : Good I mo Pr Wf b) (gh : Good I mo Pr Wf h) : Good I mo Pr Wf (.tryx b cs slot h) := by
  refine .ofS rfl (fun n => rfl) fun {n X W xh sc} ok {st} h => ?_
  cases st <;> first | (cases h; done) | skip
  rename_i body hs els fin pos
  cases els with
  | cons _ _ => cases h
  | nil =>
    cases fin with
    | cons _ _ => cases h
    | nil =>
      dsimp only at h
      cases eh : handOf hs with
      | none => rw [eh] at h; cases h
      | some t =>
        obtain ⟨x, y, b0, suite⟩ := t
        rw [eh] at h
        cases slot with
        | none => cases h
        | some i =>
          obtain ⟨np, p', rfl⟩ := handOf_eq eh
          simp only [Bool.and_eq_true, Bool.not_eq_true', decide_eq_true_eq] at h
          obtain ⟨⟨⟨⟨⟨⟨⟨⟨h1, h2⟩, h3⟩, h4⟩, h5⟩, h6⟩, h7⟩, h8⟩, h9⟩ := h
          obtain ⟨c1, c2, c3⟩ := ok.cold h1
          subst c2
          cases q : mo.gl.lookup x with
          | none => rw [q] at h7; cases h7
          | some gv =>
            cases gv with
            | fn _ => rw [q] at h7; cases h7
            | cst _ => rw [q] at h7; cases h7
            | nf => rw [q] at h7; cases h7
            | cls k =>
              rw [q] at h7
              have e7 : cs = mo.below k := of_decide_eq_true h7
              obtain ⟨C, m1, m2, m3, m4⟩ := ok.mg.cls _ _ q
              rw [← e7] at m3
              have gx := ok.gl h5
              have nm := ok.nm
              refine s_try ok.hK ok.stk ok.frm ok.nd (ok.slot (decide_eq_true h3)) (lookB_at ok.toScOk h4) ⟨gx, h6, .inl m1⟩ m3 ok.tk (fun W' pn xe tk pas => gb.ss ?_ h8) (fun a oe cls d pn hz hf => gh.ss ?_ h9)
              · exact ⟨⟨ok.hK, ok.eN, ok.nd, ok.es, ok.kd, ok.ef, ok.eq, ok.un, ok.mg, fun _ => ⟨c1, rfl, c3.hK, c3.hc, tk, c3.hr, c3.ok⟩, fun z => (by rw [h1] at z; cases z), fun z => (by rw [h1] at z; cases z), fun z => let ⟨c, P, L⟩ := ok.lamc z; ⟨c, P, L.code, L.tab, L.mem, L.uni⟩, nm⟩, ok.stk, ok.frm, fun _ => pas, tk, ok.all, ok.nb⟩
              · have hS : HotS (X.suite a ((a, oe) :: pn)) (some (a, cls, d)) := ⟨a, cls, d, oe, rfl, List.mem_cons_self, hz, hf, rfl⟩
                exact ⟨⟨ok.hK, ok.eN, ok.nd, ok.es, ok.kd, ok.ef, fun z => (by cases z), ok.un, ok.mg, fun z => (by cases z), fun _ pins σ H s iv => hS.hotC.at iv, fun _ _ => ⟨hS, takes0, ⟨c3.hr.dp, c3.hr.un⟩, nm⟩, fun z => (by cases z), nm⟩, ok.stk, ok.frm, fun z => (by cases z), takes0, ok.all, ok.nb⟩
end
end PF

set_option Elab.async false
set_option linter.all false
set_option maxRecDepth 100000
set_option maxHeartbeats 1000000
/-! All forms; arguments are bound. -/
namespace PF
open PySem PySem.Spec PyProof.Rows L2
section
variable {I : Info} {mo : Mo} {Pr : Prog} {Wf : Nat}
theorem good (hI : ∀ d L, lamB mo d L = true → I.lamP d L) : ∀ c : C, Good I mo Pr Wf c
  | .k d => good_k d
  | .v i => good_v i
  | .g d => good_g d
  | .gf i => good_gf i
  | .tup a => good_tup (good hI a)
  | .lst a => good_lst (good hI a)
  | .bin o a b => good_bin (good hI a) (good hI b) o
  | .neg a => good_neg (good hI a)
  | .not a => good_not (good hI a)
  | .cmp o a b => good_cmp (good hI a) (good hI b) o
  | .chain o p a b c => good_chain (good hI a) (good hI b) (good hI c) o p
  | .and a b => good_and (good hI a) (good hI b)
  | .or a b => good_or (good hI a) (good hI b)
  | .ite a b c => good_ite (good hI a) (good hI b) (good hI c)
  | .idx a b => good_idx (good hI a) (good hI b)
  | .sl a b c => good_sl (good hI a) (good hI b) (good hI c)
  | .call a b => good_call (good hI a) (good hI b)
  | .prim p a => good_prim (good hI a) p
  | .meth m a b => good_meth (good hI a) (good hI b) m
  | .isi a t => good_isi (good hI a) t
  | .comp e t i c own => good_comp (good hI e) (good hI t) (good hI i) (good hI c) own
  | .lam ps n b caps => good_lam hI
  | .attr a n => good_none rfl
  | .hcall f j => good_hcall f j
  | .nil => good_nil
  | .cons a b => good_cons (good hI a) (good hI b)
  | .no => good_no
  | .tn i => good_tn i
  | .tt a => good_tt (good hI a)
  | .tsub a b => good_tsub (good hI a) (good hI b)
  | .iv a => good_iv (good hI a)
  | .ir1 a => good_ir1 (good hI a)
  | .ir2 a b => good_ir2 (good hI a) (good hI b)
  | .ien a => good_ien (good hI a)
  | .izip a b => good_izip (good hI a) (good hI b)
  | .izl a b => good_izl (good hI a) (good hI b)
  | .asg a b => good_asg (good hI a) (good hI b)
  | .par is a => good_par (good hI a) is
  | .ex a => good_ex (good hI a)
  | .ret a => good_ret (good hI a)
  | .retN => good_retN
  | .pass => good_pass
  | .brk => good_brk
  | .iff a b c => good_iff (good hI a) (good hI b) (good hI c)
  | .forr a b c => good_forr (good hI a) (good hI b) (good hI c)
  | .whl a b => good_whl (good hI a) (good hI b)
  | .raise k a => good_raise k a
  | .tryx b cs slot h => good_tryx cs slot (good hI b) (good hI h)
end
/-! ### arguments -/
theorem zip_hit {ps : List Str} : ∀ {us : List Value}, us.length = ps.length → ∀ n ∈ ps, ((ps.zip us).lookup n).isNone = false := by
  induction ps with
  | nil => intro us _ n h; cases h
  | cons p ps ih =>
    intro us hl n h
    cases us with
    | nil => cases hl
    | cons u us =>
      rw [List.zip_cons_cons, List.lookup_cons]
      cases e : (n == p) with
      | true => rfl
      | false =>
        rcases List.mem_cons.mp h with z | z
        · subst z
          simp at e
        · exact ih (by simpa using hl) n z
theorem fm_congr {α β : Type} {f g : α → Option β} : ∀ {l : List α}, (∀ x ∈ l, f x = g x) → l.filterMap f = l.filterMap g
  | [], _ => rfl
  | a :: l, h => by
    rw [List.filterMap_cons, List.filterMap_cons, h a List.mem_cons_self, fm_congr fun x hx => h x (List.mem_cons_of_mem _ hx)]
theorem zip_fm : ∀ {ps : List Str} {us : List Value}, ps.Nodup → us.length = ps.length → (ps.filterMap fun n => ((ps.zip us).lookup n).map (n, ·)) = ps.zip us
  | [], us, _, _ => rfl
  | p :: ps, [], _, hl => by cases hl
  | p :: ps, u :: us, nd, hl => by
    have n1 := (List.nodup_cons.mp nd).1
    have ih := zip_fm (ps := ps) (us := us) (List.nodup_cons.mp nd).2 (by simpa using hl)
    rw [List.zip_cons_cons, List.filterMap_cons, List.lookup_cons]
    have e : (p == p) = true := by simp
    rw [e]
    dsimp only [Option.map]
    congr 1
    have e2 : ∀ n ∈ ps, (((p, u) :: ps.zip us).lookup n).map (n, ·) = ((ps.zip us).lookup n).map (n, ·) := fun n hn => by
      rw [List.lookup_cons]
      have : (n == p) = false := by
        have : n ≠ p := fun z => n1 (z ▸ hn)
        simpa using this
      rw [this]
    exact (fm_congr e2).trans ih
theorem bind_all {fd : FuncData} {us : List Value} (ha : argsB fd.params = true) (hd : fd.defaults = .none) (nd : (fd.params.args.map (·.arg)).Nodup) (hl : us.length = (fd.params.args.map (·.arg)).length) :
    bindArgs fd ⟨us, []⟩ = pure ((fd.params.args.map (·.arg)).zip us) := by
  simp only [argsB, Bool.and_eq_true, List.isEmpty_iff, Option.isNone_iff_eq_none] at ha
  obtain ⟨⟨⟨⟨⟨h1, h2⟩, h3⟩, h4⟩, h5⟩, h6⟩ := ha
  have hit := zip_hit hl
  have e1 : ((fd.params.args.map (·.arg)).filter fun n => (((fd.params.args.map (·.arg)).zip us).lookup n).isNone) = [] := by
    rw [List.filter_eq_nil_iff]
    intro n hn
    rw [hit n hn]
    decide
  have e2 := zip_fm nd hl
  have sq : seqItems? fd.defaults = pure none := by rw [hd]; rfl
  unfold bindArgs
  simp only [h1, h2, h3, h5, sq, List.map_nil, List.nil_append, List.append_nil, pure_bind, List.forIn_nil, hl, Nat.lt_irrefl, gt_iff_lt, decide_false, Bool.false_and, Bool.false_eq_true, if_false, Option.getD_none, Array.toList_empty, List.length_nil, Nat.zero_sub, List.drop_nil, Nat.sub_zero, List.take_length, List.drop_length, List.zip_nil_left, List.isEmpty_nil, Bool.not_true, List.zip_nil_right, e1, e2, List.take_of_length_le (Nat.le_refl _)]
  try rfl
end PF

set_option Elab.async false
set_option linter.all false
set_option maxRecDepth 100000
set_option maxHeartbeats 1000000
/-! Bodies: of lambdas, of defs, of the def that is given an error. -/
namespace PF
open PySem PySem.Spec PyProof.Rows L2

theorem room_un {n : Nat} {A : Around} (h : Room n A) : A.units + 65 < cLine := by have := h.un; omega
theorem roomH_un {n : Nat} {A : Around} (h : L2H.RoomH n A) : A.units + 65 < cLine := by have := h.un; omega
/-- a def's words -/
structure DefT where
  name : Str
  params : Arguments
  body : List Stmt
  scope : Scope
  N : List Str
  lam : Bool
def DefT.ps (t : DefT) : List Str := t.params.args.map (·.arg)
def DefT.qual (t : DefT) : Str := t.name ++ ".<locals>."
def defSc (t : DefT) (hot : Bool) : Sc := ⟨t.N, t.scope, fun _ => true, t.qual, hot, !hot && t.lam, false⟩
/-- a look at a def -/
def defB (mo : Mo) (hot : Bool) (d : Def) (t : DefT) : Bool := argsB t.params && decide (d.ps = t.params.args.length) && decide (d.n = t.N.length) && C8.scC t.N t.ps t.scope && (chk mo d.body).ss (defSc t hot) t.body

theorem RepAs.app {I : Info} {m : AH} {xh : XH} {H : Hp} : ∀ {as bs : List PF.A} {vs ws : List V}, RepAs I m xh H as vs → RepAs I m xh H bs ws → RepAs I m xh H (as ++ bs) (vs ++ ws)
  | _, _, _, _, .nil, s => s
  | _, _, _, _, .cons h r, s => .cons h (RepAs.app r s)
theorem RepDs.as {I : Info} {m : AH} {xh : XH} {H : Hp} : ∀ {ds : List D} {vs : List V}, RepDs I m H ds vs → RepAs I m xh H (ds.map PF.A.d) vs
  | _, _, .nil => .nil
  | _, _, .cons h r => .cons (.d h) (RepDs.as r)
theorem repEnv_start {I : Info} {m : AH} {xh : XH} {H : Hp} {N : List Str} {as : List PF.A} {vs : List V} {d : Def} (hn : d.n = N.length) (r : RepAs I m xh H as vs) (hle : vs.length ≤ N.length) : RepEnv I m xh H (L2.start N vs) (startD d as) := by
  have hl := r.length
  refine ⟨?_, fun i a h => ?_⟩
  · unfold L2.start startD
    simp only [List.length_append, List.length_map, List.length_replicate]
    omega
  · unfold startD at h
    unfold L2.start
    by_cases hi : i < as.length
    · rw [List.getElem?_append_left (by simpa using hi), List.getElem?_map] at h
      cases e : as[i]? with
      | none => rw [e] at h; cases h
      | some b =>
        rw [e] at h
        cases h
        obtain ⟨v, h1, h2⟩ := r.get e
        exact ⟨v, by rw [List.getElem?_append_left (by simp; omega), List.getElem?_map, h1]; rfl, h2⟩
    · rw [List.getElem?_append_right (by simpa using hi), List.getElem?_replicate] at h
      split at h <;> cases h
theorem startF_eq (N : List Str) (vs ws : List V) : NdefX.startF N vs (ws.map some) = L2.start N (vs ++ ws) := by
  unfold NdefX.startF L2.start
  rw [List.map_append, List.append_assoc, List.length_map, List.length_append, Nat.sub_sub]

section
variable {I : Info} {mo : Mo} {Pr : Prog} {Wf : Nat} {P : Program} {w : World} {mg : Str → Option Value} {base : Heap}
/-- all that is known to a depth -/
structure Lvl (I : Info) (mo : Mo) (Pr : Prog) (Wf : Nat) (P : Program) (w : World) (mg : Str → Option Value) (base : Heap) (n : Nat) : Prop where
  calls : CallsOk I Pr Wf P w mg base n
  names : NamesOk I Pr Wf P w mg base n mo.names

theorem lam_ok {n : Nat} (hI : ∀ d L, lamB mo d L = true → I.lamP d L) (hI2 : ∀ d L, I.lamP d L → lamB mo d L = true) (lv : Lvl I mo Pr Wf P w mg base n) (hM : MoOk I mo mg) {l : Def} {L : LamI} (hL : I.lamP l L) : LamOk I Pr Wf P w mg base n l L := by
  intro A outer s H f c' cl pm ctv us vs ws Q E hr e0 hf hco C hhi rv hl ⟨m, st, ds, caps, hs, rd, rc, hp⟩
  have b := hI2 l L hL
  simp only [lamB, Bool.and_eq_true, decide_eq_true_eq] at b
  obtain ⟨⟨⟨⟨⟨⟨b1, b2⟩, b3⟩, b4⟩, b5⟩, b6⟩, b7⟩ := b
  have S : NdefX.NScope L.N L.ps L.fr L.scope := NdefX.nscope_by b6
  have lim : s.heap.NoLimit := e0.mod.nolimit.keeps fun b o e => (e0.bs b o e).1
  have nd : (L.params.args.map (·.arg)).Nodup := by
    have q := S.nd.sublist (List.take_sublist (L.ps.length + L.fr.length) L.N)
    rw [S.pre] at q
    rw [← b2]
    exact (List.nodup_append.mp q).1
  have hu : us.length = (L.params.args.map (·.arg)).length := by rw [← rv.length, hl, b2]
  refine PySem.W.kla_callFunE hr.depth hf rfl S.co S.gen rfl hco ?_
  rw [bind_all (fd := PySem.W.kla_fn "<lambda>" L.qual L.params L.body L.scope cl pm (.ref c') ctv) b1 rfl nd hu]
  have par : ∀ y ∈ (L.params.args.map (·.arg)).zip us, L.scope.names.lookup y.1 = some .local := fun ⟨x, _⟩ hy => S.par x (by rw [b2]; exact (List.of_mem_zip hy).1)
  refine wpAny_pure (wpAny_newFunctionEnv S.nocell par (fun h₁ hns hsb => ⟨lim.fresh _ hsb, ?_⟩) S.kind)
  show codeAny _ _ (.expr L.body (NdefX.envF ⟨"<lambda>", L.qual, L.params, [], L.scope, cl, c'⟩ f s.heap.objs.size)) _ _
  have kp : ∀ b o, s.heap.get? b = some o → h₁.get? b = some o := fun b o e => hsb.extBut b o (Nat.ne_of_lt (Heap.lt_size e)) (Heap.get?_push_of_some _ e)
  rw [← b2] at hns
  have J := NdefX.inv_startN (CX := L2N.CX P w) (F := ⟨"<lambda>", L.qual, L.params, [], L.scope, cl, c'⟩) (f := f) (E := E) (tk := s.toks + ((L.params.args.map (·.arg)).zip us).length) S hr.hd e0 hl rv C hns kp
  have hc : CellsHi (NdefX.ncx (L2N.CX P w) P w I.K mg base L.N ⟨"<lambda>", L.qual, L.params, [], L.scope, cl, c'⟩ f A outer s H E) := fun y c e => by
    have e : cl.lookup y = some c := e
    obtain ⟨h1, h2⟩ := hhi y c e
    obtain ⟨_, v, o, ho, _⟩ := C.all y c e
    refine ⟨h1, fun z => ?_⟩
    rcases List.mem_cons.mp (show c ∈ s.heap.objs.size :: frs outer from z) with z | z
    · exact absurd (Heap.lt_size ho) (by rw [z]; exact Nat.lt_irrefl _)
    · exact h2 z
  have tk : L2N.Takes (NdefX.ncx (L2N.CX P w) P w I.K mg base L.N ⟨"<lambda>", L.qual, L.params, [], L.scope, cl, c'⟩ f A outer s H E) (fun cls d _ H => E cls d H) := L2N.takes_of rfl rfl rfl rfl
  have hr2 := hr.deeper (NdefX.envF ⟨"<lambda>", L.qual, L.params, [], L.scope, cl, c'⟩ f s.heap.objs.size)
  have ok : ScOk I mo Pr Wf n (NdefX.ncx (L2N.CX P w) P w I.K mg base L.N ⟨"<lambda>", L.qual, L.params, [], L.scope, cl, c'⟩ f A outer s H E) (fun cls d _ H => E cls d H) none (lamSc L) :=
    ⟨rfl, rfl, S.nd, rfl, S.kind, fun x h => (by cases h), fun h => (by cases h), room_un hr2, hM, fun _ => ⟨rfl, rfl, rfl, hc, tk, hr2, lv.calls⟩, fun h => (by cases h), fun h => (by cases h), fun h => (by cases h), lv.names⟩
  have G := ((good hI l.body).e ok b7).e
  have env : RepEnv I m none H (NdefX.startF L.N vs (ws.map some)) (startD l (ds.map PF.A.d ++ caps)) := by
    rw [startF_eq]
    refine repEnv_start b4 (rd.as.app rc) ?_
    have q := congrArg List.length S.pre
    have cl := C.len
    rw [List.length_take, List.length_append] at q
    rw [List.length_map] at cl
    rw [List.length_append]
    omega
  refine PySem.W.kla_codeExpr (wpAny_mono (G.run [] _ _ H Q J ⟨m, startD l (ds.map PF.A.d ++ caps), st, hs, env, hp⟩) (fun v s' hq => ?_) fun e s' hq => hq)
  obtain ⟨w', H', J', rv', q⟩ := hq
  exact ⟨w', H', J'.os, J'.bare, J'.base, J'.hok, rv', q⟩

/-- the table of a def that makes lambdas -/
def DefTab (I : Info) (mg : Str → Option Value) (base : Heap) (t : DefT) (fd : FuncData) : Prop :=
  t.lam = true → ∃ c Pt, fd.code = .ref c ∧ LamX.TabB base mg c Pt ∧ (Pt, t.qual ++ "<lambda>") ∈ I.T ∧ ∀ p ∈ I.T, p.1 = Pt → p.2 = t.qual ++ "<lambda>"
abbrev FunT (I : Info) (t : DefT) (f : Addr) (fd : FuncData) : Prop := FunD I.K t.name t.name t.params t.body t.scope [] [] f fd
theorem FunT.binds {t : DefT} {f : Addr} {fd : FuncData} (F : FunT I t f fd) (ha : argsB t.params = true) (nd : t.ps.Nodup) : Binds I.K fd t.ps [] :=
  F.bindsN fun kV doc pm an cdv ct us hl => bind_all (fd := PySem.W.fnOf t.name t.name t.params t.body t.scope .none kV doc pm an cdv ct) ha rfl nd hl

theorem endD_post {m : AH} {H : Hp} {r : SR} {Q : VK} {E : XK} {xh : XH} (h : PostR I (rD I) m H (endD r) Q E) : PostS I xh (fun cls d _ H => E cls d H) m H r { nx := fun _ H' => Q .non H', rt := Q } := by
  cases r with
  | next ρ st => exact fun m1 H1 σ1 g1 s1 e1 => h m1 H1 _ g1 s1 .non
  | ret d st => exact h
  | brk ρ st => exact h.elim
  | exc x ρ st => exact fun m1 H1 σ1 cls dd g1 s1 e1 r1 => h m1 H1 cls dd g1 s1 r1
  | stuck => exact h.elim

theorem def_ok {n i : Nat} {d : Def} {t : DefT} {f : Addr} {fd : FuncData} (hI : ∀ d L, lamB mo d L = true → I.lamP d L) (lv : Lvl I mo Pr Wf P w mg base n) (hM : MoOk I mo mg) (hd : Pr.defs[i]? = some d) (hB : defB mo false d t = true) (F : FunT I t f fd) (hT : DefTab I mg base t fd) :
    FnOk P w I.K mg base (L2N.CX P w) (n + 1) f fd t.ps (spDef I Pr Wf (n + 1) i) := by
  simp only [defB, Bool.and_eq_true, decide_eq_true_eq] at hB
  obtain ⟨⟨⟨⟨b1, b2⟩, b3⟩, b4⟩, b5⟩ := hB
  have S : FnScope t.N t.ps t.scope := C8.fnScope_by b4
  obtain ⟨oc, od, dV, kV, doc, pm, an, cdv, ct, osl, rfl, lk, hcd, _, _⟩ := F.ex
  have un : ∀ {as : List PF.A} {st : Store}, callN Pr Wf (n + 1) (.d (.fn i)) as st = if as.length = d.ps then endD ((den Wf (callN Pr Wf n) d.body).ss (startD d as) st) else .stuck := fun {as st} => by simp only [callN, hd]
  have lps : t.ps.length = d.ps := by rw [b2]; unfold DefT.ps; rw [List.length_map]
  have len : ∀ vs H Q E, spDef I Pr Wf (n + 1) i vs H Q E → vs.length = t.ps.length := fun vs H Q E h => by
    obtain ⟨m, st, as, hs, ra, hp⟩ := h
    rw [un] at hp
    split at hp
    · rename_i z
      rw [← ra.length, z, lps]
    · exact hp.elim
  refine ⟨len, fun A outer s H args us vs Q E hr e0 hb r h => ?_⟩
  refine LamX.run_ofS lk hcd S hr e0 hb r (len _ _ _ _ h) fun hr => ?_
  obtain ⟨m, st, as, hs, ra, hp⟩ := h
  rw [un] at hp
  split at hp
  · rename_i z
    have hc : CellsHi (cxOf (L2N.CX P w) P w I.K mg base t.N t.name t.scope f cdv A outer s H E) := fun y c e => by
      have e : (cellsFrom (s.heap.objs.size + 1) t.scope.names []).lookup y = some c := e
      have hge : s.heap.objs.size + 1 ≤ c := (cellsFrom_hi _ _ _ _ _ e).resolve_right (fun z => by cases z)
      have nlt : ¬ c < s.heap.objs.size := Nat.not_lt.mpr (Nat.le_of_succ_le hge)
      refine ⟨?_, fun z => ?_⟩
      · show base.get? c = none
        cases q : base.get? c with
        | none => rfl
        | some o => exact absurd (Heap.lt_size (e0.bs c o q).1) nlt
      · rcases List.mem_cons.mp (show c ∈ s.heap.objs.size :: frs outer from z) with z | z
        · rw [z] at hge
          exact absurd hge (Nat.not_succ_le_self _)
        · obtain ⟨_, o, ho, _⟩ := e0.funs.mem z
          exact absurd (Heap.lt_size ho) nlt
    have tk : L2N.Takes (cxOf (L2N.CX P w) P w I.K mg base t.N t.name t.scope f cdv A outer s H E) (fun cls d _ H => E cls d H) := L2N.takes_of rfl rfl rfl rfl
    have ok : StOk I mo Pr Wf n (cxOf (L2N.CX P w) P w I.K mg base t.N t.name t.scope f cdv A outer s H E) (fun cls d _ H => E cls d H) none (defSc t false) :=
      ⟨⟨rfl, rfl, S.nd, rfl, S.kind, fun x h => rfl, fun h => rfl, room_un hr, hM, fun _ => ⟨rfl, rfl, rfl, hc, tk, hr, lv.calls⟩, fun h => (by cases h), fun h => (by cases h), fun h => by
        obtain ⟨c, Pt, h1, h2, h3, h4⟩ := hT h
        exact ⟨c, Pt, h1, h2, h3, h4⟩, lv.names⟩, rfl, rfl, fun _ => passes_of rfl, tk, fun _ => rfl, rfl⟩
    refine ⟨_, (good hI d.body).ss ok b5, m, startD d as, st, hs, repEnv_start b3 ra ?_, endD_post hp⟩
    have q := congrArg List.length S.pre
    rw [List.length_take] at q
    rw [← ra.length, z, ← lps]
    omega
  · exact hp.elim
theorem names_ok {n : Nat} {d : Def} {t : DefT} {f : Addr} {fd : FuncData} (hI : ∀ d L, lamB mo d L = true → I.lamP d L) (nm : NamesOk I Pr Wf P w mg base n mo.names) (hM : MoOk I mo mg) (hna : I.na = some f) (hd : Pr.defs[mo.names]? = some d) (hB : defB mo true d t = true) (h1 : t.ps.length = 1) (F : FunT I t f fd) :
    NamesOk I Pr Wf P w mg base (n + 1) mo.names := by
  simp only [defB, Bool.and_eq_true, decide_eq_true_eq] at hB
  obtain ⟨⟨⟨⟨b1, b2⟩, b3⟩, b4⟩, b5⟩ := hB
  have S : FnScope t.N t.ps t.scope := C8.fnScope_by b4
  have nd : t.ps.Nodup := by rw [← S.pre]; exact S.nd.sublist (List.take_sublist _ _)
  intro f' hf'
  rw [hna] at hf'
  cases hf'
  have bd := F.binds b1 nd
  obtain ⟨oc, od, dV, kV, doc, pm, an, cdv, ct, osl, rfl, lk, hcd, _, _⟩ := F.ex
  refine ⟨_, t.ps, F.kp, bd, h1, fun A outer s H args Q E p cls dd c fs m st hr hot hpin hz hfd e0 hb hs rx hp => ?_⟩
  have un : ∀ {as : List PF.A} {st : Store}, callN Pr Wf (n + 1) (.d (.fn mo.names)) as st = if as.length = d.ps then endD ((den Wf (callN Pr Wf n) d.body).ss (startD d as) st) else .stuck := fun {as st} => by simp only [callN, hd]
  have lps : t.ps.length = d.ps := by rw [b2]; unfold DefT.ps; rw [List.length_map]
  rw [un, if_pos (by rw [← lps, h1]; rfl)] at hp
  have KX : I.K.In s.heap := e0.mod.kin.keeps fun b o e => (e0.bs b o e).1
  have lim : s.heap.NoLimit := e0.mod.nolimit.keeps fun b o e => (e0.bs b o e).1
  have hkind : ∀ y ∈ t.ps.zip [Value.ref p.1], t.scope.names.lookup y.1 = some .local ∨ (t.scope.names.lookup y.1 = some .cell ∧ ((cellsFrom (s.heap.objs.size + 1) t.scope.names []).lookup y.1).isSome = true) := fun ⟨n, v⟩ hy => by
    rcases S.par n (List.of_mem_zip hy).1 with q | q
    · exact .inl q
    · exact .inr ⟨q, PySem.W.cellsFrom_some _ _ _ (.inl q)⟩
  refine codeAny_call_function hr.depth (KX _ _ lk) rfl S.co S.gen rfl (PySem.W.codeRec_of KX hcd) (hb _ _ _ _ ?_)
  refine wpAny_newFunctionEnv_cells S.kind hkind fun env he s1 x => ?_
  subst he
  refine ⟨lim.keeps x.toInCall.keep, codeAny_func ?_⟩
  have iv : L2.Inv (L2H.cxH (L2N.CX P w) P w I.K mg base t.N t.name t.scope f cdv A outer s H E p) [] (L2.start t.N [.ref p.1]) H s1 := L2H.inv_startH S hpin e0 (by rw [h1]; rfl) (.cons rfl .nil) x
  have tk : L2N.Takes (L2H.cxH (L2N.CX P w) P w I.K mg base t.N t.name t.scope f cdv A outer s H E p) (fun cls d _ H => E cls d H) := L2N.takes_of rfl rfl rfl rfl
  have hS : HotS (L2H.cxH (L2N.CX P w) P w I.K mg base t.N t.name t.scope f cdv A outer s H E p) (some (p.1, cls, dd)) := ⟨p.1, cls, dd, p.2, rfl, List.mem_cons_self, hz, hfd, hot.1⟩
  have hr2 := hr.deeper (envOfC t.name t.scope s.heap.objs.size f cdv)
  have ok : StOk I mo Pr Wf n (L2H.cxH (L2N.CX P w) P w I.K mg base t.N t.name t.scope f cdv A outer s H E p) (fun cls d _ H => E cls d H) (some (p.1, cls, dd)) (defSc t true) :=
    ⟨⟨rfl, rfl, S.nd, rfl, S.kind, fun x h => rfl, fun h => (by cases h), roomH_un hr2, hM, fun h => (by cases h), fun _ pins σ H s iv => hS.hotC.at iv, fun _ _ => ⟨hS, tk, hr2, nm⟩, fun h => (by cases h), nm⟩, rfl, rfl, fun h => (by cases h), tk, fun _ => rfl, rfl⟩
  have ra : RepAs I m (some (p.1, cls, dd)) H [.exn c fs] [.ref p.1] := .cons (.exn rfl rx) .nil
  have ht : TSt I (some (p.1, cls, dd)) (fun cls d _ H => E cls d H) (dn Pr Wf n d.body).ss { nx := fun _ H' => Q .non H', rt := Q } (L2.start t.N [.ref p.1]) H := by
    refine ⟨m, startD d [.exn c fs], st, hs, repEnv_start b3 ra ?_, endD_post hp⟩
    have q := congrArg List.length S.pre
    rw [List.length_take] at q
    show 1 ≤ t.N.length
    omega
  refine wpAny_mono (((good hI d.body).ss ok b5).run [] s1 _ H _ iv ht) (fun fl s' hs => ?_) fun e s' hs => hs
  have fin : ∀ {σ' : L2.St} {H' : Hp} {v : V} {u : Value}, L2.Inv (L2H.cxH (L2N.CX P w) P w I.K mg base t.N t.name t.scope f cdv A outer s H E p) [] σ' H' s' → RelV v u → Q v H' → CE outer P w H s Q u s' :=
    fun {σ' H' v u} J rv q => ⟨v, H', J.os, J.bare, J.base, J.hok, rv, q⟩
  cases fl with
  | ret u =>
    obtain ⟨v, σ', H', J, rv, q⟩ := hs
    exact fin J rv q
  | next =>
    obtain ⟨σ', H', J, q⟩ := hs
    exact fin (v := V.non) (u := Value.none) J rfl q
  | brk =>
    obtain ⟨_, _, _, q⟩ := hs
    exact False.elim q
  | cont =>
    obtain ⟨_, _, _, q⟩ := hs
    exact False.elim q
/-- what is known of a text -/
structure Facts (I : Info) (mo : Mo) (Pr : Prog) (mg : Str → Option Value) (base : Heap) : Prop where
  m : MoOk I mo mg
  l1 : ∀ d L, lamB mo d L = true → I.lamP d L
  l2 : ∀ d L, I.lamP d L → lamB mo d L = true
  fn : ∀ i f, I.fa i = some f → ∃ d t fd, Pr.defs[i]? = some d ∧ defB mo false d t = true ∧ FunT I t f fd ∧ DefTab I mg base t fd
  nm : ∀ f, I.na = some f → ∃ d t fd, Pr.defs[mo.names]? = some d ∧ defB mo true d t = true ∧ t.ps.length = 1 ∧ FunT I t f fd
theorem defB_nd {hot : Bool} {d : Def} {t : DefT} (h : defB mo hot d t = true) : argsB t.params = true ∧ t.ps.Nodup := by
  simp only [defB, Bool.and_eq_true, decide_eq_true_eq] at h
  have S : FnScope t.N t.ps t.scope := C8.fnScope_by h.1.2
  exact ⟨h.1.1.1.1, by rw [← S.pre]; exact S.nd.sublist (List.take_sublist _ _)⟩
theorem lvl (fc : Facts I mo Pr mg base) : ∀ n, Lvl I mo Pr Wf P w mg base n
  | 0 => by
    refine ⟨⟨fun i f hf => ?_, fun k e => (by cases e)⟩, fun f hf => ?_⟩
    · obtain ⟨d, t, fd, h1, h2, h3, h4⟩ := fc.fn i f hf
      refine ⟨fd, t.ps, ⟨fun vs H Q E h => ?_, fun A outer s H args us vs Q E hr e0 hb r h => ?_⟩, h3.binds (defB_nd h2).1 (defB_nd h2).2, h3.kp⟩
      all_goals
        obtain ⟨m, st, as, _, _, hp⟩ := h
        exact hp.elim
    · obtain ⟨d, t, fd, h1, h2, h5, h3⟩ := fc.nm f hf
      exact ⟨fd, t.ps, h3.kp, h3.binds (defB_nd h2).1 (defB_nd h2).2, h5, fun A outer s H args Q E p cls dd c fs m st hr hot hpin hz hfd e0 hb hs rx hp => hp.elim⟩
  | n + 1 => by
    have lv := lvl fc n
    refine ⟨⟨fun i f hf => ?_, fun k e l L hL => ?_⟩, fun f hf => ?_⟩
    · obtain ⟨d, t, fd, h1, h2, h3, h4⟩ := fc.fn i f hf
      exact ⟨fd, t.ps, def_ok fc.l1 lv fc.m h1 h2 h3 h4, h3.binds (defB_nd h2).1 (defB_nd h2).2, h3.kp⟩
    · cases e
      refine ⟨lam_ok fc.l1 fc.l2 lv fc.m hL, ?_⟩
      have b := fc.l2 l L hL
      simp only [lamB, Bool.and_eq_true, decide_eq_true_eq] at b
      exact b.1.1.1.1.2
    · obtain ⟨d, t, fd, h1, h2, h5, h3⟩ := fc.nm f hf
      exact names_ok fc.l1 lv.names fc.m hf h1 h2 h5 h3 f hf
end
end PF

set_option Elab.async false
set_option linter.all false
set_option maxRecDepth 100000
set_option maxHeartbeats 1000000
/-! The facts of a law's text from its head; the law's end. -/
namespace PF
open PySem PySem.Spec PyProof.Rows L2

/-- a law's text in our words -/
structure Txt where
  prog : Prog
  dts : List (Str × Nat × List Str × Bool)
  names : Nat
  cls : List Str
  below : List (List Nat)
  plain : List Nat
  cst : List (Str × Kst)
  no : List Str
def topOf (P : Program) (i : Nat) : Stmt := P.main.body.getD i (.Pass ⟨0, 0, 0, 0⟩)
def dtOf (P : Program) (x : Str × Nat × List Str × Bool) : DefT := ⟨x.1, defArgs (topOf P x.2.1), defBody (topOf P x.2.1), defScope (topOf P x.2.1), x.2.2.1, x.2.2.2⟩
def ddOf (P : Program) (x : Str × Nat × List Str × Bool) : He.DefD := ⟨(x.1, none), x.1, x.1, defArgs (topOf P x.2.1), defBody (topOf P x.2.1), defScope (topOf P x.2.1), [], []⟩
def cstFa : Str × Kst → He.Fa
  | (x, .int i) => .int x i
  | (x, .str s) => .str x ⟨s.toArray⟩
  | (x, _) => .glo x
def isIS : Kst → Bool
  | .int _ => true
  | .str _ => true
  | _ => false
namespace Txt
variable (t : Txt)
def gl : List (Str × GV) := (t.dts.zipIdx.map fun p => (p.1.1, if p.2 = t.names then GV.nf else GV.fn p.2)) ++ ((t.cls.zipIdx.map fun p => (p.1, GV.cls p.2)) ++ t.cst.map fun p => (p.1, GV.cst p.2))
def mo : Mo := ⟨t.gl, t.no, fun c => t.below.getD c [], t.plain, t.names⟩
def fa : List He.Fa := (t.dts.map fun x => He.Fa.glo x.1) ++ ((t.cls.map fun x => He.Fa.glo x) ++ ((t.no.map fun x => He.Fa.free x) ++ ((t.cst.map cstFa) ++ t.plain.map fun c => He.Fa.exc (t.cls.getD c ""))))
def fn (P : Program) : List He.DefD := t.dts.map (ddOf P)
def lamD : List (Str × Nat × List Str × Bool) := t.dts.filter (·.2.2.2)
def tf : List He.Defn := t.lamD.map fun x => (x.1, none)
end Txt
def excB (K : PySem.W.Frag) (D : Addr) : Bool :=
  He.eqO (PySem.W.findIn K (.ref D) "__getattribute__") (some (some (.builtin "BaseException.__getattribute__"))) && (He.eqO (PySem.W.findIn K (.ref D) "__getattr__") (some none) && (decide (PySem.W.subIn K (.ref D) (.type "BaseException") = some true) && (PySem.W.hasDictIn K D &&
    (He.eqO (PySem.W.findIn K (.ref D) "__class__") (some (some (.builtin "object.__class__"))) && (He.eqO (PySem.W.specialIn K (.builtin "object.__class__") "__get__") (some (some (.builtin "getset_descriptor.__get__"))) && (decide (PySem.W.takesIn K (.builtin "object.__class__") = some true) && decide (PySem.W.mroIn K D (.type "object") = some true)))))))
theorem excB_ok {K : PySem.W.Frag} {D : Addr} (h : excB K D = true) : ExcC K D := by
  simp only [excB, Bool.and_eq_true] at h
  obtain ⟨h1, h2, h3, h4, h5, h6, h7, h8⟩ := h
  exact ⟨He.eqO_ok h1, He.eqO_ok h2, of_decide_eq_true h3, h4, He.eqO_ok h5, He.eqO_ok h6, of_decide_eq_true h7, of_decide_eq_true h8⟩
def noDup : List Addr → Bool
  | [] => true
  | a :: r => !r.contains a && noDup r
theorem noDup_ok : ∀ {l : List Addr} {i j : Nat} {a : Addr}, noDup l = true → l[i]? = some a → l[j]? = some a → i = j
  | [], _, _, _, _, h, _ => by simp at h
  | b :: r, 0, 0, _, _, _, _ => rfl
  | b :: r, 0, j + 1, a, h, h1, h2 => by
    simp only [noDup, Bool.and_eq_true, Bool.not_eq_true'] at h
    simp at h1 h2
    subst h1
    have := List.mem_of_getElem? h2
    rw [List.contains_eq_mem, decide_eq_false_iff_not] at h
    exact absurd this h.1
  | b :: r, i + 1, 0, a, h, h1, h2 => by
    simp only [noDup, Bool.and_eq_true, Bool.not_eq_true'] at h
    simp at h1 h2
    subst h2
    have := List.mem_of_getElem? h1
    rw [List.contains_eq_mem, decide_eq_false_iff_not] at h
    exact absurd this h.1
  | b :: r, i + 1, j + 1, a, h, h1, h2 => by
    simp only [noDup, Bool.and_eq_true] at h
    rw [noDup_ok (l := r) (i := i) (j := j) h.2 (by simpa using h1) (by simpa using h2)]
def clsB (K : PySem.W.Frag) (cls : List Str) (below : List (List Nat)) : Bool :=
  cls.zipIdx.all fun x => excB K (He.ga K x.1) && (decide (PySem.W.kitOne K (.ref (He.ga K x.1)) (.type "ValueError") = some true) &&
    cls.zipIdx.all fun y => decide (PySem.W.exmOne K (.ref (He.ga K x.1)) (.ref (He.ga K y.1)) = some ((below.getD y.2 []).contains x.2)) && decide (PySem.W.kitOne K (.ref (He.ga K x.1)) (.ref (He.ga K y.1)) = some ((below.getD y.2 []).contains x.2)))
namespace Txt
variable (t : Txt)
def ex (K : PySem.W.Frag) : Bool := (t.cst.all fun p => isIS p.2) && clsB K t.cls t.below && noDup (t.tf.map fun p => (He.cT K p).2)
def info (K : PySem.W.Frag) : Info where
  K := K
  fa := fun i => if i = t.names then none else (t.dts[i]?).map fun x => He.ga K x.1
  ca := fun c => (t.cls[c]?).map (He.ga K)
  fld := fun _ => none
  lamP := fun d L => lamB t.mo d L = true
  T := t.lamD.map fun x => ((He.cT K (x.1, none)).2, x.1 ++ ".<locals>." ++ "<lambda>")
  na := (t.dts[t.names]?).map fun x => He.ga K x.1
/-- the look at all defs -/
def lookB (P : Program) : Bool := t.dts.zipIdx.all fun p => match t.prog.defs[p.2]? with
  | some d => defB t.mo (decide (p.2 = t.names)) d (dtOf P p.1) && (!decide (p.2 = t.names) || decide ((dtOf P p.1).ps.length = 1))
  | none => false
end Txt
section
variable {t : Txt} {P : Program} {w : World} {K : PySem.W.Frag} {h : Heap} {mg : Str → Option Value} {base : Heap}
theorem isiOk {k : Nat} {y : Str} (hy : t.cls[k]? = some y) (hc : clsB K t.cls t.below = true) : IsiOk (t.info K) (.own k (t.mo.below k)) (.ref (He.ga K y)) ∧ ExmOk (t.info K) (.ref (He.ga K y)) (t.mo.below k) := by
  have at_ : ∀ {j : Nat} {x : Str}, t.cls[j]? = some x → excB K (He.ga K x) = true ∧ PySem.W.exmOne K (.ref (He.ga K x)) (.ref (He.ga K y)) = some ((t.mo.below k).contains j) ∧ PySem.W.kitOne K (.ref (He.ga K x)) (.ref (He.ga K y)) = some ((t.mo.below k).contains j) := fun {j x} hx => by
    have a := List.all_eq_true.mp hc (x, j) (List.mem_zipIdx_iff_getElem?.mpr hx)
    simp only [Bool.and_eq_true] at a
    have b := List.all_eq_true.mp a.2.2 (y, k) (List.mem_zipIdx_iff_getElem?.mpr hy)
    simp only [Bool.and_eq_true, decide_eq_true_eq] at b
    exact ⟨a.1, b.1, b.2⟩
  have ca : ∀ {j : Nat} {D : Addr}, (t.info K).ca j = some D → ∃ x, t.cls[j]? = some x ∧ D = He.ga K x := fun {j D} e => by
    have e : (t.cls[j]?).map (He.ga K) = some D := e
    cases q : t.cls[j]? with
    | none => rw [q] at e; cases e
    | some x => rw [q] at e; cases e; exact ⟨x, rfl, rfl⟩
  refine ⟨⟨fun j D e _ => ?_, fun j D b e hb => ?_, fun j => .inl rfl⟩, fun j D e => ?_⟩
  · obtain ⟨x, h1, rfl⟩ := ca e
    exact excB_ok (at_ h1).1
  · obtain ⟨x, h1, rfl⟩ := ca e
    have hb : some ((t.mo.below k).contains j) = some b := hb
    rw [← hb]
    exact (at_ h1).2.2
  · obtain ⟨x, h1, rfl⟩ := ca e
    exact (at_ h1).2.1
theorem valeOk (hc : clsB K t.cls t.below = true) : IsiOk (t.info K) .vale (.type "ValueError") := by
  have at_ : ∀ {j : Nat} {D : Addr}, (t.info K).ca j = some D → excB K D = true ∧ PySem.W.kitOne K (.ref D) (.type "ValueError") = some true := fun {j D} e => by
    have e : (t.cls[j]?).map (He.ga K) = some D := e
    cases q : t.cls[j]? with
    | none => rw [q] at e; cases e
    | some x =>
      rw [q] at e
      cases e
      have a := List.all_eq_true.mp hc (x, j) (List.mem_zipIdx_iff_getElem?.mpr q)
      simp only [Bool.and_eq_true, decide_eq_true_eq] at a
      exact ⟨a.1, a.2.1⟩
  refine ⟨fun j D e _ => excB_ok (at_ e).1, fun j D b e hb => ?_, fun j => .inl rfl⟩
  have hb : some true = some b := hb
  cases hb
  exact (at_ e).2
theorem gl_fn {x : Str} {v : GV} (e : t.gl.lookup x = some v) : (∃ i p, t.dts[i]? = some p ∧ p.1 = x ∧ v = if i = t.names then GV.nf else GV.fn i) ∨ (∃ c, t.cls[c]? = some x ∧ v = .cls c) ∨ ∃ k, (x, k) ∈ t.cst ∧ v = .cst k := by
  rcases List.mem_append.mp (PySem.mem_of_lookup e) with z | z
  · obtain ⟨⟨p, i⟩, h1, h2⟩ := List.mem_map.mp z
    cases h2
    exact .inl ⟨i, p, List.mem_zipIdx_iff_getElem?.mp h1, rfl, rfl⟩
  · rcases List.mem_append.mp z with z | z
    · obtain ⟨⟨p, i⟩, h1, h2⟩ := List.mem_map.mp z
      cases h2
      exact .inr (.inl ⟨i, List.mem_zipIdx_iff_getElem?.mp h1, rfl⟩)
    · obtain ⟨⟨p, k⟩, h1, h2⟩ := List.mem_map.mp z
      cases h2
      exact .inr (.inr ⟨k, h1, rfl⟩)
theorem moOk (X : K.In h) (G : h.Ns mainGlobals mg) (c : He.SaysD t.fa (t.fn P) K) (hc : clsB K t.cls t.below = true) (hk : (t.cst.all fun p => isIS p.2) = true) : MoOk (t.info K) t.mo mg := by
  have fD : ∀ {p}, p ∈ t.dts → mg p.1 = some (.ref (He.ga K p.1)) := fun {p} hp => He.glo_ok X G (c.facts (List.mem_append_left _ (List.mem_map.mpr ⟨p, hp, rfl⟩)))
  have fC : ∀ {x}, x ∈ t.cls → mg x = some (.ref (He.ga K x)) := fun {x} hp => He.glo_ok X G (c.facts (List.mem_append_right _ (List.mem_append_left _ (List.mem_map.mpr ⟨x, hp, rfl⟩))))
  have fN : ∀ {x}, x ∈ t.no → mg x = none := fun {x} hp => He.free_ok X G (c.facts (List.mem_append_right _ (List.mem_append_right _ (List.mem_append_left _ (List.mem_map.mpr ⟨x, hp, rfl⟩)))))
  have fK : ∀ {x k}, (x, k) ∈ t.cst → (cstFa (x, k)).ok K = true := fun {x k} hp => c.facts (List.mem_append_right _ (List.mem_append_right _ (List.mem_append_right _ (List.mem_append_left _ (List.mem_map.mpr ⟨(x, k), hp, rfl⟩)))))
  have fP : ∀ {k}, k ∈ t.plain → (He.Fa.exc (t.cls.getD k "")).ok K = true := fun {k} hp => c.facts (List.mem_append_right _ (List.mem_append_right _ (List.mem_append_right _ (List.mem_append_right _ (List.mem_map.mpr ⟨k, hp, rfl⟩)))))
  refine ⟨fun x i e => ?_, fun x d e => ?_, fun x k e => ?_, fun k hk => ?_, fun x hx => fN hx, valeOk hc, fun x e => ?_⟩
  · rcases gl_fn e with ⟨j, p, h1, h2, h3⟩ | ⟨j, h1, h2⟩ | ⟨k, h1, h2⟩
    · split at h3
      · cases h3
      · rename_i hj
        cases h3
        subst h2
        refine ⟨He.ga K p.1, fD (List.mem_of_getElem? h1), ?_⟩
        show (if i = t.names then none else (t.dts[i]?).map fun x => He.ga K x.1) = _
        rw [if_neg hj, h1]
        rfl
    · cases h2
    · cases h2
  · rcases gl_fn e with ⟨j, p, h1, h2, h3⟩ | ⟨j, h1, h2⟩ | ⟨k, h1, h2⟩
    · split at h3 <;> cases h3
    · cases h2
    · cases h2
      have a := fK h1
      cases d with
      | int i =>
        obtain ⟨tk, e⟩ := He.int_ok X G a
        exact ⟨_, .int i, e, ⟨tk, rfl⟩, fun m H => .int i⟩
      | str s =>
        obtain ⟨tk, e⟩ := He.str_ok X G a
        exact ⟨_, .str ⟨s.toArray⟩, e, ⟨tk, rfl⟩, fun m H => .str s⟩
      | non => exact absurd (List.all_eq_true.mp hk _ h1) (by intro z; cases z)
      | bl b => exact absurd (List.all_eq_true.mp hk _ h1) (by intro z; cases z)
  · rcases gl_fn e with ⟨j, p, h1, h2, h3⟩ | ⟨j, h1, h2⟩ | ⟨k, h1, h2⟩
    · split at h3 <;> cases h3
    · cases h2
      refine ⟨He.ga K x, fC (List.mem_of_getElem? h1), ?_, (isiOk h1 hc).2, (isiOk h1 hc).1⟩
      show (t.cls[k]?).map (He.ga K) = _
      rw [h1]
      rfl
    · cases h2
  · refine ⟨rfl, fun C e => ?_⟩
    have e : (t.cls[k]?).map (He.ga K) = some C := e
    cases q : t.cls[k]? with
    | none => rw [q] at e; cases e
    | some x =>
      rw [q] at e
      cases e
      have a := fP hk
      rw [List.getD_eq_getElem?_getD, q] at a
      obtain ⟨a1, a2, a3, a4⟩ := He.exc_ok a
      exact ⟨⟨_, _, _, _, PySem.F.excBase_ValueError, a1⟩, a2, a3, a4⟩
  · rcases gl_fn e with ⟨j, p, h1, h2, h3⟩ | ⟨j, h1, h2⟩ | ⟨k, h1, h2⟩
    · split at h3
      · rename_i hj
        subst h2
        refine ⟨He.ga K p.1, fD (List.mem_of_getElem? h1), ?_⟩
        show (t.dts[t.names]?).map (fun x => He.ga K x.1) = _
        rw [← hj, h1]
        rfl
      · cases h3
    · cases h2
    · cases h2
theorem tabOk {i : Nat} {p : Str × Nat × List Str × Bool} {fd : FuncData} (q : t.dts[i]? = some p) (hn : noDup (t.tf.map fun p => (He.cT K p).2) = true) (hT : ∀ p ∈ t.tf.map (He.cT K), LamX.TabB base mg p.1 p.2) (F : FunT (t.info K) (dtOf P p) (He.ga K p.1) fd) : DefTab (t.info K) mg base (dtOf P p) fd := by
  intro hlam
  have hlam : p.2.2.2 = true := hlam
  have pm : p ∈ t.lamD := List.mem_filter.mpr ⟨List.mem_of_getElem? q, hlam⟩
  obtain ⟨oc, od, dV, kV, doc, pm', an, cdv, ct, osl, rfl, lk, hcd, _, _⟩ := F.ex
  obtain ⟨cc, rfl⟩ := He.codeIn_ref hcd
  have ec : He.codeOf K (p.1, none) = cc := He.codeOf_eq (p := (p.1, none)) lk rfl
  have tb := hT (He.cT K (p.1, none)) (List.mem_map.mpr ⟨(p.1, none), List.mem_map.mpr ⟨p, pm, rfl⟩, rfl⟩)
  refine ⟨cc, (He.cT K (p.1, none)).2, rfl, ?_, List.mem_map.mpr ⟨p, pm, rfl⟩, fun z hz e => ?_⟩
  · have : (He.cT K (p.1, none)).1 = cc := ec
    rw [← this]
    exact tb
  · obtain ⟨r, hr, rfl⟩ := List.mem_map.mp hz
    obtain ⟨i1, hi1, e1⟩ := List.getElem_of_mem hr
    obtain ⟨i2, hi2, e2⟩ := List.getElem_of_mem pm
    have l1 : (t.tf.map fun p => (He.cT K p).2)[i1]? = some (He.cT K (p.1, none)).2 := by
      unfold Txt.tf
      rw [List.map_map, List.getElem?_map, List.getElem?_eq_getElem hi1, e1]
      exact congrArg some e
    have l2 : (t.tf.map fun p => (He.cT K p).2)[i2]? = some (He.cT K (p.1, none)).2 := by
      unfold Txt.tf
      rw [List.map_map, List.getElem?_map, List.getElem?_eq_getElem hi2, e2]
      rfl
    have ei := noDup_ok hn l1 l2
    subst ei
    have er : r = p := by rw [← e1, ← e2]
    rw [er]
    rfl
/-- all facts -/
theorem facts (X : K.In h) (G : h.Ns mainGlobals mg) (c : He.SaysD t.fa (t.fn P) K) (hx : t.ex K = true) (hl : t.lookB P = true) (hT : ∀ p ∈ t.tf.map (He.cT K), LamX.TabB base mg p.1 p.2) : Facts (t.info K) t.mo t.prog mg base := by
  simp only [Txt.ex, Bool.and_eq_true] at hx
  obtain ⟨⟨hk, hc⟩, hn⟩ := hx
  have at_ : ∀ {i : Nat} {p}, t.dts[i]? = some p → ∃ d fd, t.prog.defs[i]? = some d ∧ defB t.mo (decide (i = t.names)) d (dtOf P p) = true ∧ (i = t.names → (dtOf P p).ps.length = 1) ∧ FunT (t.info K) (dtOf P p) (He.ga K p.1) fd := fun {i p} hp => by
    have a := List.all_eq_true.mp hl (p, i) (List.mem_zipIdx_iff_getElem?.mpr hp)
    obtain ⟨fd, F⟩ := c.defs (d := ddOf P p) (List.mem_map.mpr ⟨p, List.mem_of_getElem? hp, rfl⟩)
    dsimp only at a
    cases q : t.prog.defs[i]? with
    | none => rw [q] at a; cases a
    | some d =>
      rw [q] at a
      simp only [Bool.and_eq_true, Bool.or_eq_true, Bool.not_eq_true', decide_eq_true_eq, decide_eq_false_iff_not] at a
      exact ⟨d, fd, rfl, a.1, fun e => a.2.resolve_left (fun z => z e), F⟩
  refine ⟨moOk X G c hc hk, fun d L h => h, fun d L h => h, fun i f hf => ?_, fun f hf => ?_⟩
  · have hf : (if i = t.names then none else (t.dts[i]?).map fun x => He.ga K x.1) = some f := hf
    split at hf
    · cases hf
    · rename_i hi
      cases q : t.dts[i]? with
      | none => rw [q] at hf; cases hf
      | some p =>
        rw [q] at hf
        cases hf
        obtain ⟨d, fd, h1, h2, h3, F⟩ := at_ q
        rw [decide_eq_false hi] at h2
        exact ⟨d, dtOf P p, fd, h1, h2, F, tabOk q hn hT F⟩
  · have hf : (t.dts[t.names]?).map (fun x => He.ga K x.1) = some f := hf
    cases q : t.dts[t.names]? with
    | none => rw [q] at hf; cases hf
    | some p =>
      rw [q] at hf
      cases hf
      obtain ⟨d, fd, h1, h2, h3, F⟩ := at_ q
      rw [decide_eq_true rfl] at h2
      exact ⟨d, dtOf P p, fd, h1, h2, h3 rfl, F⟩
/-- the script as it may stand -/
def ScrAt (ns : List Int) (a : PF.A) (st : Store) : Prop := (a = .d (.rol (ns.map D.int)) ∧ st = []) ∨ (a = .d (.loc 0) ∧ st = [.lst (ns.map D.int)])
theorem rep_ints {I : Info} {m : AH} {H : Hp} : ∀ ns : List Int, RepDs I m H (ns.map D.int) (ns.map V.int)
  | [] => .nil
  | n :: r => .cons (.int n) (rep_ints r)
/-- the law's end -/
theorem law_at {l : PySem.W.OpenLaw} {W : Nat} {n ix : Nat} {p : Str × Nat × List Str × Bool} {x : Str} (hP : l.prog = P) (X : K.In h) (G : h.Ns mainGlobals mg) (c : He.SaysX t.fa (t.fn P) [] t.tf t.ex w h K) (hl : t.lookB P = true)
    (hix : t.dts[ix]? = some p) (hnm : ix ≠ t.names) (hps : (dtOf P p).ps = [x]) (hab : argsB (dtOf P p).params = true)
    (pure_ : ∀ (ns : List Int) (a : PF.A) (st : Store), ns.length ≤ 63 → (∀ z ∈ ns, Builtin.Int.intBits z ≤ 1048576) → ScrAt ns a st → ∃ st', callN t.prog W (n + 1) (.d (.fn ix)) [a] st = .ok (.bl true) st') :
    LamX.LawAtS l w K (L2N.CX P w) (n + 1) 63 x mg (He.ga K p.1) h := by
  subst hP
  obtain ⟨fd, F⟩ := c.t.d.defs (d := ddOf l.prog p) (List.mem_map.mpr ⟨p, List.mem_of_getElem? hix, rfl⟩)
  have F : FunT (t.info K) (dtOf l.prog p) (He.ga K p.1) fd := F
  have hfa : (t.info K).fa ix = some (He.ga K p.1) := by
    show (if ix = t.names then none else (t.dts[ix]?).map fun x => He.ga K x.1) = _
    rw [if_neg hnm, hix]
    rfl
  have nd : (dtOf l.prog p).ps.Nodup := by rw [hps]; simp
  refine ⟨fd, t.tf.map (He.cT K), spDef (t.info K) t.prog W (n + 1) ix, fun q hq => ?_, fun q hq => ?_, fun q hq => ?_, fun s u => ?_, fun H a ns hn hb hT hS => ?_, fun base KB GB TB => ?_⟩
  · obtain ⟨d, hd, rfl⟩ := List.mem_map.mp hq
    exact c.empty d hd
  · obtain ⟨d, hd, rfl⟩ := List.mem_map.mp hq
    exact c.out d hd
  · obtain ⟨d, hd, rfl⟩ := List.mem_map.mp hq
    exact PySem.W.codeHd_of_K X (c.hd d hd)
  · have b := FunD.bindsA (ps := (dtOf l.prog p).ps) F (fun kV doc pm an cdv ct us hl => bind_all (fd := PySem.W.fnOf (dtOf l.prog p).name (dtOf l.prog p).name (dtOf l.prog p).params (dtOf l.prog p).body (dtOf l.prog p).scope .none kV doc pm an cdv ct) hab rfl nd hl) s [u] (by rw [hps]; rfl)
    rw [hps] at b
    exact b
  · have tb : ∀ {m : AH} {st : Store}, LamX.Tabs (t.info K).T H := fun {m st} q hq => by
      obtain ⟨r, hr, rfl⟩ := List.mem_map.mp hq
      refine ⟨#[], hT (He.cT K (r.1, none)) (List.mem_map.mpr ⟨(r.1, none), List.mem_map.mpr ⟨r, hr, rfl⟩, rfl⟩), True.intro, fun pos cv hc => ?_⟩
      have z : codeAmong pos [] = some cv := hc
      simp [codeAmong] at z
    have go : ∀ (m : AH) (st : Store) (d : D), RepSt (t.info K) m H st → RepD (t.info K) m H d (.ref a) → ScrAt ns (.d d) st → spDef (t.info K) t.prog W (n + 1) ix [.ref a] H (fun v _ => v = .bl true) fun _ _ _ => False := fun m st d hs hd hsc => by
      obtain ⟨st', e⟩ := pure_ ns (.d d) st hn hb hsc
      refine ⟨m, st, [.d d], hs, .cons (.d hd) .nil, ?_⟩
      rw [e]
      intro m1 H1 b _ _ r
      cases r
      rfl
    have case1 : SqR K H a (ns.map V.int) → spDef (t.info K) t.prog W (n + 1) ix [.ref a] H (fun v _ => v = .bl true) fun _ _ _ => False := fun z =>
      go [] [] (.rol (ns.map D.int)) ⟨rfl, List.nodup_nil, fun n a ds h1 => (by simp at h1), tb (m := []) (st := [])⟩ (.rol z (rep_ints ns)) (.inl ⟨rfl, rfl⟩)
    rcases hS with (z | z) | z
    · refine go [a] [.lst (ns.map D.int)] (.loc 0) ⟨rfl, by simp, fun n b ds h1 h2 => ?_, tb (m := []) (st := [])⟩ (.loc rfl) (.inr ⟨rfl, rfl⟩)
      cases n with
      | zero =>
        cases h1
        cases h2
        exact ⟨_, z, rep_ints ns⟩
      | succ n => simp at h1
    · exact case1 (.inl z)
    · exact case1 (.inr z)
  · have fc := facts KB GB c.t.d c.more hl TB
    have a := List.all_eq_true.mp hl (p, ix) (List.mem_zipIdx_iff_getElem?.mpr hix)
    dsimp only at a
    cases q : t.prog.defs[ix]? with
    | none => rw [q] at a; cases a
    | some d =>
      rw [q] at a
      simp only [Bool.and_eq_true, decide_eq_false hnm] at a
      have hn := c.more
      simp only [Txt.ex, Bool.and_eq_true] at hn
      have hT : DefTab (t.info K) mg base (dtOf l.prog p) fd := tabOk hix hn.2 TB F
      have z := def_ok (P := l.prog) (w := w) (Wf := W) fc.l1 (lvl fc n) fc.m q a.1 F hT
      rw [hps] at z
      exact z
end
end PF

set_option Elab.async false
set_option linter.all false
set_option maxRecDepth 100000
/-! The pure form: what holds behind it. -/
namespace PF
section
variable {α β : Type}
/-- behind a result: Q; behind an error: E -/
def wp (m : Res α) (Q : α → Store → Prop) (E : Xn → Store → Prop) : Prop :=
  match m with
  | .ok a st => Q a st
  | .exc x st => E x st
  | .stuck => False
def wpS (r : SR) (N : Env → Store → Prop) (R : D → Store → Prop) (B : Env → Store → Prop) (E : Xn → Store → Prop) : Prop :=
  match r with
  | .next ρ st => N ρ st
  | .ret d st => R d st
  | .brk ρ st => B ρ st
  | .exc x _ st => E x st
  | .stuck => False
variable {Q : α → Store → Prop} {Q' : β → Store → Prop} {E : Xn → Store → Prop} {N B : Env → Store → Prop} {R : D → Store → Prop}
theorem wp_ok (a : α) (st : Store) : wp (.ok a st) Q E = Q a st := rfl
theorem wp_exc (x : Xn) (st : Store) : wp (.exc x st : Res α) Q E = E x st := rfl
theorem wp_stuck : wp (.stuck : Res α) Q E = False := rfl
theorem wpS_next (ρ : Env) (st : Store) : wpS (.next ρ st) N R B E = N ρ st := rfl
theorem wpS_ret (d : D) (st : Store) : wpS (.ret d st) N R B E = R d st := rfl
theorem wpS_brk (ρ : Env) (st : Store) : wpS (.brk ρ st) N R B E = B ρ st := rfl
theorem wpS_exc (x : Xn) (ρ : Env) (st : Store) : wpS (.exc x ρ st) N R B E = E x st := rfl
theorem wp_bnd (m : Res α) (f : α → Store → Res β) : wp (bnd m f) Q' E = wp m (fun a st => wp (f a st) Q' E) E := by cases m <;> rfl
theorem wpS_sbnd (m : Res α) (ρ : Env) (f : α → Store → SR) : wpS (sbnd m ρ f) N R B E = wp m (fun a st => wpS (f a st) N R B E) E := by cases m <;> rfl
theorem wpS_seq (r : SR) (f : Env → Store → SR) : wpS (seqS r f) N R B E = wpS r (fun ρ st => wpS (f ρ st) N R B E) R B E := by cases r <;> rfl
theorem wp_oth (o : Option α) (st : Store) : wp (oth o st) Q E = match o with
  | some a => Q a st
  | none => False := by cases o <;> rfl
theorem wp_oth_some (a : α) (st : Store) : wp (oth (some a) st) Q E = Q a st := rfl
theorem wp_noX (m : Res α) : wp (noX m) Q E = wp m Q (fun _ _ => False) := by cases m <;> rfl
theorem wp_endD (r : SR) {Q : D → Store → Prop} : wp (endD r) Q E = wpS r (fun _ st => Q .non st) Q (fun _ _ => False) E := by cases r <;> rfl
theorem wp_ite (c : Prop) [Decidable c] (a b : Res α) : wp (if c then a else b) Q E = if c then wp a Q E else wp b Q E := by split <;> rfl
theorem wpS_ite (c : Prop) [Decidable c] (a b : SR) : wpS (if c then a else b) N R B E = if c then wpS a N R B E else wpS b N R B E := by split <;> rfl
theorem wp_imp {Q1 : α → Store → Prop} {m : Res α} (h : wp m Q E) (i : ∀ a st, Q a st → Q1 a st) : wp m Q1 E := by cases m <;> first | exact i _ _ h | exact h
theorem wp_imp2 {Q1 : α → Store → Prop} {E1 : Xn → Store → Prop} {m : Res α} (h : wp m Q E) (i : ∀ a st, Q a st → Q1 a st) (j : ∀ a st, E a st → E1 a st) : wp m Q1 E1 := by cases m <;> first | exact i _ _ h | exact j _ _ h | exact h
theorem wp_get {m : Res α} (h : wp m Q (fun _ _ => False)) : ∃ a st, m = .ok a st ∧ Q a st := by
  cases m with
  | ok a st => exact ⟨a, st, rfl, h⟩
  | exc x st => exact h.elim
  | stuck => exact h.elim
end
/-! ### the forms -/
section
variable {W : Nat} {call : A → List A → Store → Res D} {Q : D → Store → Prop} {E : Xn → Store → Prop} {ρ : Env} {st : Store} {N B : Env → Store → Prop} {R : D → Store → Prop}
abbrev we (W : Nat) (call : A → List A → Store → Res D) (c : C) (ρ : Env) (st : Store) (Q : D → Store → Prop) (E : Xn → Store → Prop) : Prop := wp ((den W call c).e ρ st) Q E
abbrev wea (W : Nat) (call : A → List A → Store → Res D) (c : C) (ρ : Env) (st : Store) (Q : A → Store → Prop) (E : Xn → Store → Prop) : Prop := wp ((den W call c).ea ρ st) Q E
abbrev wa (W : Nat) (call : A → List A → Store → Res D) (c : C) (ρ : Env) (st : Store) (Q : List D → Store → Prop) (E : Xn → Store → Prop) : Prop := wp ((den W call c).a ρ st) Q E
abbrev waa (W : Nat) (call : A → List A → Store → Res D) (c : C) (ρ : Env) (st : Store) (Q : List A → Store → Prop) (E : Xn → Store → Prop) : Prop := wp ((den W call c).aa ρ st) Q E
abbrev wt (W : Nat) (call : A → List A → Store → Res D) (c : C) (ρ : Env) (st : Store) (Q : Option Int → Store → Prop) (E : Xn → Store → Prop) : Prop := wp ((den W call c).t ρ st) Q E
abbrev wg (W : Nat) (call : A → List A → Store → Res D) (c : C) (d : D) (ρ : Env) (st : Store) (Q : Env → Store → Prop) (E : Xn → Store → Prop) : Prop := wp ((den W call c).g d ρ st) Q E
abbrev wgs (W : Nat) (call : A → List A → Store → Res D) (c : C) (d : List D) (ρ : Env) (st : Store) (Q : Env → Store → Prop) (E : Xn → Store → Prop) : Prop := wp ((den W call c).gs d ρ st) Q E
abbrev wi (W : Nat) (call : A → List A → Store → Res D) (c : C) (ρ : Env) (st : Store) (Q : It → Store → Prop) (E : Xn → Store → Prop) : Prop := wp ((den W call c).i ρ st) Q E
abbrev ws (W : Nat) (call : A → List A → Store → Res D) (c : C) (ρ : Env) (st : Store) (N : Env → Store → Prop) (R : D → Store → Prop) (B : Env → Store → Prop) (E : Xn → Store → Prop) : Prop := wpS ((den W call c).s ρ st) N R B E
abbrev wss (W : Nat) (call : A → List A → Store → Res D) (c : C) (ρ : Env) (st : Store) (N : Env → Store → Prop) (R : D → Store → Prop) (B : Env → Store → Prop) (E : Xn → Store → Prop) : Prop := wpS ((den W call c).ss ρ st) N R B E
/-- the truth of a value -/
def wtru (W : Nat) (call : A → List A → Store → Res D) (c : C) (ρ : Env) (st : Store) (Q : Bool → Store → Prop) (E : Xn → Store → Prop) : Prop := wp (tru (den W call c).e ρ st) Q E
theorem wtru_eq {c : C} {Q : Bool → Store → Prop} : wp (tru (den W call c).e ρ st) Q E = we W call c ρ st (fun d st1 => wp (oth (truth st1 d) st1) Q E) E := wp_bnd _ _

theorem we_k {d : Kst} : we W call (.k d) ρ st Q E = Q d.d st := rfl
theorem we_g {d : Kst} : we W call (.g d) ρ st Q E = Q d.d st := rfl
theorem we_gf {i : Nat} : we W call (.gf i) ρ st Q E = Q (.fn i) st := rfl
theorem we_v {i : Nat} : we W call (.v i) ρ st Q E = wp (slotD i ρ st) Q E := rfl
theorem wea_v {i : Nat} {Q : A → Store → Prop} : wea W call (.v i) ρ st Q E = wp (slotA i ρ st) Q E := rfl
theorem we_tup {a : C} : we W call (.tup a) ρ st Q E = wa W call a ρ st (fun ds st1 => wp (newTup ds st1) Q E) E := wp_bnd _ _
theorem we_lst {a : C} : we W call (.lst a) ρ st Q E = wa W call a ρ st (fun ds st1 => wp (newList ds st1) Q E) E := wp_bnd _ _
theorem we_bin {o : Bin} {a b : C} : we W call (.bin o a b) ρ st Q E = we W call a ρ st (fun x st1 => we W call b ρ st1 (fun y st2 => wp (binD st2 o x y) Q E) E) E := by
  show wp (bnd _ _) Q E = _
  simp only [wp_bnd]
theorem we_neg {a : C} : we W call (.neg a) ρ st Q E = we W call a ρ st (fun x st1 => wp (oth ((intOf x).map fun i => .int (-i)) st1) Q E) E := wp_bnd _ _
theorem we_not {a : C} : we W call (.not a) ρ st Q E = wp (tru (den W call a).e ρ st) (fun b st1 => Q (.bl (!b)) st1) E := wp_bnd _ _
theorem we_cmp {o : Cmp} {a b : C} : we W call (.cmp o a b) ρ st Q E = we W call a ρ st (fun x st1 => we W call b ρ st1 (fun y st2 => wp (oth ((cmpD st2 o x y).map .bl) st2) Q E) E) E := by
  show wp (bnd _ _) Q E = _
  simp only [wp_bnd]
theorem we_chain {o p : Cmp} {a b c : C} : we W call (.chain o p a b c) ρ st Q E = we W call a ρ st (fun x st1 => we W call b ρ st1 (fun y st2 => wp (oth (cmpD st2 o x y) st2) (fun r st3 => if r then we W call c ρ st3 (fun z st4 => wp (oth ((cmpD st4 p y z).map .bl) st4) Q E) E else Q (.bl false) st3) E) E) E := by
  show wp (bnd _ _) Q E = _
  simp only [wp_bnd, wp_ite, wp_ok]
theorem we_and {a b : C} : we W call (.and a b) ρ st Q E = we W call a ρ st (fun x st1 => wp (oth (truth st1 x) st1) (fun r st2 => if r then we W call b ρ st2 Q E else Q x st2) E) E := by
  show wp (bnd _ _) Q E = _
  simp only [wp_bnd, wp_ite, wp_ok]
theorem we_or {a b : C} : we W call (.or a b) ρ st Q E = we W call a ρ st (fun x st1 => wp (oth (truth st1 x) st1) (fun r st2 => if r then Q x st2 else we W call b ρ st2 Q E) E) E := by
  show wp (bnd _ _) Q E = _
  simp only [wp_bnd, wp_ite, wp_ok]
theorem we_ite {c a b : C} : we W call (.ite c a b) ρ st Q E = wp (tru (den W call c).e ρ st) (fun r st1 => if r then we W call a ρ st1 Q E else we W call b ρ st1 Q E) E := by
  show wp (bnd _ _) Q E = _
  simp only [wp_bnd, wp_ite]
theorem we_idx {a i : C} : we W call (.idx a i) ρ st Q E = we W call a ρ st (fun x st1 => we W call i ρ st1 (fun y st2 => wp (oth (idxD st2 x y) st2) Q E) E) E := by
  show wp (bnd _ _) Q E = _
  simp only [wp_bnd]
theorem we_sl {a lo hi : C} : we W call (.sl a lo hi) ρ st Q E = we W call a ρ st (fun x st1 => wt W call lo ρ st1 (fun l st2 => wt W call hi ρ st2 (fun h st3 => wp (slD st3 l h x) Q E) E) E) E := by
  show wp (bnd _ _) Q E = _
  simp only [wp_bnd]
theorem wt_no {Q : Option Int → Store → Prop} : wt W call .no ρ st Q E = Q none st := rfl
theorem wt_e {c : C} {f : Env → Store → Res D} {Q : Option Int → Store → Prop} (h : den W call c = exprDen f) : wt W call c ρ st Q E = wp (f ρ st) (fun d st1 => wp (oth ((intOf d).map some) st1) Q E) E := by
  show wp ((den W call c).t ρ st) Q E = _
  rw [h]
  exact wp_bnd _ _
theorem wt_v {i : Nat} {Q : Option Int → Store → Prop} : wt W call (.v i) ρ st Q E = we W call (.v i) ρ st (fun d st1 => wp (oth ((intOf d).map some) st1) Q E) E := wp_bnd _ _
theorem wt_k {d : Kst} {Q : Option Int → Store → Prop} : wt W call (.k d) ρ st Q E = wp (oth ((intOf d.d).map some) st) Q E := rfl
theorem wt_bin {o : Bin} {a b : C} {Q : Option Int → Store → Prop} : wt W call (.bin o a b) ρ st Q E = we W call (.bin o a b) ρ st (fun d st1 => wp (oth ((intOf d).map some) st1) Q E) E := wp_bnd _ _
theorem wt_neg {a : C} {Q : Option Int → Store → Prop} : wt W call (.neg a) ρ st Q E = we W call (.neg a) ρ st (fun d st1 => wp (oth ((intOf d).map some) st1) Q E) E := wp_bnd _ _
theorem wt_idx {a b : C} {Q : Option Int → Store → Prop} : wt W call (.idx a b) ρ st Q E = we W call (.idx a b) ρ st (fun d st1 => wp (oth ((intOf d).map some) st1) Q E) E := wp_bnd _ _
theorem we_call {f as : C} : we W call (.call f as) ρ st Q E = wea W call f ρ st (fun x st1 => wp (oth (calA x) st1) (fun x st1 => waa W call as ρ st1 (fun ds st2 => wp (call x ds st2) Q E) E) E) E := by
  show wp (bnd _ _) Q E = _
  simp only [wp_bnd]
theorem wea_gf {i : Nat} {Q : A → Store → Prop} : wea W call (.gf i) ρ st Q E = Q (.d (.fn i)) st := rfl
theorem we_callG {i : Nat} {as : C} : we W call (.call (.gf i) as) ρ st Q E = waa W call as ρ st (fun ds st2 => wp (call (.d (.fn i)) ds st2) Q E) E := by
  rw [we_call]
  rfl
theorem we_prim {p : Prim} {as : C} : we W call (.prim p as) ρ st Q E = wa W call as ρ st (fun ds st1 => wp (primD st1 p ds) Q E) E := wp_bnd _ _
theorem we_meth {m : Meth} {o a : C} : we W call (.meth m o a) ρ st Q E = we W call o ρ st (fun x st1 => wp (oth (recv m x) st1) (fun x st1 => we W call a ρ st1 (fun d st2 => wp (methD st2 m x [d]) Q E) E) E) E := by
  show wp (bnd _ _) Q E = _
  simp only [wp_bnd, arg1, wp_ok]
theorem we_isi {a : C} {t : Ty} : we W call (.isi a t) ρ st Q E = wea W call a ρ st (fun x st1 => wp (oth ((isiA x t).map .bl) st1) Q E) E := wp_bnd _ _
theorem we_comp {elt tg it cond : C} {own : List Nat} : we W call (.comp elt tg it cond own) ρ st Q E = wi W call it ρ st (fun J st1 => wp (compF (fun st i => J.at st i) (turnF (den W call tg).g (den W call cond).e (den W call elt).e (wipe ρ own)) W 0 st1) (fun ds st2 => wp (newList ds st2) Q E) E) E := by
  show wp (bnd _ _) Q E = _
  simp only [wp_bnd]
theorem wea_e {c : C} {f : Env → Store → Res D} {Q : A → Store → Prop} (h : (den W call c) = exprDen f) : wea W call c ρ st Q E = we W call c ρ st (fun d st1 => Q (.d d) st1) E := by
  show wp ((den W call c).ea ρ st) Q E = wp ((den W call c).e ρ st) _ E
  rw [h]
  exact wp_bnd _ _
theorem wea_lam0 {ps n : Nat} {b : C} {Q : A → Store → Prop} : wea W call (.lam ps n b []) ρ st Q E = Q (.d (.lam ⟨ps, n, b⟩)) st := rfl
theorem wea_lam1 {ps n i : Nat} {b : C} {is : List Nat} {Q : A → Store → Prop} : wea W call (.lam ps n b (i :: is)) ρ st Q E = wp (oth ((slotsAt ρ (i :: is)).map fun ds => .clo ⟨ps, n, b⟩ ds) st) Q E := rfl
theorem we_lam0 {ps n : Nat} {b : C} : we W call (.lam ps n b []) ρ st Q E = Q (.lam ⟨ps, n, b⟩) st := rfl
theorem we_hcall {f j : Nat} : we W call (.hcall f j) ρ st Q E = wp (slotA j ρ st) (fun x st1 => wp (oth (exnOf x) st1) (fun p st2 => wp (call (.d (.fn f)) [.exn p.1 p.2] st2) Q E) E) E := by
  show wp (bnd _ _) Q E = _
  simp only [wp_bnd]
theorem wa_nil {Q : List D → Store → Prop} : wa W call .nil ρ st Q E = Q [] st := rfl
theorem wa_cons {a as : C} {Q : List D → Store → Prop} : wa W call (.cons a as) ρ st Q E = we W call a ρ st (fun d st1 => wa W call as ρ st1 (fun ds st2 => Q (d :: ds) st2) E) E := by
  show wp (bnd _ _) Q E = _
  simp only [wp_bnd, wp_ok]
theorem waa_nil {Q : List A → Store → Prop} : waa W call .nil ρ st Q E = Q [] st := rfl
theorem waa_cons {a as : C} {Q : List A → Store → Prop} : waa W call (.cons a as) ρ st Q E = wea W call a ρ st (fun d st1 => waa W call as ρ st1 (fun ds st2 => Q (d :: ds) st2) E) E := by
  show wp (bnd _ _) Q E = _
  simp only [wp_bnd, wp_ok]
theorem wg_tn {i : Nat} {d : D} {Q : Env → Store → Prop} : wg W call (.tn i) d ρ st Q E = Q (ρ.set i (some (.d d))) st := rfl
theorem wg_tt {ts : C} {d : D} {Q : Env → Store → Prop} : wg W call (.tt ts) d ρ st Q E = wp (oth (unpack d) st) (fun ds st1 => wgs W call ts ds ρ st1 Q (fun _ _ => False)) E := by
  show wp (bnd _ _) Q E = _
  simp only [wp_bnd, wp_noX]
theorem wg_tsub {o i : C} {d : D} {Q : Env → Store → Prop} : wg W call (.tsub o i) d ρ st Q E = we W call o ρ st (fun x st1 => we W call i ρ st1 (fun y st2 => wp (setD ρ d x y st2) Q E) E) E := by
  show wp (bnd _ _) Q E = _
  simp only [wp_bnd]
theorem wgs_nil {ds : List D} {Q : Env → Store → Prop} : wgs W call .nil ds ρ st Q E = wp (gsNil ds ρ st) Q E := rfl
theorem wgs_cons {a as : C} {d : D} {ds : List D} {Q : Env → Store → Prop} : wgs W call (.cons a as) (d :: ds) ρ st Q E = wg W call a d ρ st (fun ρ1 st1 => wgs W call as ds ρ1 st1 Q E) E := wp_bnd _ _
theorem gsNil_nil : gsNil [] ρ st = .ok ρ st := rfl
theorem wi_iv {a : C} {Q : It → Store → Prop} : wi W call (.iv a) ρ st Q E = we W call a ρ st (fun x st1 => wp (oth (itOf st1 x) st1) Q E) E := wp_bnd _ _
theorem wi_ir1 {a : C} {Q : It → Store → Prop} : wi W call (.ir1 a) ρ st Q E = we W call a ρ st (fun x st1 => wp (rng1 x st1) Q E) E := wp_bnd _ _
theorem wi_ir2 {a b : C} {Q : It → Store → Prop} : wi W call (.ir2 a b) ρ st Q E = we W call a ρ st (fun x st1 => we W call b ρ st1 (fun y st2 => wp (rng2 x y st2) Q E) E) E := by
  show wp (bnd _ _) Q E = _
  simp only [wp_bnd]
theorem wi_ien {a : C} {Q : It → Store → Prop} : wi W call (.ien a) ρ st Q E = we W call a ρ st (fun x st1 => wp (enumOf x st1) Q E) E := wp_bnd _ _
theorem wi_izip {a b : C} {Q : It → Store → Prop} : wi W call (.izip a b) ρ st Q E = we W call a ρ st (fun x st1 => we W call b ρ st1 (fun y st2 => wp (zipOf x y st2) Q E) E) E := by
  show wp (bnd _ _) Q E = _
  simp only [wp_bnd]
theorem wi_izl {a b : C} {Q : It → Store → Prop} : wi W call (.izl a b) ρ st Q E = we W call a ρ st (fun x st1 => we W call b ρ st1 (fun y st2 => wp (zipL x y st2) Q E) E) E := by
  show wp (bnd _ _) Q E = _
  simp only [wp_bnd]
theorem ws_asg {t e : C} : ws W call (.asg t e) ρ st N R B E = we W call e ρ st (fun d st1 => wg W call t d ρ st1 N E) E := by
  show wpS (sbnd _ _ _) N R B E = _
  simp only [wpS_sbnd, wpS_next]
theorem ws_par {is : List Nat} {as : C} : ws W call (.par is as) ρ st N R B E = wa W call as ρ st (fun ds st1 => wp (oth (parS is ds ρ) st1) N E) E := by
  show wpS (sbnd _ _ _) N R B E = _
  simp only [wpS_sbnd, wpS_next]
theorem ws_ex {e : C} : ws W call (.ex e) ρ st N R B E = we W call e ρ st (fun _ st1 => N ρ st1) E := by
  show wpS (sbnd _ _ _) N R B E = _
  simp only [wpS_sbnd, wpS_next]
theorem ws_ret {e : C} : ws W call (.ret e) ρ st N R B E = we W call e ρ st (fun d st1 => R d st1) E := by
  show wpS (sbnd _ _ _) N R B E = _
  simp only [wpS_sbnd, wpS_ret]
theorem ws_retN : ws W call .retN ρ st N R B E = R .non st := rfl
theorem ws_pass : ws W call .pass ρ st N R B E = N ρ st := rfl
theorem ws_brk : ws W call .brk ρ st N R B E = B ρ st := rfl
theorem ws_iff {c a b : C} : ws W call (.iff c a b) ρ st N R B E = wp (tru (den W call c).e ρ st) (fun r st1 => if r then wss W call a ρ st1 N R B E else wss W call b ρ st1 N R B E) E := by
  show wpS (sbnd _ _ _) N R B E = _
  simp only [wpS_sbnd, wpS_ite]
theorem ws_forr {t it b : C} : ws W call (.forr t it b) ρ st N R B E = wi W call it ρ st (fun J st1 => wpS (loopF (fun st i => J.at st i) (fun d ρ st => sbnd ((den W call t).g d ρ st) ρ fun ρ1 st2 => (den W call b).ss ρ1 st2) W 0 ρ st1) N R B E) E := by
  show wpS (sbnd _ _ _) N R B E = _
  simp only [wpS_sbnd]
theorem ws_raise {c : Nat} {as : C} : ws W call (.raise c as) ρ st N R B E = wa W call as ρ st (fun ds st1 => E ⟨c, ds⟩ st1) E := by
  show wpS (sbnd _ _ _) N R B E = _
  simp only [wpS_sbnd, wpS_exc]
theorem wss_nil : wss W call .nil ρ st N R B E = N ρ st := rfl
theorem wss_cons {a as : C} : wss W call (.cons a as) ρ st N R B E = ws W call a ρ st (fun ρ1 st1 => wss W call as ρ1 st1 N R B E) R B E := wpS_seq _ _
end
end PF

set_option Elab.async false
set_option linter.all false
set_option maxRecDepth 100000
/-! The pure form: stores, loops, calls. -/
namespace PF
/-! ### the store: what stays -/
/-- lists stay, but perhaps that at k -/
def Fr (k : Nat) (st st' : Store) : Prop := st.length ≤ st'.length ∧ ∀ i ds, i ≠ k → listAt st i = some ds → listAt st' i = some ds
theorem Fr.refl (k : Nat) (st : Store) : Fr k st st := ⟨Nat.le_refl _, fun _ _ _ h => h⟩
theorem Fr.trans {k : Nat} {s1 s2 s3 : Store} (a : Fr k s1 s2) (b : Fr k s2 s3) : Fr k s1 s3 := ⟨Nat.le_trans a.1 b.1, fun i ds hi h => b.2 i ds hi (a.2 i ds hi h)⟩
theorem listAt_lt {st : Store} {n : Nat} {ds : List D} (h : listAt st n = some ds) : n < st.length := by
  unfold listAt at h
  cases e : st[n]? with
  | none => rw [e] at h; cases h
  | some o => exact (List.getElem?_eq_some_iff.mp e).1
theorem listAt_app {st : Store} {n : Nat} {ds : List D} {r : Store} (h : listAt st n = some ds) : listAt (st ++ r) n = some ds := by
  have hn := listAt_lt h
  unfold listAt at h ⊢
  rw [List.getElem?_append_left hn]
  exact h
theorem listAt_new (st : Store) (ds : List D) : listAt (st ++ [.lst ds]) st.length = some ds := by
  unfold listAt
  rw [List.getElem?_append_right (Nat.le_refl _)]
  simp
theorem Fr.app (k : Nat) (st r : Store) : Fr k st (st ++ r) := ⟨by simp, fun i ds _ h => listAt_app h⟩
theorem listAt_set {st : Store} {k : Nat} {xs ds : List D} (h : listAt st k = some xs) : listAt (st.set k (.lst ds)) k = some ds := by
  unfold listAt
  rw [List.getElem?_set_self (listAt_lt h)]
theorem listAt_set_ne {st : Store} {i k : Nat} {ds : List D} (h : i ≠ k) : listAt (st.set k (.lst ds)) i = listAt st i := by
  unfold listAt
  rw [List.getElem?_set_ne (Ne.symm h)]
theorem Fr.set (k : Nat) (st : Store) (ds : List D) : Fr k st (st.set k (.lst ds)) := ⟨by simp, fun i es hi h => by rw [listAt_set_ne hi]; exact h⟩
theorem Fr.ne {k : Nat} {st st' : Store} (h : ∀ i ds, listAt st i = some ds → listAt st' i = some ds) (hl : st.length ≤ st'.length) : Fr k st st' := ⟨hl, fun i ds _ e => h i ds e⟩
section
variable {Q : D → Store → Prop} {E : Xn → Store → Prop} {st : Store}
theorem wp_newList {ds : List D} (hl : ds.length ≤ LIM) (h : Q (.loc st.length) (st ++ [.lst ds])) : wp (newList ds st) Q E := by
  unfold newList
  rw [if_pos hl]
  exact h
theorem wp_newTup {ds : List D} (hl : ds.length ≤ LIM) : wp (newTup ds st) Q E = Q (.tup ds) st := by
  unfold newTup
  rw [if_pos hl]
  rfl
theorem wp_alloc {o : Ob} : wp (alloc st o) Q E = Q (.loc st.length) (st ++ [o]) := rfl
end
/-! ### slots -/
section
variable {Q : D → Store → Prop} {QA : A → Store → Prop} {E : Xn → Store → Prop} {st : Store} {ρ : Env}
theorem slotD_some {i : Nat} {d : D} (h : ρ[i]? = some (some (.d d))) : slotD i ρ st = .ok d st := by
  unfold slotD
  rw [h]
theorem slotA_some {i : Nat} {a : A} (h : ρ[i]? = some (some a)) : slotA i ρ st = .ok a st := by
  unfold slotA
  rw [h]
end
/-! ### loops -/
section
variable {N B : Env → Store → Prop} {R : D → Store → Prop} {E : Xn → Store → Prop} {body : D → Env → Store → SR}
/-- over items that are known: J tells what is left -/
theorem loop_items {item : Store → Nat → Option (Option D)} {J : List D → Env → Store → Prop} (ds : List D) (hitem : ∀ (i : Nat) (ρ : Env) (st : Store), J (ds.drop i) ρ st → item st i = some ds[i]?)
    (hstep : ∀ d r ρ st, J (d :: r) ρ st → wpS (body d ρ st) (fun ρ' st' => J r ρ' st') R N E) (hend : ∀ ρ st, J [] ρ st → N ρ st) :
    ∀ (W i : Nat) (ρ : Env) (st : Store), i ≤ ds.length → ds.length < W + i → J (ds.drop i) ρ st → wpS (loopF item body W i ρ st) N R B E
  | 0, i, ρ, st, hi, hW, h => by omega
  | W + 1, i, ρ, st, hi, hW, h => by
    have e := hitem i ρ st h
    simp only [loopF, e]
    cases q : ds[i]? with
    | none =>
      have e2 : ds.drop i = [] := List.drop_eq_nil_of_le (by simpa using q)
      rw [e2] at h
      exact hend ρ st h
    | some d =>
      have hi : i < ds.length := (List.getElem?_eq_some_iff.mp q).1
      have e2 : ds.drop i = d :: ds.drop (i + 1) := by
        rw [List.drop_eq_getElem_cons hi]
        congr 1
        rw [List.getElem?_eq_getElem hi] at q
        exact Option.some.inj q
      rw [e2] at h
      have s := hstep d _ ρ st h
      dsimp only
      cases b : body d ρ st with
      | next ρ' st' =>
        rw [b] at s
        exact loop_items ds hitem hstep hend W (i + 1) ρ' st' hi (by omega) s
      | brk ρ' st' => rw [b] at s; exact s
      | ret d st' => rw [b] at s; exact s
      | exc x ρ' st' => rw [b] at s; exact s
      | stuck => rw [b] at s; exact s
theorem loop_tup {ds : List D} {W : Nat} {ρ : Env} {st : Store} (J : List D → Env → Store → Prop) (hW : ds.length < W) (h0 : J ds ρ st)
    (hstep : ∀ d r ρ st, J (d :: r) ρ st → wpS (body d ρ st) (fun ρ' st' => J r ρ' st') R N E) (hend : ∀ ρ st, J [] ρ st → N ρ st) :
    wpS (loopF (fun st i => (It.tup ds).at st i) body W 0 ρ st) N R B E :=
  loop_items ds (fun _ _ _ _ => rfl) hstep hend W 0 ρ st (Nat.zero_le _) hW h0
theorem loop_lst {n : Nat} {ds : List D} {W : Nat} {ρ : Env} {st : Store} (J : List D → Env → Store → Prop) (hW : ds.length < W) (hl : ∀ r ρ st, J r ρ st → listAt st n = some ds) (h0 : J ds ρ st)
    (hstep : ∀ d r ρ st, J (d :: r) ρ st → wpS (body d ρ st) (fun ρ' st' => J r ρ' st') R N E) (hend : ∀ ρ st, J [] ρ st → N ρ st) :
    wpS (loopF (fun st i => (It.lst n).at st i) body W 0 ρ st) N R B E :=
  loop_items ds (fun i ρ st h => by show (listAt st n).map _ = _; rw [hl _ ρ st h]; rfl) hstep hend W 0 ρ st (Nat.zero_le _) hW h0
/-- over a range: J tells how many turns are done -/
theorem loop_rng {lo : Int} {n : Nat} {J : Nat → Env → Store → Prop}
    (hstep : ∀ i ρ st, i < n → J i ρ st → wpS (body (.int (lo + i)) ρ st) (fun ρ' st' => J (i + 1) ρ' st') R N E) (hend : ∀ ρ st, J n ρ st → N ρ st) :
    ∀ (W i : Nat) (ρ : Env) (st : Store), i ≤ n → n < W + i → J i ρ st → wpS (loopF (fun st i => (It.rng lo n).at st i) body W i ρ st) N R B E
  | 0, i, ρ, st, hi, hW, h => by omega
  | W + 1, i, ρ, st, hi, hW, h => by
    by_cases z : i < n
    · have e : (It.rng lo n).at st i = some (some (.int (lo + i))) := by
        show some (if i < n then some (D.int (lo + i)) else none) = _
        rw [if_pos z]
      simp only [loopF, e]
      have s := hstep i ρ st z h
      cases b : body (.int (lo + i)) ρ st with
      | next ρ' st' =>
        rw [b] at s
        exact loop_rng hstep hend W (i + 1) ρ' st' z (by omega) s
      | brk ρ' st' => rw [b] at s; exact s
      | ret d st' => rw [b] at s; exact s
      | exc x ρ' st' => rw [b] at s; exact s
      | stuck => rw [b] at s; exact s
    · have e : (It.rng lo n).at st i = some none := by
        show some (if i < n then some (D.int (lo + i)) else none) = _
        rw [if_neg z]
      simp only [loopF, e]
      have : i = n := by omega
      subst this
      exact hend ρ st h
end
/-! ### comprehensions: J tells what is left, what has been made -/
section
variable {Q : List D → Store → Prop} {E : Xn → Store → Prop} {turn : D → Store → Res (Option D)}
theorem comp_items {item : Store → Nat → Option (Option D)} {J : List D → List D → Store → Prop} (ds : List D) (hitem : ∀ (i : Nat) (acc : List D) (st : Store), J (ds.drop i) acc st → item st i = some ds[i]?)
    (hstep : ∀ d r acc st, J (d :: r) acc st → wp (turn d st) (fun o st' => J r (acc ++ o.toList) st') E) :
    ∀ (W i : Nat) (acc : List D) (st : Store) (Q : List D → Store → Prop), i ≤ ds.length → ds.length < W + i → J (ds.drop i) acc st → (∀ out st', J [] (acc ++ out) st' → Q out st') → wp (compF item turn W i st) Q E
  | 0, i, acc, st, Q, hi, hW, h, hend => by omega
  | W + 1, i, acc, st, Q, hi, hW, h, hend => by
    have e := hitem i acc st h
    simp only [compF, e]
    cases q : ds[i]? with
    | none =>
      have e2 : ds.drop i = [] := List.drop_eq_nil_of_le (by simpa using q)
      rw [e2] at h
      exact hend [] st (by rw [List.append_nil]; exact h)
    | some d =>
      have hi : i < ds.length := (List.getElem?_eq_some_iff.mp q).1
      have e2 : ds.drop i = d :: ds.drop (i + 1) := by
        rw [List.drop_eq_getElem_cons hi]
        congr 1
        rw [List.getElem?_eq_getElem hi] at q
        exact Option.some.inj q
      rw [e2] at h
      dsimp only
      rw [wp_bnd]
      refine wp_imp (hstep d _ acc st h) fun o st1 h1 => ?_
      rw [wp_bnd]
      refine comp_items ds hitem hstep W (i + 1) _ st1 _ hi (by omega) h1 fun out st2 h2 => ?_
      rw [wp_ok]
      refine hend _ st2 ?_
      cases o with
      | none => simpa using h2
      | some y => simpa using h2
theorem comp_tup {ds : List D} {W : Nat} {st : Store} (J : List D → List D → Store → Prop) (hW : ds.length < W) (h0 : J ds [] st)
    (hstep : ∀ d r acc st, J (d :: r) acc st → wp (turn d st) (fun o st' => J r (acc ++ o.toList) st') E) (hend : ∀ out st', J [] out st' → Q out st') : wp (compF (fun st i => (It.tup ds).at st i) turn W 0 st) Q E :=
  comp_items ds (fun _ _ _ _ => rfl) hstep W 0 [] st Q (Nat.zero_le _) hW h0 hend
theorem comp_lst {n : Nat} {ds : List D} {W : Nat} {st : Store} (J : List D → List D → Store → Prop) (hW : ds.length < W) (hl : ∀ r acc st, J r acc st → listAt st n = some ds) (h0 : J ds [] st)
    (hstep : ∀ d r acc st, J (d :: r) acc st → wp (turn d st) (fun o st' => J r (acc ++ o.toList) st') E) (hend : ∀ out st', J [] out st' → Q out st') : wp (compF (fun st i => (It.lst n).at st i) turn W 0 st) Q E :=
  comp_items ds (fun i acc st h => by show (listAt st n).map _ = _; rw [hl _ acc st h]; rfl) hstep W 0 [] st Q (Nat.zero_le _) hW h0 hend
theorem wp_turn {g : D → Env → Store → Res Env} {c e : Env → Store → Res D} {ρ : Env} {d : D} {st : Store} {Q : Option D → Store → Prop} {E : Xn → Store → Prop} :
    wp (turnF g c e ρ d st) Q E = wp (g d ρ st) (fun ρ1 st2 => wp (tru c ρ1 st2) (fun b st3 => if b then wp (e ρ1 st3) (fun y st4 => Q (some y) st4) (fun _ _ => False) else Q none st3) (fun _ _ => False)) (fun _ _ => False) := by
  unfold turnF
  rw [wp_noX, wp_bnd]
  simp only [wp_bnd, wp_ite, wp_ok]
end
/-! ### try -/
section
variable {N B : Env → Store → Prop} {R : D → Store → Prop} {E : Xn → Store → Prop} {W : Nat} {call : A → List A → Store → Res D} {ρ : Env} {st : Store}
/-- the suite gives something back -/
theorem ws_try {b h : C} {cs : List Nat} {i : Nat} {ρ0 : Env} (hb : wpS ((den W call b).ss ρ st) N R B (fun x st1 => if cs.contains x.c then ∀ ρ1, wpS ((den W call h).ss (List.set ρ1 i (some (.exn x.c x.fs))) st1) (fun _ _ => False) R (fun _ _ => False) (fun _ _ => False) else E x st1)) :
    ws W call (.tryx b cs (some i) h) ρ st N R B E := by
  show wpS (handle cs (some i) (den W call h).ss ((den W call b).ss ρ st)) N R B E
  cases e : (den W call b).ss ρ st with
  | next ρ1 st1 => rw [e] at hb; exact hb
  | ret d st1 => rw [e] at hb; exact hb
  | brk ρ1 st1 => rw [e] at hb; exact hb
  | stuck => rw [e] at hb; exact hb
  | exc x ρ1 st1 =>
    rw [e] at hb
    simp only [handle]
    change (if cs.contains x.c = true then _ else _) at hb
    split
    · rename_i z
      rw [if_pos z] at hb
      have hb := hb ρ1
      cases q : (den W call h).ss (List.set ρ1 i (some (.exn x.c x.fs))) st1 with
      | next ρ2 st2 => rw [q] at hb; exact hb.elim
      | ret d st2 => rw [q] at hb; exact hb
      | brk ρ2 st2 => rw [q] at hb; exact hb.elim
      | exc y ρ2 st2 => rw [q] at hb; exact hb.elim
      | stuck => rw [q] at hb; exact hb.elim
    · rename_i z
      rw [if_neg z] at hb
      exact hb
end
/-! ### calls -/
section
variable {P : Prog} {W n : Nat} {Q : D → Store → Prop} {E : Xn → Store → Prop} {st : Store}
theorem wp_fn {i : Nat} {as : List A} {d : Def} (hd : P.defs[i]? = some d) (hl : as.length = d.ps) : wp (callN P W (n + 1) (.d (.fn i)) as st) Q E = wss W (callN P W n) d.body (startD d as) st (fun _ st => Q .non st) Q (fun _ _ => False) E := by
  simp only [callN, hd]
  rw [if_pos hl, wp_endD]
theorem wp_lam {d : Def} {ds : List D} (hl : ds.length = d.ps) : wp (callN P W (n + 1) (.d (.lam d)) (ds.map .d) st) Q E = we W (callN P W n) d.body (startD d (ds.map .d)) st Q E := by
  have e : ∀ ds : List D, plainAs (ds.map A.d) = some ds := by
    intro ds
    induction ds with
    | nil => rfl
    | cons d ds ih => simp [plainAs, ih]
  simp only [callN, e]
  rw [if_pos hl]
theorem wp_clo {d : Def} {caps : List A} {ds : List D} (hl : ds.length = d.ps) : wp (callN P W (n + 1) (.clo d caps) (ds.map .d) st) Q E = we W (callN P W n) d.body (startD d (ds.map .d ++ caps)) st Q E := by
  have e : ∀ ds : List D, plainAs (ds.map A.d) = some ds := by
    intro ds
    induction ds with
    | nil => rfl
    | cons d ds ih => simp [plainAs, ih]
  simp only [callN, e]
  rw [if_pos hl]
end
end PF

set_option Elab.async false
set_option linter.all false
set_option maxRecDepth 100000
/-! The pure form: arguments; operations on values. -/
namespace PF
section
variable {W : Nat} {call : A → List A → Store → Res D} {Q : A → Store → Prop} {E : Xn → Store → Prop} {ρ : Env} {st : Store}
theorem wea_k {d : Kst} : wea W call (.k d) ρ st Q E = we W call (.k d) ρ st (fun d st1 => Q (.d d) st1) E := wea_e rfl
theorem wea_g {d : Kst} : wea W call (.g d) ρ st Q E = we W call (.g d) ρ st (fun d st1 => Q (.d d) st1) E := wea_e rfl
theorem wea_tup {a : C} : wea W call (.tup a) ρ st Q E = we W call (.tup a) ρ st (fun d st1 => Q (.d d) st1) E := wea_e rfl
theorem wea_lst {a : C} : wea W call (.lst a) ρ st Q E = we W call (.lst a) ρ st (fun d st1 => Q (.d d) st1) E := wea_e rfl
theorem wea_bin {o : Bin} {a b : C} : wea W call (.bin o a b) ρ st Q E = we W call (.bin o a b) ρ st (fun d st1 => Q (.d d) st1) E := wea_e rfl
theorem wea_neg {a : C} : wea W call (.neg a) ρ st Q E = we W call (.neg a) ρ st (fun d st1 => Q (.d d) st1) E := wea_e rfl
theorem wea_not {a : C} : wea W call (.not a) ρ st Q E = we W call (.not a) ρ st (fun d st1 => Q (.d d) st1) E := wea_e rfl
theorem wea_cmp {o : Cmp} {a b : C} : wea W call (.cmp o a b) ρ st Q E = we W call (.cmp o a b) ρ st (fun d st1 => Q (.d d) st1) E := wea_e rfl
theorem wea_chain {o p : Cmp} {a b c : C} : wea W call (.chain o p a b c) ρ st Q E = we W call (.chain o p a b c) ρ st (fun d st1 => Q (.d d) st1) E := wea_e rfl
theorem wea_and {a b : C} : wea W call (.and a b) ρ st Q E = we W call (.and a b) ρ st (fun d st1 => Q (.d d) st1) E := wea_e rfl
theorem wea_or {a b : C} : wea W call (.or a b) ρ st Q E = we W call (.or a b) ρ st (fun d st1 => Q (.d d) st1) E := wea_e rfl
theorem wea_ite {a b c : C} : wea W call (.ite a b c) ρ st Q E = we W call (.ite a b c) ρ st (fun d st1 => Q (.d d) st1) E := wea_e rfl
theorem wea_idx {a b : C} : wea W call (.idx a b) ρ st Q E = we W call (.idx a b) ρ st (fun d st1 => Q (.d d) st1) E := wea_e rfl
theorem wea_sl {a b c : C} : wea W call (.sl a b c) ρ st Q E = we W call (.sl a b c) ρ st (fun d st1 => Q (.d d) st1) E := wea_e rfl
theorem wea_call {a b : C} : wea W call (.call a b) ρ st Q E = we W call (.call a b) ρ st (fun d st1 => Q (.d d) st1) E := wea_e rfl
theorem wea_prim {p : Prim} {a : C} : wea W call (.prim p a) ρ st Q E = we W call (.prim p a) ρ st (fun d st1 => Q (.d d) st1) E := wea_e rfl
theorem wea_meth {m : Meth} {a b : C} : wea W call (.meth m a b) ρ st Q E = we W call (.meth m a b) ρ st (fun d st1 => Q (.d d) st1) E := wea_e rfl
theorem wea_isi {a : C} {t : Ty} : wea W call (.isi a t) ρ st Q E = we W call (.isi a t) ρ st (fun d st1 => Q (.d d) st1) E := wea_e rfl
theorem wea_comp {a b c e : C} {o : List Nat} : wea W call (.comp a b c e o) ρ st Q E = we W call (.comp a b c e o) ρ st (fun d st1 => Q (.d d) st1) E := wea_e rfl
end
section
variable {Q : D → Store → Prop} {E : Xn → Store → Prop} {st : Store}
theorem wp_add_int (i j : Int) : wp (binD st .add (.int i) (.int j)) Q E = Q (.int (i + j)) st := rfl
theorem wp_sub_int (i j : Int) : wp (binD st .sub (.int i) (.int j)) Q E = Q (.int (i - j)) st := rfl
theorem wp_add_tup {x y : List D} (h : (x ++ y).length ≤ LIM) : wp (binD st .add (.tup x) (.tup y)) Q E = Q (.tup (x ++ y)) st := wp_newTup h
theorem wp_add_lst {n m : Nat} {x y : List D} (h1 : listAt st n = some x) (h2 : listAt st m = some y) (h : (x ++ y).length ≤ LIM) (q : Q (.loc st.length) (st ++ [.lst (x ++ y)])) : wp (binD st .add (.loc n) (.loc m)) Q E := by
  have g : ∀ {n : Nat} {x : List D}, listAt st n = some x → st[n]? = some (.lst x) := fun {n x} h => by
    unfold listAt at h
    split at h
    · rename_i e; rw [e]; cases h; rfl
    · cases h
  simp only [binD, g h1, g h2]
  exact wp_newList h q
theorem wp_mul_int {i j : Int} (h : (big i || big j) = true) : wp (binD st .mul (.int i) (.int j)) Q E = Q (.int (i * j)) st := by
  simp only [binD]
  rw [if_pos h]
  rfl
theorem wp_mod_int {i j : Int} (h : 0 < j) : wp (binD st .mod (.int i) (.int j)) Q E = Q (.int (i % j)) st := by
  simp only [binD]
  rw [if_pos (by simpa using h)]
  rfl
theorem wp_fdiv_int {i j : Int} (h : 0 < j) (h2 : j < 1073741824) : wp (binD st .fdiv (.int i) (.int j)) Q E = Q (.int (i / j)) st := by
  simp only [binD]
  rw [if_pos (by simp [h, h2])]
  rfl
theorem wp_mul_tup {x : List D} {j : Int} (h1 : 2 ≤ j) (h2 : j ≤ 1000) (h3 : x.length ≤ 1000) (h4 : x ≠ []) : wp (binD st .mul (.tup x) (.int j)) Q E = Q (.tup (List.replicate j.toNat x).flatten) st := by
  simp only [binD]
  rw [if_pos]
  · rfl
  · cases x with
    | nil => exact absurd rfl h4
    | cons a r => simp [h1, h2]; simpa using h3
end
/-! ### values that are known -/
section
variable {Q : D → Store → Prop} {E : Xn → Store → Prop} {st : Store} {ρ : Env}
theorem slotD_z {d : D} : slotD 0 (some (.d d) :: ρ) st = .ok d st := rfl
theorem slotD_s {i : Nat} {x : Option A} : slotD (i + 1) (x :: ρ) st = slotD i ρ st := rfl
theorem slotA_z {a : A} : slotA 0 (some a :: ρ) st = .ok a st := rfl
theorem slotA_s {i : Nat} {x : Option A} : slotA (i + 1) (x :: ρ) st = slotA i ρ st := rfl
theorem newTup0 : newTup [] st = .ok (.tup []) st := by unfold newTup; rw [if_pos (by decide)]
theorem newTup1 {a : D} : newTup [a] st = .ok (.tup [a]) st := by unfold newTup; rw [if_pos (by show 1 ≤ LIM; decide)]
theorem newTup2 {a b : D} : newTup [a, b] st = .ok (.tup [a, b]) st := by unfold newTup; rw [if_pos (by show 2 ≤ LIM; decide)]
theorem newTup3 {a b c : D} : newTup [a, b, c] st = .ok (.tup [a, b, c]) st := by unfold newTup; rw [if_pos (by show 3 ≤ LIM; decide)]
theorem newTup4 {a b c d : D} : newTup [a, b, c, d] st = .ok (.tup [a, b, c, d]) st := by unfold newTup; rw [if_pos (by show 4 ≤ LIM; decide)]
theorem tr_non : truth st .non = some false := rfl
theorem tr_bl {b : Bool} : truth st (.bl b) = some b := rfl
theorem tr_int {i : Int} : truth st (.int i) = some (i != 0) := rfl
theorem tr_tup {ds : List D} : truth st (.tup ds) = some (!ds.isEmpty) := rfl
theorem len_tup {ds : List D} : primD st .len [.tup ds] = .ok (.int ds.length) st := rfl
theorem len_lst {n : Nat} {ds : List D} (h : listAt st n = some ds) : primD st .len [.loc n] = .ok (.int ds.length) st := by
  simp only [primD, p1, lenOf, h, Option.map_some]
  rfl
theorem atI0 {α : Type} {a : α} {r : List α} : atI (a :: r) 0 = some a := by
  unfold atI ixN
  rw [if_pos (by decide), if_pos (by first | (simp; done) | (simp; omega))]
  rfl
theorem atI1 {α : Type} {a b : α} {r : List α} : atI (a :: b :: r) 1 = some b := by
  unfold atI ixN
  rw [if_pos (by decide), if_pos (by first | (simp; done) | (simp; omega))]
  rfl
theorem idx_tup {ds : List D} {i : Int} : idxD st (.tup ds) (.int i) = atI ds i := rfl
theorem idx_lst {n : Nat} {ds : List D} {i : Int} (h : listAt st n = some ds) : idxD st (.loc n) (.int i) = atI ds i := by
  show (listAt st n).bind _ = _
  rw [h]
  rfl
theorem it_tup {ds : List D} : itOf st (.tup ds) = some (.tup ds) := rfl
theorem it_lst {n : Nat} {ds : List D} (h : listAt st n = some ds) : itOf st (.loc n) = some (.lst n) := by
  show (listAt st n).map _ = _
  rw [h]
  rfl
theorem int_of {i : Int} : intOf (.int i) = some i := rfl
theorem un_tup {ds : List D} : unpack (.tup ds) = some ds := rfl
theorem lt_int {i j : Int} : cmpD st .lt (.int i) (.int j) = some (decide (i < j)) := rfl
theorem le_int {i j : Int} : cmpD st .le (.int i) (.int j) = some (decide (i ≤ j)) := rfl
theorem gt_int {i j : Int} : cmpD st .gt (.int i) (.int j) = some (decide (j < i)) := rfl
theorem ge_int {i j : Int} : cmpD st .ge (.int i) (.int j) = some (decide (j ≤ i)) := rfl
theorem cmp_eq {a b : D} : cmpD st .eq a b = eqD st a b := by cases a <;> cases b <;> rfl
theorem cmp_ne {a b : D} : cmpD st .ne a b = (eqD st a b).map (!·) := by cases a <;> cases b <;> rfl
theorem cmp_is {a b : D} : cmpD st .is a b = isD a b := by cases a <;> cases b <;> rfl
theorem cmp_isnot {a b : D} : cmpD st .isnot a b = (isD a b).map (!·) := by cases a <;> cases b <;> rfl
theorem lt_tup {x y : List D} : cmpD st .lt (.tup x) (.tup y) = ltD (.tup x) (.tup y) := rfl
end
/-! ### comparisons -/
theorem eqD_of {st : Store} {a b : D} (h1 : dataF st LV a = true) (h2 : dataF st LV b = true) (h3 : min (depF st LV a) (depF st LV b) ≤ 64) : eqD st a b = some (eqF st LV a b) := by
  unfold eqD
  rw [if_pos]
  simp [h1, h2, h3]
theorem eqD_int {st : Store} {a b : Int} : eqD st (.int a) (.int b) = some (a == b) := by
  rw [eqD_of rfl rfl (by simp [LV, depF, depW])]
  simp [LV, eqF, eqW]
theorem eqD_bl {st : Store} {a b : Bool} : eqD st (.bl a) (.bl b) = some (a == b) := by
  rw [eqD_of rfl rfl (by simp [LV, depF, depW])]
  simp [LV, eqF, eqW]
/-- data but for lists, which are flat and not at k -/
def flatL (st : Store) (n : Nat) : Bool := match listAt st n with
  | some ds => datasW (fun _ => false) ds
  | none => false
def Dat (k : Nat) (st : Store) (d : D) : Prop := dataW (fun n => n != k && flatL st n) d = true
def Dats (k : Nat) (st : Store) (ds : List D) : Prop := datasW (fun n => n != k && flatL st n) ds = true
mutual
theorem dataW_mono {p q : Nat → Bool} (h : ∀ n, p n = true → q n = true) : ∀ d : D, dataW p d = true → dataW q d = true
  | .non, _ => rfl
  | .bl _, _ => rfl
  | .int _, _ => rfl
  | .str s, e => by simpa only [dataW] using e
  | .tup ds, e => by
    simp only [dataW] at e ⊢
    exact datasW_mono h ds e
  | .loc n, e => by
    simp only [dataW] at e ⊢
    exact h n e
  | .rol _, e => by simp [dataW] at e
  | .fn _, e => by simp [dataW] at e
  | .lam _, e => by simp [dataW] at e
theorem datasW_mono {p q : Nat → Bool} (h : ∀ n, p n = true → q n = true) : ∀ ds : List D, datasW p ds = true → datasW q ds = true
  | [], _ => rfl
  | d :: ds, e => by
    simp only [datasW, Bool.and_eq_true] at e ⊢
    exact ⟨dataW_mono h d e.1, datasW_mono h ds e.2⟩
end
theorem Dat.fr {k : Nat} {st st' : Store} {d : D} (h : Dat k st d) (f : Fr k st st') : Dat k st' d := by
  refine dataW_mono (fun n e => ?_) d h
  simp only [Bool.and_eq_true, bne_iff_ne] at e ⊢
  refine ⟨e.1, ?_⟩
  have e2 := e.2
  unfold flatL at e2 ⊢
  cases q : listAt st n with
  | none => rw [q] at e2; cases e2
  | some ds =>
    rw [q] at e2
    rw [f.2 n ds e.1 q]
    exact e2
theorem Dat.data {k : Nat} {st : Store} {d : D} (h : Dat k st d) : dataF st LV d = true := by
  refine dataW_mono (fun n e => ?_) d h
  simp only [Bool.and_eq_true, bne_iff_ne] at e
  have e2 := e.2
  unfold flatL at e2
  cases q : listAt st n with
  | none => rw [q] at e2; cases e2
  | some ds =>
    rw [q] at e2
    exact datasW_mono (fun _ z => by cases z) ds e2
theorem dat_tup {k : Nat} {st : Store} {ds : List D} : Dat k st (.tup ds) ↔ ∀ d ∈ ds, Dat k st d := by
  have : ∀ ds : List D, datasW (fun n => n != k && flatL st n) ds = true ↔ ∀ d ∈ ds, Dat k st d := by
    intro ds
    induction ds with
    | nil => simp [datasW]
    | cons d ds ih => simp only [datasW, Bool.and_eq_true, List.forall_mem_cons, ih]; rfl
  rw [← this]
  rfl
theorem dat_int {k : Nat} {st : Store} {i : Int} : Dat k st (.int i) := rfl
theorem dat_bl {k : Nat} {st : Store} {i : Bool} : Dat k st (.bl i) := rfl
theorem dat_non {k : Nat} {st : Store} : Dat k st .non := rfl
theorem dat_loc {k n : Nat} {st : Store} {ds : List D} (h : listAt st n = some ds) (hn : n ≠ k) (hd : datasW (fun _ => false) ds = true) : Dat k st (.loc n) := by
  show dataW _ _ = true
  simp only [dataW, flatL, h, hd, Bool.and_true]
  simpa using hn
/-- x == () -/
def isNilD : D → Bool
  | .tup [] => true
  | _ => false
theorem eqD_nil {k : Nat} {st : Store} {d : D} (h : Dat k st d) : eqD st d (.tup []) = some (isNilD d) := by
  have e0 : depF st LV (.tup []) = 1 := by simp [LV, depF, depW, depsW]
  rw [eqD_of h.data (by simp [LV, dataF, dataW, datasW]) (by rw [e0]; omega)]
  congr 1
  cases d with
  | tup ds => cases ds <;> simp [LV, eqF, eqW, eqsW, isNilD]
  | _ => simp [LV, eqF, eqW, isNilD]
mutual
/-- no tuple is longer than m -/
def sm (m : Nat) : D → Bool
  | .tup ds => decide (ds.length ≤ m) && sms m ds
  | .non => true
  | .bl _ => true
  | .int _ => true
  | .str _ => true
  | .loc _ => true
  | .rol _ => true
  | .fn _ => true
  | .lam _ => true
def sms (m : Nat) : List D → Bool
  | [] => true
  | d :: ds => sm m d && sms m ds
end
def Val (k m : Nat) (st : Store) (d : D) : Prop := Dat k st d ∧ sm m d = true
theorem val_tup {k m : Nat} {st : Store} {ds : List D} : Val k m st (.tup ds) ↔ ds.length ≤ m ∧ ∀ d ∈ ds, Val k m st d := by
  have e : ∀ ds : List D, sms m ds = true ↔ ∀ d ∈ ds, sm m d = true := by
    intro ds
    induction ds with
    | nil => simp [sms]
    | cons d ds ih => simp only [sms, Bool.and_eq_true, List.forall_mem_cons, ih]
  unfold Val
  rw [dat_tup]
  simp only [sm, Bool.and_eq_true, decide_eq_true_eq, e]
  exact ⟨fun ⟨a, b, c⟩ => ⟨b, fun d hd => ⟨a d hd, c d hd⟩⟩, fun ⟨a, b⟩ => ⟨fun d hd => (b d hd).1, a, fun d hd => (b d hd).2⟩⟩
theorem Val.fr {k m : Nat} {st st' : Store} {d : D} (h : Val k m st d) (f : Fr k st st') : Val k m st' d := ⟨h.1.fr f, h.2⟩
end PF

set_option Elab.async false
set_option linter.all false
set_option maxRecDepth 100000
/-! The pure form: what is done in a little store is done above any other store, places moved up. -/
namespace PF
mutual
def shD (s : Nat) : D → D
  | .non => .non
  | .bl b => .bl b
  | .int i => .int i
  | .str x => .str x
  | .tup ds => .tup (shDs s ds)
  | .loc n => .loc (n + s)
  | .rol ds => .rol (shDs s ds)
  | .fn i => .fn i
  | .lam l => .lam l
def shDs (s : Nat) : List D → List D
  | [] => []
  | d :: ds => shD s d :: shDs s ds
end
mutual
def shA (s : Nat) : A → A
  | .d d => .d (shD s d)
  | .clo l cs => .clo l (shAs s cs)
  | .exn c fs => .exn c (shDs s fs)
def shAs (s : Nat) : List A → List A
  | [] => []
  | d :: ds => shA s d :: shAs s ds
end
def shOb (s : Nat) : Ob → Ob
  | .lst ds => .lst (shDs s ds)
def shX (s : Nat) (x : Xn) : Xn := ⟨x.c, shDs s x.fs⟩
def shIt (s : Nat) : It → It
  | .lst n => .lst (n + s)
  | .tup ds => .tup (shDs s ds)
  | .rng lo n => .rng lo n
  | .str x => .str x
  | .enL n => .enL (n + s)
  | .enT ds => .enT (shDs s ds)
  | .zLL n m => .zLL (n + s) (m + s)
  | .zTT xs ys => .zTT (shDs s xs) (shDs s ys)
theorem shDs_map {s : Nat} : ∀ ds : List D, shDs s ds = ds.map (shD s)
  | [] => rfl
  | d :: ds => by simp [shDs, shDs_map ds]
theorem shAs_map {s : Nat} : ∀ ds : List A, shAs s ds = ds.map (shA s)
  | [] => rfl
  | d :: ds => by simp [shAs, shAs_map ds]
def upT (b st : Store) : Store := b ++ st.map (shOb b.length)
section
variable {b : Store}
theorem upT_nil : upT b [] = b := by simp [upT]
theorem upT_len (st : Store) : (upT b st).length = st.length + b.length := by simp [upT]; omega
theorem upT_get (st : Store) (n : Nat) : (upT b st)[n + b.length]? = (st[n]?).map (shOb b.length) := by
  unfold upT
  rw [List.getElem?_append_right (by omega)]
  simp
theorem upT_app (st : Store) (o : Ob) : upT b st ++ [shOb b.length o] = upT b (st ++ [o]) := by simp [upT]
theorem upT_set (st : Store) (n : Nat) (o : Ob) : (upT b st).set (n + b.length) (shOb b.length o) = upT b (st.set n o) := by
  unfold upT
  rw [List.set_append_right _ _ (by omega), List.map_set]
  simp
theorem listAt_up (st : Store) (n : Nat) : listAt (upT b st) (n + b.length) = (listAt st n).map (List.map (shD b.length)) := by
  unfold listAt
  rw [upT_get]
  cases e : st[n]? with
  | none => rfl
  | some o => cases o with | lst ds => simp [shOb, shDs_map]
end
section
variable {s : Nat}
mutual
theorem dataW_sh {p : Nat → Bool} : ∀ d : D, dataW p (shD s d) = dataW (fun n => p (n + s)) d
  | .non => rfl
  | .bl _ => rfl
  | .int _ => rfl
  | .str x => by simp only [shD, dataW]
  | .tup ds => by simp only [shD, dataW]; exact datasW_sh ds
  | .loc n => by simp only [shD, dataW]
  | .rol _ => by simp only [shD, dataW]
  | .fn _ => by simp only [shD, dataW]
  | .lam _ => by simp only [shD, dataW]
theorem datasW_sh {p : Nat → Bool} : ∀ ds : List D, datasW p (shDs s ds) = datasW (fun n => p (n + s)) ds
  | [] => rfl
  | d :: ds => by simp only [shDs, datasW, dataW_sh d, datasW_sh ds]
end
mutual
theorem depW_sh {p : Nat → Nat} : ∀ d : D, depW p (shD s d) = depW (fun n => p (n + s)) d
  | .non => rfl
  | .bl _ => rfl
  | .int _ => rfl
  | .str x => by simp only [shD, depW]
  | .tup ds => by simp only [shD, depW, depsW_sh ds]
  | .loc n => by simp only [shD, depW]
  | .rol _ => by simp only [shD, depW]
  | .fn _ => by simp only [shD, depW]
  | .lam _ => by simp only [shD, depW]
theorem depsW_sh {p : Nat → Nat} : ∀ ds : List D, depsW p (shDs s ds) = depsW (fun n => p (n + s)) ds
  | [] => rfl
  | d :: ds => by simp only [shDs, depsW, depW_sh d, depsW_sh ds]
end
mutual
theorem eqW_sh {q : Nat → Nat → Bool} : ∀ a b : D, eqW q (shD s a) (shD s b) = eqW (fun n m => q (n + s) (m + s)) a b
  | .tup xs, b => by
    cases b with
    | tup ys => simp only [shD, eqW]; exact eqsW_sh xs ys
    | _ => simp only [shD, eqW]
  | .loc n, b => by cases b <;> simp only [shD, eqW]
  | .non, b => by cases b <;> simp only [shD, eqW]
  | .bl _, b => by cases b <;> simp only [shD, eqW]
  | .int _, b => by cases b <;> simp only [shD, eqW]
  | .str _, b => by cases b <;> simp only [shD, eqW]
  | .rol _, b => by cases b <;> simp only [shD, eqW]
  | .fn _, b => by cases b <;> simp only [shD, eqW]
  | .lam _, b => by cases b <;> simp only [shD, eqW]
theorem eqsW_sh {q : Nat → Nat → Bool} : ∀ a b : List D, eqsW q (shDs s a) (shDs s b) = eqsW (fun n m => q (n + s) (m + s)) a b
  | [], [] => rfl
  | [], _ :: _ => rfl
  | _ :: _, [] => rfl
  | x :: xs, y :: ys => by simp only [shDs, eqsW, eqW_sh x y, eqsW_sh xs ys]
end
mutual
theorem alikeW_sh : ∀ a b : D, alikeW (shD s a) (shD s b) = alikeW a b
  | .tup xs, b => by
    cases b with
    | tup ys => simp only [shD, alikeW]; exact alikesW_sh xs ys
    | _ => simp only [shD, alikeW]
  | .loc n, b => by cases b <;> simp only [shD, alikeW]
  | .non, b => by cases b <;> simp only [shD, alikeW]
  | .bl _, b => by cases b <;> simp only [shD, alikeW]
  | .int _, b => by cases b <;> simp only [shD, alikeW]
  | .str _, b => by cases b <;> simp only [shD, alikeW]
  | .rol _, b => by cases b <;> simp only [shD, alikeW]
  | .fn _, b => by cases b <;> simp only [shD, alikeW]
  | .lam _, b => by cases b <;> simp only [shD, alikeW]
theorem alikesW_sh : ∀ a b : List D, alikesW (shDs s a) (shDs s b) = alikesW a b
  | [], _ => by simp only [shDs, alikesW]
  | _ :: _, [] => rfl
  | x :: xs, y :: ys => by simp only [shDs, alikesW, alikeW_sh x y, alikesW_sh xs ys]
end
mutual
theorem ltW_sh : ∀ a b : D, ltW (shD s a) (shD s b) = ltW a b
  | .tup xs, b => by
    cases b with
    | tup ys => simp only [shD, ltW]; exact ltsW_sh xs ys
    | _ => simp only [shD, ltW]
  | .loc n, b => by cases b <;> simp only [shD, ltW]
  | .non, b => by cases b <;> simp only [shD, ltW]
  | .bl _, b => by cases b <;> simp only [shD, ltW]
  | .int _, b => by cases b <;> simp only [shD, ltW]
  | .str _, b => by cases b <;> simp only [shD, ltW]
  | .rol _, b => by cases b <;> simp only [shD, ltW]
  | .fn _, b => by cases b <;> simp only [shD, ltW]
  | .lam _, b => by cases b <;> simp only [shD, ltW]
theorem ltsW_sh : ∀ a b : List D, ltsW (shDs s a) (shDs s b) = ltsW a b
  | [], [] => rfl
  | [], _ :: _ => rfl
  | _ :: _, [] => rfl
  | x :: xs, y :: ys => by simp only [shDs, ltsW, ltW_sh x y, ltsW_sh xs ys, eqW_sh x y]
end
theorem ltD_sh (a b : D) : ltD (shD s a) (shD s b) = ltD a b := by
  simp only [ltD, alikeW_sh, dataW_sh, depW_sh, ltW_sh]
theorem insB_sh {α β : Type} {f : α → β} {le : α → α → Bool} {le' : β → β → Bool} (h : ∀ a b, le' (f a) (f b) = le a b) (x : α) : ∀ l : List α, insB le' (f x) (l.map f) = (insB le x l).map f
  | [] => rfl
  | y :: r => by
    simp only [List.map_cons, insB, h, insB_sh h x r]
    split <;> rfl
theorem sortB_sh {α β : Type} {f : α → β} {le : α → α → Bool} {le' : β → β → Bool} (h : ∀ a b, le' (f a) (f b) = le a b) : ∀ l : List α, sortB le' (l.map f) = (sortB le l).map f
  | [] => rfl
  | y :: r => by simp only [List.map_cons, sortB, sortB_sh h r, insB_sh h]
theorem leW_sh (a b : D) : leW (shD s a) (shD s b) = leW a b := by simp only [leW, ltW_sh]
theorem neTup_sh (a : D) : neTup (shD s a) = neTup a := by
  cases a with
  | tup ds => cases ds <;> rfl
  | _ => rfl
theorem noTup_sh (a : D) : noTup (shD s a) = noTup a := by cases a <;> rfl
theorem flatD_sh (a : D) : flatD (shD s a) = flatD a := by cases a <;> rfl
theorem all_map' {α β : Type} {f : α → β} {p : β → Bool} (l : List α) : (l.map f).all p = l.all (fun x => p (f x)) := by induction l <;> simp_all
theorem any_map' {α β : Type} {f : α → β} {p : β → Bool} (l : List α) : (l.map f).any p = l.any (fun x => p (f x)) := by induction l <;> simp_all
theorem sortOk_sh (ds : List D) : sortOk (ds.map (shD s)) = sortOk ds := by
  simp only [sortOk, all_map', dataW_sh, depW_sh, alikeW_sh, neTup_sh, noTup_sh]
theorem inT_sh (x : D) (ds : List D) : inT (shD s x) (ds.map (shD s)) = inT x ds := by
  simp only [inT, all_map', any_map', flatD_sh, eqP, eqW_sh]
theorem isD_sh (x y : D) : isD (shD s x) (shD s y) = isD x y := by cases x <;> cases y <;> rfl
theorem atI_map {α β : Type} {f : α → β} (xs : List α) (i : Int) : atI (xs.map f) i = (atI xs i).map f := by
  unfold atI
  rw [List.length_map]
  cases ixN xs.length i <;> simp
theorem cut_map {α β : Type} {f : α → β} (xs : List α) (lo hi : Option Int) : cut (xs.map f) lo hi = (cut xs lo hi).map f := by
  unfold cut
  rw [List.length_map, List.map_take, List.map_drop]
theorem intsOf_sh : ∀ ds : List D, intsOf (ds.map (shD s)) = intsOf ds
  | [] => rfl
  | d :: ds => by cases d <;> simp [intsOf, shD, intsOf_sh ds]
theorem boolsOf_sh : ∀ ds : List D, boolsOf (ds.map (shD s)) = boolsOf ds
  | [] => rfl
  | d :: ds => by cases d <;> simp [boolsOf, shD, boolsOf_sh ds]
theorem strsOf_sh : ∀ ds : List D, strsOf (ds.map (shD s)) = strsOf ds
  | [] => rfl
  | d :: ds => by cases d <;> simp [strsOf, shD, strsOf_sh ds]
end
section
variable {b : Store}
theorem dataF_sh (st : Store) : ∀ (k : Nat) (d : D), dataF (upT b st) k (shD b.length d) = dataF st k d
  | 0, d => by simp only [dataF, dataW_sh]
  | k + 1, d => by
    simp only [dataF, dataW_sh]
    congr 1
    funext n
    rw [listAt_up]
    cases listAt st n with
    | none => rfl
    | some ds =>
      simp only [Option.map_some, ← shDs_map, datasW_sh]
      congr 1
      funext n
      exact dataF_sh st k (.loc n)
theorem depF_sh (st : Store) : ∀ (k : Nat) (d : D), depF (upT b st) k (shD b.length d) = depF st k d
  | 0, d => by simp only [depF, depW_sh]
  | k + 1, d => by
    simp only [depF, depW_sh]
    congr 1
    funext n
    rw [listAt_up]
    cases listAt st n with
    | none => rfl
    | some ds =>
      simp only [Option.map_some, ← shDs_map, depsW_sh]
      congr 2
      funext n
      exact depF_sh st k (.loc n)
theorem eqF_sh (st : Store) : ∀ (k : Nat) (x y : D), eqF (upT b st) k (shD b.length x) (shD b.length y) = eqF st k x y
  | 0, x, y => by simp only [eqF, eqW_sh]
  | k + 1, x, y => by
    simp only [eqF, eqW_sh]
    congr 1
    funext n m
    rw [listAt_up, listAt_up]
    cases listAt st n with
    | none => rfl
    | some xs =>
      cases listAt st m with
      | none => rfl
      | some ys =>
        simp only [Option.map_some, ← shDs_map, eqsW_sh]
        congr 1
        funext n m
        exact eqF_sh st k (.loc n) (.loc m)
theorem eqD_sh (st : Store) (x y : D) : eqD (upT b st) (shD b.length x) (shD b.length y) = eqD st x y := by
  simp only [eqD, dataF_sh, depF_sh, eqF_sh]
theorem truth_sh (st : Store) (d : D) : truth (upT b st) (shD b.length d) = truth st d := by
  cases d with
  | tup ds => cases ds <;> simp [truth, shD, shDs]
  | rol ds => cases ds <;> simp [truth, shD, shDs]
  | loc n =>
    simp only [truth, shD, listAt_up]
    cases listAt st n with
    | none => rfl
    | some ds => cases ds <;> rfl
  | _ => simp only [truth, shD]
theorem inL_sh (st : Store) (x : D) (n : Nat) : inL (upT b st) (shD b.length x) (n + b.length) = inL st x n := by
  have e := dataF_sh (b := b) st 6 (.loc n)
  have e2 := depF_sh (b := b) st 6 (.loc n)
  simp only [shD] at e e2
  simp only [inL, listAt_up]
  cases listAt st n with
  | none => rfl
  | some ds => simp only [Option.map_some, all_map', any_map', flatD_sh, eqP, eqW_sh, dataF_sh, depF_sh, eqF_sh, e, e2]
theorem cmpD_sh (st : Store) (o : Cmp) (x y : D) : cmpD (upT b st) o (shD b.length x) (shD b.length y) = cmpD st o x y := by
  cases o with
  | eq => rw [cmp_eq, cmp_eq, eqD_sh]
  | ne => rw [cmp_ne, cmp_ne, eqD_sh]
  | is => rw [cmp_is, cmp_is, isD_sh]
  | isnot => rw [cmp_isnot, cmp_isnot, isD_sh]
  | lt => cases x with
    | tup xs => cases y with
      | tup ys =>
        have := ltD_sh (s := b.length) (.tup xs) (.tup ys)
        simpa only [cmpD, shD] using this
      | _ => simp only [cmpD, shD]
    | _ => cases y <;> simp only [cmpD, shD]
  | le => cases x <;> cases y <;> simp only [cmpD, shD]
  | gt => cases x <;> cases y <;> simp only [cmpD, shD]
  | ge => cases x <;> cases y <;> simp only [cmpD, shD]
  | inn => cases y with
    | tup ys => simp only [cmpD, shD, shDs_map, inT_sh]
    | loc n => simp only [cmpD, shD, inL_sh]
    | _ => cases x <;> simp only [cmpD, shD]
  | notin => cases y with
    | tup ys => simp only [cmpD, shD, shDs_map, inT_sh]
    | loc n => simp only [cmpD, shD, inL_sh]
    | _ => cases x <;> simp only [cmpD, shD]
theorem idxD_sh (st : Store) (x y : D) : idxD (upT b st) (shD b.length x) (shD b.length y) = (idxD st x y).map (shD b.length) := by
  cases x with
  | tup ds => cases y <;> simp [idxD, shD, shDs_map, atI_map]
  | rol ds => cases y <;> simp [idxD, shD, shDs_map, atI_map]
  | loc n => cases y with
    | int i =>
      simp only [idxD, shD, listAt_up]
      cases listAt st n <;> simp [atI_map]
    | _ => simp only [idxD, shD, Option.map_none]
  | str x => cases y with
    | int i =>
      simp only [idxD, shD]
      split
      · cases atI x i <;> rfl
      · rfl
    | _ => simp only [idxD, shD, Option.map_none]
  | _ => cases y <;> simp only [idxD, shD, Option.map_none]
end
end PF

set_option Elab.async false
set_option linter.all false
set_option maxRecDepth 100000
/-! The pure form: moved up: what each form does. -/
namespace PF
section
variable {b : Store} {α β γ δ : Type}
/-- what is done above -/
def RR (b : Store) (R : α → β → Prop) (m : Res α) (M : Res β) : Prop :=
  match m with
  | .ok a st => ∃ c, M = .ok c (upT b st) ∧ R a c
  | .exc x st => M = .exc (shX b.length x) (upT b st)
  | .stuck => True
abbrev RE (b : Store) (f : α → β) (m : Res α) (M : Res β) : Prop := RR b (fun a c => c = f a) m M
theorem RR.bnd {R : α → β → Prop} {R' : γ → δ → Prop} {m : Res α} {M : Res β} {f : α → Store → Res γ} {F : β → Store → Res δ} (h : RR b R m M) (hf : ∀ a c st, R a c → RR b R' (f a st) (F c (upT b st))) : RR b R' (PF.bnd m f) (PF.bnd M F) := by
  cases m with
  | ok a st =>
    obtain ⟨c, rfl, hc⟩ := h
    exact hf a c st hc
  | exc x st =>
    have h : M = _ := h
    subst h
    rfl
  | stuck => exact True.intro
theorem RE.ok {f : α → β} (a : α) (st : Store) : RE b f (.ok a st) (.ok (f a) (upT b st)) := ⟨_, rfl, rfl⟩
theorem RR.okk {R : α → β → Prop} {a : α} {c : β} {st : Store} (h : R a c) : RR b R (.ok a st) (.ok c (upT b st)) := ⟨_, rfl, h⟩
theorem RR.oth {R : α → β → Prop} {o : Option α} {O : Option β} {st : Store} (h : ∀ a, o = some a → ∃ c, O = some c ∧ R a c) : RR b R (PF.oth o st) (PF.oth O (upT b st)) := by
  cases o with
  | none => exact True.intro
  | some a =>
    obtain ⟨c, rfl, hc⟩ := h a rfl
    exact ⟨c, rfl, hc⟩
theorem RE.oth {f : α → β} {o : Option α} {st : Store} {O : Option β} (h : O = o.map f) : RE b f (PF.oth o st) (PF.oth O (upT b st)) := by
  subst h
  cases o with
  | none => exact True.intro
  | some a => exact ⟨_, rfl, rfl⟩
theorem RR.noX {R : α → β → Prop} {m : Res α} {M : Res β} (h : RR b R m M) : RR b R (PF.noX m) (PF.noX M) := by
  cases m with
  | ok a st =>
    obtain ⟨c, rfl, hc⟩ := h
    exact ⟨c, rfl, hc⟩
  | exc x st => exact True.intro
  | stuck => exact True.intro
theorem RR.ite {R : α → β → Prop} {c : Prop} [Decidable c] {m m' : Res α} {M M' : Res β} (h1 : c → RR b R m M) (h2 : ¬ c → RR b R m' M') : RR b R (if c then m else m') (if c then M else M') := by
  split
  · exact h1 ‹_›
  · exact h2 ‹_›
/-! ### operations -/
theorem alloc_sh (st : Store) (o : Ob) : RE b (shD b.length) (alloc st o) (alloc (upT b st) (shOb b.length o)) := by
  unfold alloc
  rw [upT_len, upT_app]
  exact ⟨_, rfl, rfl⟩
theorem newList_sh (st : Store) (ds : List D) : RE b (shD b.length) (newList ds st) (newList (ds.map (shD b.length)) (upT b st)) := by
  unfold newList
  rw [List.length_map, ← shDs_map]
  exact RR.ite (fun _ => alloc_sh st (.lst ds)) fun _ => True.intro
theorem newTup_sh (st : Store) (ds : List D) : RE b (shD b.length) (newTup ds st) (newTup (ds.map (shD b.length)) (upT b st)) := by
  unfold newTup
  rw [List.length_map]
  exact RR.ite (fun _ => ⟨_, rfl, by simp only [shD, shDs_map]⟩) fun _ => True.intro
theorem rep_map (n : Nat) (xs : List D) {f : D → D} : (List.replicate n (xs.map f)).flatten = ((List.replicate n xs).flatten).map f := by
  induction n with
  | zero => rfl
  | succ n ih => rw [List.replicate_succ, List.replicate_succ, List.flatten_cons, List.flatten_cons, List.map_append, ih]
theorem binD_sh (st : Store) (o : Bin) (x y : D) : RE b (shD b.length) (binD st o x y) (binD (upT b st) o (shD b.length x) (shD b.length y)) := by
  cases o with
  | add => cases x with
    | int i => cases y <;> first | exact True.intro | exact ⟨_, rfl, rfl⟩
    | str i => cases y with
      | str j =>
        simp only [binD, shD]
        exact RR.ite (fun _ => ⟨_, rfl, rfl⟩) fun _ => True.intro
      | _ => exact True.intro
    | tup i => cases y with
      | tup j =>
        simp only [binD, shD, shDs_map]
        rw [← List.map_append]
        exact newTup_sh st _
      | _ => exact True.intro
    | loc i => cases y with
      | loc j =>
        simp only [binD, shD, upT_get]
        cases st[i]? with
        | none => exact True.intro
        | some o => cases o with | lst u => cases st[j]? with
          | none => exact True.intro
          | some o => cases o with | lst v =>
            simp only [Option.map_some, shOb, shDs_map]
            rw [← List.map_append]
            exact newList_sh st _
      | _ => exact True.intro
    | _ => exact True.intro
  | sub => cases x with
    | int i => cases y <;> first | exact True.intro | exact ⟨_, rfl, rfl⟩
    | _ => exact True.intro
  | mul => cases x with
    | int i => cases y with
      | int j =>
        simp only [binD, shD]
        exact RR.ite (fun _ => ⟨_, rfl, rfl⟩) fun _ => True.intro
      | _ => exact True.intro
    | tup i => cases y with
      | int j =>
        simp only [binD, shD, shDs_map, List.length_map, List.isEmpty_map, rep_map]
        exact RR.ite (fun _ => ⟨_, rfl, by simp only [shD, shDs_map]⟩) fun _ => True.intro
      | _ => exact True.intro
    | loc i => cases y with
      | int j =>
        simp only [binD, shD, upT_get]
        cases st[i]? with
        | none => exact True.intro
        | some o => cases o with | lst u =>
          simp only [Option.map_some, shOb, shDs_map, List.length_map, rep_map]
          exact RR.ite (fun _ => newList_sh st _) fun _ => True.intro
      | _ => exact True.intro
    | _ => exact True.intro
  | fdiv => cases x with
    | int i => cases y with
      | int j =>
        simp only [binD, shD]
        exact RR.ite (fun _ => ⟨_, rfl, rfl⟩) fun _ => True.intro
      | _ => exact True.intro
    | _ => exact True.intro
  | mod => cases x with
    | int i => cases y with
      | int j =>
        simp only [binD, shD]
        exact RR.ite (fun _ => ⟨_, rfl, rfl⟩) fun _ => True.intro
      | _ => exact True.intro
    | _ => exact True.intro
  | pow => cases x with
    | int i => cases y with
      | int j =>
        simp only [binD, shD]
        exact RR.ite (fun _ => ⟨_, rfl, rfl⟩) fun _ => True.intro
      | _ => exact True.intro
    | _ => exact True.intro
theorem slD_sh (st : Store) (lo hi : Option Int) (x : D) : RE b (shD b.length) (slD st lo hi x) (slD (upT b st) lo hi (shD b.length x)) := by
  cases x with
  | tup ds => exact ⟨_, rfl, by simp only [shD, shDs_map, cut_map]⟩
  | loc n =>
    simp only [slD, shD, listAt_up]
    cases listAt st n with
    | none => exact True.intro
    | some ds =>
      simp only [Option.map_some, cut_map]
      have := alloc_sh (b := b) st (.lst (cut ds lo hi))
      simpa only [shOb, shDs_map] using this
  | _ => exact True.intro
theorem lenOf_sh (st : Store) (d : D) : lenOf (upT b st) (shD b.length d) = lenOf st d := by
  cases d with
  | loc n =>
    simp only [lenOf, shD, listAt_up]
    cases listAt st n <;> simp
  | _ => simp [lenOf, shD, shDs_map]
theorem intOf_sh {s : Nat} (d : D) : intOf (shD s d) = intOf d := by cases d <;> rfl
theorem intLs_sh (st : Store) (d : D) : intLs (upT b st) (shD b.length d) = intLs st d := by
  cases d with
  | loc n =>
    simp only [intLs, shD, listAt_up]
    cases listAt st n <;> simp [intsOf_sh]
  | _ => rfl
theorem blLs_sh (st : Store) (d : D) : blLs (upT b st) (shD b.length d) = blLs st d := by
  cases d with
  | loc n =>
    simp only [blLs, shD, listAt_up]
    cases listAt st n <;> simp [boolsOf_sh]
  | _ => rfl
theorem strLs_sh (st : Store) (d : D) : strLs (upT b st) (shD b.length d) = strLs st d := by
  cases d with
  | loc n =>
    simp only [strLs, shD, listAt_up]
    cases listAt st n <;> simp [strsOf_sh]
  | _ => rfl
theorem seqOf_sh (st : Store) (d : D) : seqOf (upT b st) (shD b.length d) = (seqOf st d).map (List.map (shD b.length)) := by
  cases d with
  | loc n => simp only [seqOf, shD, listAt_up]
  | _ => simp [seqOf, shD, shDs_map]
theorem p1_sh {st : Store} {f F : D → Res D} (ds : List D) (h : ∀ d, RE b (shD b.length) (f d) (F (shD b.length d))) : RE b (shD b.length) (p1 ds f) (p1 (ds.map (shD b.length)) F) := by
  match ds with
  | [] => exact True.intro
  | [d] => exact h d
  | _ :: _ :: _ => exact True.intro
theorem p2_sh {st : Store} {f F : D → D → Res D} (ds : List D) (h : ∀ d e, RE b (shD b.length) (f d e) (F (shD b.length d) (shD b.length e))) : RE b (shD b.length) (p2 ds f) (p2 (ds.map (shD b.length)) F) := by
  match ds with
  | [] => exact True.intro
  | [_] => exact True.intro
  | [d, e] => exact h d e
  | _ :: _ :: _ :: _ => exact True.intro
theorem ii_sh {st : Store} {f : Int → Int → Int} (x y : D) : RE b (shD b.length) (ii x y st f) (ii (shD b.length x) (shD b.length y) (upT b st) f) := by
  cases x with
  | int i => cases y <;> first | exact True.intro | exact ⟨_, rfl, rfl⟩
  | _ => exact True.intro
theorem primD_sh (st : Store) (p : Prim) (ds : List D) : RE b (shD b.length) (primD st p ds) (primD (upT b st) p (ds.map (shD b.length))) := by
  have o : ∀ {α : Type} {f : α → D} {o O : Option α}, O = o → (∀ a, shD b.length (f a) = f a) → RE b (shD b.length) (oth (o.map f) st) (oth (O.map f) (upT b st)) := fun {α f o O} h1 h2 => by
    subst h1
    refine RE.oth ?_
    cases O <;> simp [h2]
  cases p with
  | len =>
    refine p1_sh (st := st) ds fun d => ?_
    rw [lenOf_sh]
    exact o rfl fun _ => rfl
  | abs => exact p1_sh (st := st) ds fun d => o (intOf_sh d) fun _ => rfl
  | int => exact p1_sh (st := st) ds fun d => RE.oth (by cases d <;> rfl)
  | max2 => exact p2_sh (st := st) ds fun d e => ii_sh d e
  | min2 => exact p2_sh (st := st) ds fun d e => ii_sh d e
  | maxL => exact p1_sh (st := st) ds fun d => o (by rw [intLs_sh]) fun _ => rfl
  | minL => exact p1_sh (st := st) ds fun d => o (by rw [intLs_sh]) fun _ => rfl
  | sumL => exact p1_sh (st := st) ds fun d => o (intLs_sh st d) fun _ => rfl
  | tuple => exact p1_sh (st := st) ds fun d => RE.oth (by rw [seqOf_sh]; cases seqOf st d <;> simp [shD, shDs_map])
  | list =>
    refine p1_sh (st := st) ds fun d => ?_
    simp only [listOfD, seqOf_sh]
    cases seqOf st d with
    | none => exact True.intro
    | some ds =>
      simp only [Option.map_some]
      have := alloc_sh (b := b) st (.lst ds)
      simpa only [shOb, shDs_map] using this
  | all => exact p1_sh (st := st) ds fun d => o (blLs_sh st d) fun _ => rfl
  | any => exact p1_sh (st := st) ds fun d => o (blLs_sh st d) fun _ => rfl
  | sorted =>
    refine p1_sh (st := st) ds fun d => ?_
    cases d with
    | loc n =>
      simp only [sortD, shD, listAt_up]
      cases listAt st n with
      | none => exact True.intro
      | some ds =>
        simp only [Option.map_some, sortOk_sh]
        refine RR.ite (fun _ => ?_) fun _ => True.intro
        rw [sortB_sh leW_sh]
        have := alloc_sh (b := b) st (.lst (sortB leW ds))
        simpa only [shOb, shDs_map] using this
    | _ => exact True.intro
theorem recv_sh {s : Nat} (m : Meth) (x : D) : recv m (shD s x) = (recv m x).map (shD s) := by cases m <;> cases x <;> rfl
theorem methD_sh (st : Store) (m : Meth) (x : D) (ds : List D) : RE b (shD b.length) (methD st m x ds) (methD (upT b st) m (shD b.length x) (ds.map (shD b.length))) := by
  cases m with
  | append =>
    refine p1_sh (st := st) ds fun d => ?_
    cases x with
    | loc n =>
      simp only [appendD, shD, listAt_up]
      cases listAt st n with
      | none => exact True.intro
      | some ds =>
        simp only [Option.map_some, List.length_map]
        refine RR.ite (fun _ => ?_) fun _ => True.intro
        refine ⟨.non, ?_, rfl⟩
        have := upT_set (b := b) st n (.lst (ds ++ [d]))
        simp only [shOb, shDs_map, List.map_append, List.map_cons, List.map_nil] at this
        rw [this]
    | _ => exact True.intro
  | join =>
    refine p1_sh (st := st) ds fun d => ?_
    cases x with
    | str x =>
      simp only [joinD, shD, strLs_sh]
      cases strLs st d with
      | none => exact True.intro
      | some xs => exact RR.ite (fun _ => ⟨_, rfl, rfl⟩) fun _ => True.intro
    | _ => exact True.intro
  | split =>
    refine p1_sh (st := st) ds fun d => ?_
    cases x with
    | str x => cases d with
      | str y =>
        match y with
        | [] => exact True.intro
        | [c] =>
          simp only [splitD, shD]
          refine RR.ite (fun _ => ?_) fun _ => True.intro
          have := alloc_sh (b := b) st (.lst ((splitS c x).map .str))
          simpa only [shOb, shDs_map, List.map_map, Function.comp_def, shD] using this
        | _ :: _ :: _ => exact True.intro
      | _ => exact True.intro
    | _ => cases d <;> exact True.intro
  | _ => exact True.intro
theorem isiD_sh {s : Nat} (d : D) (t : Ty) : isiD (shD s d) t = isiD d t := by cases t <;> cases d <;> rfl
theorem isiA_sh {s : Nat} (a : A) (t : Ty) : isiA (shA s a) t = isiA a t := by
  cases a with
  | d d => simp only [isiA, shA, isiD_sh]
  | clo l cs => rfl
  | exn c fs => cases fs <;> rfl
theorem itOf_sh (st : Store) (d : D) : itOf (upT b st) (shD b.length d) = (itOf st d).map (shIt b.length) := by
  cases d with
  | loc n =>
    simp only [itOf, shD, listAt_up]
    cases listAt st n <;> rfl
  | _ => rfl
theorem calA_sh {s : Nat} (a : A) : calA (shA s a) = (calA a).map (shA s) := by
  cases a with
  | d d => cases d <;> rfl
  | _ => rfl
theorem plainAs_sh {s : Nat} : ∀ as : List A, plainAs (as.map (shA s)) = (plainAs as).map (List.map (shD s))
  | [] => rfl
  | a :: as => by
    cases a with
    | d d =>
      simp only [List.map_cons, shA, plainAs, plainAs_sh as]
      cases plainAs as <;> rfl
    | _ => rfl
theorem setItem_sh (st : Store) (o i v : D) : setItem (upT b st) (shD b.length o) (shD b.length i) (shD b.length v) = (setItem st o i v).map (upT b) := by
  cases o with
  | loc n => cases i with
    | int k =>
      simp only [setItem, shD, upT_get]
      cases st[n]? with
      | none => rfl
      | some o => cases o with | lst ds =>
        simp only [Option.map_some, shOb, shDs_map, List.length_map]
        cases ixN ds.length k with
        | none => rfl
        | some j =>
          simp only [Option.map_some]
          have := upT_set (b := b) st n (.lst (ds.set j v))
          simp only [shOb, shDs_map, List.map_set] at this
          rw [this]
    | _ => rfl
  | _ => cases i <;> rfl
theorem itAt_sh (st : Store) (J : It) (i : Nat) : (shIt b.length J).at (upT b st) i = (J.at st i).map (Option.map (shD b.length)) := by
  cases J with
  | lst n =>
    simp only [It.at, shIt, listAt_up]
    cases listAt st n <;> simp
  | tup ds => simp [It.at, shIt, shDs_map]
  | rng lo n =>
    simp only [It.at, shIt, Option.map_some]
    split <;> simp [shD]
  | str x =>
    simp only [It.at, shIt, Option.map_some]
    cases x[i]? <;> simp [shD]
  | enL n =>
    simp only [It.at, shIt, listAt_up]
    cases listAt st n with
    | none => rfl
    | some ds =>
      simp only [Option.map_some, List.getElem?_map]
      cases ds[i]? <;> simp [shD, shDs]
  | enT ds =>
    simp only [It.at, shIt, shDs_map, Option.map_some, List.getElem?_map]
    cases ds[i]? <;> simp [shD, shDs]
  | zLL n m =>
    simp only [It.at, shIt, listAt_up]
    cases listAt st n with
    | none => rfl
    | some xs => cases listAt st m with
      | none => rfl
      | some ys =>
        simp only [Option.map_some, List.getElem?_map]
        cases xs[i]? with
        | none => rfl
        | some x => cases ys[i]? <;> simp [shD, shDs]
  | zTT xs ys =>
    simp only [It.at, shIt, shDs_map, Option.map_some, List.getElem?_map]
    cases xs[i]? with
    | none => rfl
    | some x => cases ys[i]? <;> simp [shD, shDs]
end
end PF

set_option Elab.async false
set_option linter.all false
set_option maxRecDepth 100000
/-! The pure form: moved up: slots, loops, all forms, calls; closed texts. -/
namespace PF
section
variable {b : Store}
/-- slots: what is there below is there above -/
def ER (s : Nat) (ρ ρ' : Env) : Prop := ρ.length = ρ'.length ∧ ∀ (i : Nat) (a : A), ρ[i]? = some (some a) → ρ'[i]? = some (some (shA s a))
theorem ER.set {s : Nat} {ρ ρ' : Env} (h : ER s ρ ρ') (i : Nat) (a : A) : ER s (ρ.set i (some a)) (ρ'.set i (some (shA s a))) := by
  refine ⟨by simp [h.1], fun j c hj => ?_⟩
  rw [List.getElem?_set] at hj ⊢
  split at hj
  · rename_i e
    rw [if_pos e]
    split at hj
    · rename_i e2
      rw [if_pos (by rw [← h.1]; exact e2)]
      cases hj
      rfl
    · cases hj
  · rename_i e
    rw [if_neg e]
    exact h.2 j c hj
theorem ER.none {s : Nat} {ρ ρ' : Env} (h : ER s ρ ρ') (i : Nat) (x : Option A) : ER s (ρ.set i none) (ρ'.set i x) := by
  refine ⟨by simp [h.1], fun j c hj => ?_⟩
  rw [List.getElem?_set] at hj ⊢
  split at hj
  · split at hj <;> cases hj
  · rename_i e
    rw [if_neg e]
    exact h.2 j c hj
theorem ER.wipe {s : Nat} {ρ ρ' : Env} (h : ER s ρ ρ') : ∀ is : List Nat, ER s (PF.wipe ρ is) (PF.wipe ρ' is)
  | [] => h
  | i :: is => (ER.wipe h is).none i .none
theorem ER.dropX {s : Nat} {ρ ρ' : Env} (h : ER s ρ ρ') : ER s (PF.dropX ρ) (PF.dropX ρ') := by
  refine ⟨by simp [PF.dropX, h.1], fun i a hi => ?_⟩
  unfold PF.dropX at hi ⊢
  rw [List.getElem?_map] at hi ⊢
  cases e : ρ[i]? with
  | none => rw [e] at hi; cases hi
  | some o =>
    rw [e] at hi
    cases o with
    | none => cases hi
    | some c =>
      rw [h.2 i c e]
      cases c with
      | d d => cases hi; rfl
      | _ => cases hi
theorem slotD_sh {ρ ρ' : Env} (h : ER b.length ρ ρ') (i : Nat) (st : Store) : RE b (shD b.length) (slotD i ρ st) (slotD i ρ' (upT b st)) := by
  unfold slotD
  cases e : ρ[i]? with
  | none => exact True.intro
  | some o => cases o with
    | none => exact True.intro
    | some a => cases a with
      | d d =>
        rw [h.2 i _ e]
        exact ⟨_, rfl, rfl⟩
      | _ => exact True.intro
theorem slotA_sh {ρ ρ' : Env} (h : ER b.length ρ ρ') (i : Nat) (st : Store) : RE b (shA b.length) (slotA i ρ st) (slotA i ρ' (upT b st)) := by
  unfold slotA
  cases e : ρ[i]? with
  | none => exact True.intro
  | some o => cases o with
    | none => exact True.intro
    | some a =>
      rw [h.2 i _ e]
      exact ⟨_, rfl, rfl⟩
theorem slotsAt_sh {s : Nat} {ρ ρ' : Env} (h : ER s ρ ρ') : ∀ (is : List Nat) (as : List A), slotsAt ρ is = some as → slotsAt ρ' is = some (as.map (shA s))
  | [], as, e => by cases e; rfl
  | i :: is, as, e => by
    simp only [slotsAt] at e ⊢
    cases q : ρ[i]? with
    | none => rw [q] at e; cases e
    | some o => cases o with
      | none => rw [q] at e; cases e
      | some a =>
        rw [q] at e
        rw [h.2 i a q]
        cases r : slotsAt ρ is with
        | none => simp only [r] at e; cases e
        | some as' =>
          simp only [r, Option.map_some] at e
          cases e
          simp only [slotsAt_sh h is as' r, Option.map_some, List.map_cons]
/-- statements above -/
def SS (b : Store) (r r' : SR) : Prop :=
  match r with
  | .next ρ st => ∃ ρ', r' = .next ρ' (upT b st) ∧ ER b.length ρ ρ'
  | .ret d st => r' = .ret (shD b.length d) (upT b st)
  | .brk ρ st => ∃ ρ', r' = .brk ρ' (upT b st) ∧ ER b.length ρ ρ'
  | .exc x ρ st => ∃ ρ', r' = .exc (shX b.length x) ρ' (upT b st) ∧ ER b.length ρ ρ'
  | .stuck => True
theorem SS.sbnd {α β : Type} {R : α → β → Prop} {m : Res α} {M : Res β} {ρ ρ' : Env} {f : α → Store → SR} {F : β → Store → SR} (h : RR b R m M) (he : ER b.length ρ ρ') (hf : ∀ a c st, R a c → SS b (f a st) (F c (upT b st))) : SS b (PF.sbnd m ρ f) (PF.sbnd M ρ' F) := by
  cases m with
  | ok a st =>
    obtain ⟨c, rfl, hc⟩ := h
    exact hf a c st hc
  | exc x st =>
    have h : M = _ := h
    subst h
    exact ⟨ρ', rfl, he⟩
  | stuck => exact True.intro
theorem SS.seq {r r' : SR} {f F : Env → Store → SR} (h : SS b r r') (hf : ∀ ρ ρ' st, ER b.length ρ ρ' → SS b (f ρ st) (F ρ' (upT b st))) : SS b (seqS r f) (seqS r' F) := by
  cases r with
  | next ρ st =>
    obtain ⟨ρ', rfl, he⟩ := h
    exact hf ρ ρ' st he
  | ret d st =>
    have h : r' = _ := h
    subst h
    rfl
  | brk ρ st =>
    obtain ⟨ρ', rfl, he⟩ := h
    exact ⟨ρ', rfl, he⟩
  | exc x ρ st =>
    obtain ⟨ρ', rfl, he⟩ := h
    exact ⟨ρ', rfl, he⟩
  | stuck => exact True.intro
theorem loop_sh {item item' : Store → Nat → Option (Option D)} {body body' : D → Env → Store → SR} (hi : ∀ st i, item' (upT b st) i = (item st i).map (Option.map (shD b.length)))
    (hb : ∀ d ρ ρ' st, ER b.length ρ ρ' → SS b (body d ρ st) (body' (shD b.length d) ρ' (upT b st))) : ∀ (W W' i : Nat) (ρ ρ' : Env) (st : Store), W ≤ W' → ER b.length ρ ρ' → SS b (loopF item body W i ρ st) (loopF item' body' W' i ρ' (upT b st))
  | 0, _, _, _, _, _, _, _ => True.intro
  | W + 1, 0, i, ρ, ρ', st, hW, he => by omega
  | W + 1, W' + 1, i, ρ, ρ', st, hW, he => by
    simp only [loopF, hi]
    cases item st i with
    | none => exact True.intro
    | some o => cases o with
      | none => exact ⟨ρ', rfl, he⟩
      | some d =>
        simp only [Option.map_some]
        have h := hb d ρ ρ' st he
        cases e : body d ρ st with
        | next ρ1 st1 =>
          rw [e] at h
          obtain ⟨ρ2, h1, h2⟩ := h
          rw [h1]
          exact loop_sh hi hb W W' (i + 1) ρ1 ρ2 st1 (by omega) h2
        | ret d st1 =>
          rw [e] at h
          have h : _ = _ := h
          rw [h]
          rfl
        | brk ρ1 st1 =>
          rw [e] at h
          obtain ⟨ρ2, h1, h2⟩ := h
          rw [h1]
          exact ⟨ρ2, rfl, h2⟩
        | exc x ρ1 st1 =>
          rw [e] at h
          obtain ⟨ρ2, h1, h2⟩ := h
          rw [h1]
          exact ⟨ρ2, rfl, h2⟩
        | stuck => exact True.intro
theorem while_sh {c c' : Env → Store → Res Bool} {body body' : Env → Store → SR} (hc : ∀ ρ ρ' st, ER b.length ρ ρ' → RE b id (c ρ st) (c' ρ' (upT b st)))
    (hb : ∀ ρ ρ' st, ER b.length ρ ρ' → SS b (body ρ st) (body' ρ' (upT b st))) : ∀ (W W' : Nat) (ρ ρ' : Env) (st : Store), W ≤ W' → ER b.length ρ ρ' → SS b (whileF c body W ρ st) (whileF c' body' W' ρ' (upT b st))
  | 0, _, _, _, _, _, _ => True.intro
  | W + 1, 0, ρ, ρ', st, hW, he => by omega
  | W + 1, W' + 1, ρ, ρ', st, hW, he => by
    simp only [whileF]
    refine SS.sbnd (hc ρ ρ' st he) he fun t t' st1 ht => ?_
    have ht : t' = t := ht
    subst ht
    cases t' with
    | false => exact ⟨ρ', rfl, he⟩
    | true =>
      simp only [if_true]
      have h := hb ρ ρ' st1 he
      cases e : body ρ st1 with
      | next ρ1 st1 =>
        rw [e] at h
        obtain ⟨ρ2, h1, h2⟩ := h
        rw [h1]
        exact while_sh hc hb W W' ρ1 ρ2 st1 (by omega) h2
      | ret d st1 =>
        rw [e] at h
        have h : _ = _ := h
        rw [h]
        rfl
      | brk ρ1 st1 =>
        rw [e] at h
        obtain ⟨ρ2, h1, h2⟩ := h
        rw [h1]
        exact ⟨ρ2, rfl, h2⟩
      | exc x ρ1 st1 =>
        rw [e] at h
        obtain ⟨ρ2, h1, h2⟩ := h
        rw [h1]
        exact ⟨ρ2, rfl, h2⟩
      | stuck => exact True.intro
theorem comp_sh {item item' : Store → Nat → Option (Option D)} {turn turn' : D → Store → Res (Option D)} (hi : ∀ st i, item' (upT b st) i = (item st i).map (Option.map (shD b.length)))
    (hb : ∀ d st, RE b (Option.map (shD b.length)) (turn d st) (turn' (shD b.length d) (upT b st))) : ∀ (W W' i : Nat) (st : Store), W ≤ W' → RE b (List.map (shD b.length)) (compF item turn W i st) (compF item' turn' W' i (upT b st))
  | 0, _, _, _, _ => True.intro
  | W + 1, 0, i, st, hW => by omega
  | W + 1, W' + 1, i, st, hW => by
    simp only [compF, hi]
    cases item st i with
    | none => exact True.intro
    | some o => cases o with
      | none => exact ⟨_, rfl, rfl⟩
      | some d =>
        simp only [Option.map_some]
        refine (hb d st).bnd fun o o' st1 ho => (comp_sh hi hb W W' (i + 1) st1 (by omega)).bnd fun r r' st2 hr => ?_
        subst ho hr
        refine RR.okk ?_
        cases o <;> rfl
/-- all parts above -/
structure DR (b : Store) (d d' : Den) : Prop where
  e : ∀ ρ ρ' st, ER b.length ρ ρ' → RE b (shD b.length) (d.e ρ st) (d'.e ρ' (upT b st))
  ea : ∀ ρ ρ' st, ER b.length ρ ρ' → RE b (shA b.length) (d.ea ρ st) (d'.ea ρ' (upT b st))
  a : ∀ ρ ρ' st, ER b.length ρ ρ' → RE b (List.map (shD b.length)) (d.a ρ st) (d'.a ρ' (upT b st))
  aa : ∀ ρ ρ' st, ER b.length ρ ρ' → RE b (List.map (shA b.length)) (d.aa ρ st) (d'.aa ρ' (upT b st))
  t : ∀ ρ ρ' st, ER b.length ρ ρ' → RE b id (d.t ρ st) (d'.t ρ' (upT b st))
  g : ∀ x ρ ρ' st, ER b.length ρ ρ' → RR b (ER b.length) (d.g x ρ st) (d'.g (shD b.length x) ρ' (upT b st))
  gs : ∀ xs ρ ρ' st, ER b.length ρ ρ' → RR b (ER b.length) (d.gs xs ρ st) (d'.gs (xs.map (shD b.length)) ρ' (upT b st))
  i : ∀ ρ ρ' st, ER b.length ρ ρ' → RE b (shIt b.length) (d.i ρ st) (d'.i ρ' (upT b st))
  s : ∀ ρ ρ' st, ER b.length ρ ρ' → SS b (d.s ρ st) (d'.s ρ' (upT b st))
  ss : ∀ ρ ρ' st, ER b.length ρ ρ' → SS b (d.ss ρ st) (d'.ss ρ' (upT b st))
theorem DR.nn : DR b Den.none Den.none := ⟨fun _ _ _ _ => True.intro, fun _ _ _ _ => True.intro, fun _ _ _ _ => True.intro, fun _ _ _ _ => True.intro, fun _ _ _ _ => True.intro, fun _ _ _ _ _ => True.intro, fun _ _ _ _ _ => True.intro, fun _ _ _ _ => True.intro, fun _ _ _ _ => True.intro, fun _ _ _ _ => True.intro⟩
theorem intS_sh (d : D) (st : Store) : RE b (id : Option Int → Option Int) (oth ((intOf d).map some) st) (oth ((intOf (shD b.length d)).map some) (upT b st)) := RE.oth (by rw [intOf_sh]; cases intOf d <;> rfl)
theorem DR.expr {f f' : Env → Store → Res D} (h : ∀ ρ ρ' st, ER b.length ρ ρ' → RE b (shD b.length) (f ρ st) (f' ρ' (upT b st))) : DR b (exprDen f) (exprDen f') :=
  { DR.nn with
    e := h
    ea := fun ρ ρ' st he => (h ρ ρ' st he).bnd fun d d' st1 hd => by subst hd; exact ⟨_, rfl, rfl⟩
    t := fun ρ ρ' st he => (h ρ ρ' st he).bnd fun d d' st1 hd => by subst hd; exact intS_sh d st1 }
theorem DR.stmt {f f' : Env → Store → SR} (h : ∀ ρ ρ' st, ER b.length ρ ρ' → SS b (f ρ st) (f' ρ' (upT b st))) : DR b (stmtDen f) (stmtDen f') := { DR.nn with s := h }
theorem DR.tgt {f f' : D → Env → Store → Res Env} (h : ∀ x ρ ρ' st, ER b.length ρ ρ' → RR b (ER b.length) (f x ρ st) (f' (shD b.length x) ρ' (upT b st))) : DR b (tgtDen f) (tgtDen f') := { DR.nn with g := h }
theorem DR.it {f f' : Env → Store → Res It} (h : ∀ ρ ρ' st, ER b.length ρ ρ' → RE b (shIt b.length) (f ρ st) (f' ρ' (upT b st))) : DR b (itDen f) (itDen f') := { DR.nn with i := h }
theorem tru_sh {f f' : Env → Store → Res D} {ρ ρ' : Env} {st : Store} (h : RE b (shD b.length) (f ρ st) (f' ρ' (upT b st))) : RE b id (tru f ρ st) (tru f' ρ' (upT b st)) := by
  refine h.bnd fun d d' st1 hd => ?_
  subst hd
  exact RE.oth (by rw [truth_sh]; cases truth st1 d <;> rfl)
theorem parS_sh {s : Nat} : ∀ (is : List Nat) (ds : List D) (ρ ρ' : Env), ER s ρ ρ' → ∀ ρ1, parS is ds ρ = some ρ1 → ∃ ρ2, parS is (ds.map (shD s)) ρ' = some ρ2 ∧ ER s ρ1 ρ2
  | [], [], ρ, ρ', he, ρ1, e => by cases e; exact ⟨ρ', rfl, he⟩
  | [], _ :: _, ρ, ρ', he, ρ1, e => by cases e
  | _ :: _, [], ρ, ρ', he, ρ1, e => by cases e
  | i :: is, d :: ds, ρ, ρ', he, ρ1, e => parS_sh is ds _ _ (he.set i (.d d)) ρ1 e
theorem handle_sh {cs : List Nat} {slot : Option Nat} {h h' : Env → Store → SR} {r r' : SR} (hr : SS b r r') (hh : ∀ ρ ρ' st, ER b.length ρ ρ' → SS b (h ρ st) (h' ρ' (upT b st))) : SS b (handle cs slot h r) (handle cs slot h' r') := by
  cases r with
  | next ρ st =>
    obtain ⟨ρ', rfl, he⟩ := hr
    exact ⟨ρ', rfl, he⟩
  | ret d st =>
    have hr : r' = _ := hr
    subst hr
    rfl
  | brk ρ st =>
    obtain ⟨ρ', rfl, he⟩ := hr
    exact ⟨ρ', rfl, he⟩
  | stuck => exact True.intro
  | exc x ρ st =>
    obtain ⟨ρ', rfl, he⟩ := hr
    simp only [handle, shX]
    by_cases hcs : cs.contains x.c = true
    · simp only [hcs, if_true]
      cases slot with
      | none => exact True.intro
      | some i =>
        dsimp only
        have k := hh _ _ st (he.set i (.exn x.c x.fs))
        simp only [shA] at k
        cases q : h (ρ.set i (some (.exn x.c x.fs))) st with
        | next ρ1 st1 =>
          rw [q] at k
          obtain ⟨ρ2, h1, h2⟩ := k
          rw [h1]
          exact ⟨_, rfl, (h2.none i .none).dropX⟩
        | ret d st1 =>
          rw [q] at k
          have k : _ = _ := k
          rw [k]
          rfl
        | brk ρ1 st1 =>
          rw [q] at k
          obtain ⟨ρ2, h1, h2⟩ := k
          rw [h1]
          exact ⟨_, rfl, (h2.none i .none).dropX⟩
        | exc x ρ1 st1 => exact True.intro
        | stuck => exact True.intro
    · simp only [hcs, if_false]
      exact ⟨ρ', rfl, he⟩
theorem setD_sh {ρ ρ' : Env} {d x y : D} {st : Store} (he : ER b.length ρ ρ') : RR b (ER b.length) (setD ρ d x y st) (setD ρ' (shD b.length d) (shD b.length x) (shD b.length y) (upT b st)) := by
  unfold setD
  rw [setItem_sh]
  cases setItem st x y d with
  | none => exact True.intro
  | some st1 => exact ⟨_, rfl, he⟩
def CR (b : Store) (call call' : A → List A → Store → Res D) : Prop := ∀ f as st, RE b (shD b.length) (call f as st) (call' (shA b.length f) (as.map (shA b.length)) (upT b st))
theorem den_sh {W W' : Nat} {call call' : A → List A → Store → Res D} (hW : W ≤ W') (hc : CR b call call') : ∀ c : C, DR b (den W call c) (den W' call' c)
  | .k d => DR.expr fun ρ ρ' st he => ⟨_, rfl, by cases d <;> rfl⟩
  | .v i => { DR.expr (fun ρ ρ' st he => slotD_sh he i st) with ea := fun ρ ρ' st he => slotA_sh he i st }
  | .g d => DR.expr fun ρ ρ' st he => ⟨_, rfl, by cases d <;> rfl⟩
  | .gf i => DR.expr fun ρ ρ' st he => ⟨_, rfl, rfl⟩
  | .tup as => DR.expr fun ρ ρ' st he => ((den_sh hW hc as).a ρ ρ' st he).bnd fun x x' st1 hx => by subst hx; exact newTup_sh st1 x
  | .lst as => DR.expr fun ρ ρ' st he => ((den_sh hW hc as).a ρ ρ' st he).bnd fun x x' st1 hx => by subst hx; exact newList_sh st1 x
  | .bin o p q => DR.expr fun ρ ρ' st he => ((den_sh hW hc p).e ρ ρ' st he).bnd fun x x' st1 hx => ((den_sh hW hc q).e ρ ρ' st1 he).bnd fun y y' st2 hy => by subst hx hy; exact binD_sh st2 o x y
  | .neg p => DR.expr fun ρ ρ' st he => ((den_sh hW hc p).e ρ ρ' st he).bnd fun x x' st1 hx => by
      subst hx
      exact RE.oth (by rw [intOf_sh]; cases intOf x <;> rfl)
  | .not p => DR.expr fun ρ ρ' st he => (tru_sh ((den_sh hW hc p).e ρ ρ' st he)).bnd fun x x' st1 hx => by
      have hx : x' = x := hx
      subst hx
      exact ⟨_, rfl, rfl⟩
  | .cmp o p q => DR.expr fun ρ ρ' st he => ((den_sh hW hc p).e ρ ρ' st he).bnd fun x x' st1 hx => ((den_sh hW hc q).e ρ ρ' st1 he).bnd fun y y' st2 hy => by
      subst hx hy
      exact RE.oth (by rw [cmpD_sh]; cases cmpD st2 o x y <;> rfl)
  | .chain o u p q r => DR.expr fun ρ ρ' st he => ((den_sh hW hc p).e ρ ρ' st he).bnd fun x x' st1 hx => ((den_sh hW hc q).e ρ ρ' st1 he).bnd fun y y' st2 hy => by
      subst hx hy
      refine RR.bnd (R := fun (a c : Bool) => c = a) (RR.oth fun t ht => ⟨t, by rw [cmpD_sh]; exact ht, rfl⟩) fun t t' st3 ht => ?_
      subst ht
      cases t' with
      | false => exact ⟨_, rfl, rfl⟩
      | true =>
        simp only [if_true]
        refine ((den_sh hW hc r).e ρ ρ' st3 he).bnd fun z z' st4 hz => ?_
        subst hz
        exact RE.oth (by rw [cmpD_sh]; cases cmpD st4 u y z <;> rfl)
  | .and p q => DR.expr fun ρ ρ' st he => ((den_sh hW hc p).e ρ ρ' st he).bnd fun x x' st1 hx => by
      subst hx
      refine RR.bnd (R := fun (a c : Bool) => c = a) (RR.oth fun t ht => ⟨t, by rw [truth_sh]; exact ht, rfl⟩) fun t t' st3 ht => ?_
      subst ht
      cases t' with
      | false => exact ⟨_, rfl, rfl⟩
      | true => exact (den_sh hW hc q).e ρ ρ' st3 he
  | .or p q => DR.expr fun ρ ρ' st he => ((den_sh hW hc p).e ρ ρ' st he).bnd fun x x' st1 hx => by
      subst hx
      refine RR.bnd (R := fun (a c : Bool) => c = a) (RR.oth fun t ht => ⟨t, by rw [truth_sh]; exact ht, rfl⟩) fun t t' st3 ht => ?_
      subst ht
      cases t' with
      | true => exact ⟨_, rfl, rfl⟩
      | false => exact (den_sh hW hc q).e ρ ρ' st3 he
  | .ite c p q => DR.expr fun ρ ρ' st he => (tru_sh ((den_sh hW hc c).e ρ ρ' st he)).bnd fun t t' st1 ht => by
      have ht : t' = t := ht
      subst ht
      cases t' with
      | true => exact (den_sh hW hc p).e ρ ρ' st1 he
      | false => exact (den_sh hW hc q).e ρ ρ' st1 he
  | .idx p q => DR.expr fun ρ ρ' st he => ((den_sh hW hc p).e ρ ρ' st he).bnd fun x x' st1 hx => ((den_sh hW hc q).e ρ ρ' st1 he).bnd fun y y' st2 hy => by
      subst hx hy
      exact RE.oth (idxD_sh st2 x y)
  | .sl p lo hi => DR.expr fun ρ ρ' st he => ((den_sh hW hc p).e ρ ρ' st he).bnd fun x x' st1 hx => ((den_sh hW hc lo).t ρ ρ' st1 he).bnd fun y y' st2 hy => ((den_sh hW hc hi).t ρ ρ' st2 he).bnd fun z z' st3 hz => by
      have hy : y' = y := hy
      have hz : z' = z := hz
      subst hx hy hz
      exact slD_sh st3 y' z' x
  | .call f as => DR.expr fun ρ ρ' st he => ((den_sh hW hc f).ea ρ ρ' st he).bnd fun x x' st1 hx => by
      subst hx
      refine RR.bnd (R := fun a c => c = shA b.length a) (RE.oth (calA_sh x)) fun y y' st2 hy => ?_
      refine ((den_sh hW hc as).aa ρ ρ' st2 he).bnd fun z z' st3 hz => ?_
      subst hy hz
      exact hc y z st3
  | .prim p as => DR.expr fun ρ ρ' st he => ((den_sh hW hc as).a ρ ρ' st he).bnd fun x x' st1 hx => by subst hx; exact primD_sh st1 p x
  | .meth m o a => DR.expr fun ρ ρ' st he => ((den_sh hW hc o).e ρ ρ' st he).bnd fun x x' st1 hx => by
      subst hx
      refine RR.bnd (R := fun a c => c = shD b.length a) (RE.oth (recv_sh m x)) fun y y' st2 hy => ?_
      refine RR.bnd (R := fun (x : List D) y => y = x.map (shD b.length)) (((den_sh hW hc a).e ρ ρ' st2 he).bnd fun d d' st3 hd => ?_) fun z z' st3 hz => ?_
      · subst hd
        exact ⟨_, rfl, rfl⟩
      · subst hy hz
        exact methD_sh st3 m y z
  | .isi a t => DR.expr fun ρ ρ' st he => ((den_sh hW hc a).ea ρ ρ' st he).bnd fun x x' st1 hx => by
      subst hx
      exact RE.oth (by rw [isiA_sh]; cases isiA x t <;> rfl)
  | .comp elt tg it cond own => DR.expr fun ρ ρ' st he => ((den_sh hW hc it).i ρ ρ' st he).bnd fun J J' st1 hJ => by
      subst hJ
      refine RR.bnd (R := fun (x : List D) y => y = x.map (shD b.length)) (comp_sh (fun st i => itAt_sh st J i) (fun d st => ?_) W W' 0 st1 hW) fun x x' st2 hx => by subst hx; exact newList_sh st2 x
      refine RR.noX (((den_sh hW hc tg).g d _ _ st (he.wipe own)).bnd fun ρ1 ρ2 st2 h2 => ?_)
      refine (tru_sh ((den_sh hW hc cond).e ρ1 ρ2 st2 h2)).bnd fun t t' st3 ht => ?_
      have ht : t' = t := ht
      subst ht
      cases t' with
      | false => exact ⟨_, rfl, rfl⟩
      | true =>
        simp only [if_true]
        exact ((den_sh hW hc elt).e ρ1 ρ2 st3 h2).bnd fun y y' st4 hy => by subst hy; exact ⟨_, rfl, rfl⟩
  | .lam ps n body caps => by
      cases caps with
      | nil => exact DR.expr fun ρ ρ' st he => ⟨_, rfl, rfl⟩
      | cons i is =>
        refine { DR.nn with ea := fun ρ ρ' st he => ?_ }
        refine RR.oth fun a ha => ?_
        · refine ⟨_, ?_, rfl⟩
          cases q : slotsAt ρ (i :: is) with
          | none => rw [q] at ha; cases ha
          | some as =>
            rw [q] at ha
            cases ha
            rw [slotsAt_sh he _ _ q]
            simp only [Option.map_some, shA, shAs_map]
  | .attr a n => DR.expr fun ρ ρ' st he => ((den_sh hW hc a).ea ρ ρ' st he).bnd fun x x' st1 hx => by
      subst hx
      cases x with
      | exn c fs => exact RE.oth (by simp [shDs_map])
      | _ => exact True.intro
  | .hcall f j => DR.expr fun ρ ρ' st he => (slotA_sh he j st).bnd fun x x' st1 hx => by
      subst hx
      cases x with
      | exn c fs =>
        have := hc (.d (.fn f)) [.exn c fs] st1
        simp only [List.map_cons, List.map_nil, shA, shD] at this
        exact this
      | _ => exact True.intro
  | .nil => { DR.nn with
      a := fun ρ ρ' st he => ⟨_, rfl, rfl⟩
      aa := fun ρ ρ' st he => ⟨_, rfl, rfl⟩
      gs := fun xs ρ ρ' st he => by
        cases xs with
        | nil => exact ⟨_, rfl, he⟩
        | cons x xs => exact True.intro
      ss := fun ρ ρ' st he => ⟨_, rfl, he⟩ }
  | .cons p q => { DR.nn with
      a := fun ρ ρ' st he => ((den_sh hW hc p).e ρ ρ' st he).bnd fun x x' st1 hx => ((den_sh hW hc q).a ρ ρ' st1 he).bnd fun y y' st2 hy => by subst hx hy; exact ⟨_, rfl, rfl⟩
      aa := fun ρ ρ' st he => ((den_sh hW hc p).ea ρ ρ' st he).bnd fun x x' st1 hx => ((den_sh hW hc q).aa ρ ρ' st1 he).bnd fun y y' st2 hy => by subst hx hy; exact ⟨_, rfl, rfl⟩
      gs := fun xs ρ ρ' st he => by
        cases xs with
        | nil => exact True.intro
        | cons x xs => exact ((den_sh hW hc p).g x ρ ρ' st he).bnd fun ρ1 ρ2 st1 h1 => (den_sh hW hc q).gs xs ρ1 ρ2 st1 h1
      ss := fun ρ ρ' st he => SS.seq ((den_sh hW hc p).s ρ ρ' st he) fun ρ1 ρ2 st1 h1 => (den_sh hW hc q).ss ρ1 ρ2 st1 h1 }
  | .no => { DR.nn with t := fun ρ ρ' st he => ⟨_, rfl, rfl⟩ }
  | .tn i => DR.tgt fun x ρ ρ' st he => ⟨_, rfl, he.set i (.d x)⟩
  | .tt ts => DR.tgt fun x ρ ρ' st he => RR.bnd (R := fun (a : List D) c => c = a.map (shD b.length)) (RE.oth (by cases x <;> simp [unpack, shD, shDs_map])) fun xs xs' st1 hx => by
      subst hx
      exact RR.noX ((den_sh hW hc ts).gs xs ρ ρ' st1 he)
  | .tsub o i => DR.tgt fun d ρ ρ' st he => ((den_sh hW hc o).e ρ ρ' st he).bnd fun x x' st1 hx => ((den_sh hW hc i).e ρ ρ' st1 he).bnd fun y y' st2 hy => by subst hx hy; exact setD_sh he
  | .iv a => DR.it fun ρ ρ' st he => ((den_sh hW hc a).e ρ ρ' st he).bnd fun x x' st1 hx => by subst hx; exact RE.oth (itOf_sh st1 x)
  | .ir1 a => DR.it fun ρ ρ' st he => ((den_sh hW hc a).e ρ ρ' st he).bnd fun x x' st1 hx => by
      subst hx
      cases x with
      | int j =>
        simp only [rng1, shD]
        exact RR.ite (fun _ => ⟨_, rfl, rfl⟩) fun _ => True.intro
      | _ => exact True.intro
  | .ir2 p q => DR.it fun ρ ρ' st he => ((den_sh hW hc p).e ρ ρ' st he).bnd fun x x' st1 hx => ((den_sh hW hc q).e ρ ρ' st1 he).bnd fun y y' st2 hy => by
      subst hx hy
      cases x with
      | int i => cases y with
        | int j =>
          simp only [rng2, shD]
          exact RR.ite (fun _ => ⟨_, rfl, rfl⟩) fun _ => True.intro
        | _ => exact True.intro
      | _ => exact True.intro
  | .ien a => DR.it fun ρ ρ' st he => ((den_sh hW hc a).e ρ ρ' st he).bnd fun x x' st1 hx => by
      subst hx
      cases x with
      | loc n =>
        simp only [enumOf, shD, listAt_up]
        cases listAt st1 n with
        | none => exact True.intro
        | some ds => exact ⟨_, rfl, rfl⟩
      | _ => exact True.intro
  | .izip p q => DR.it fun ρ ρ' st he => ((den_sh hW hc p).e ρ ρ' st he).bnd fun x x' st1 hx => ((den_sh hW hc q).e ρ ρ' st1 he).bnd fun y y' st2 hy => by
      subst hx hy
      cases x with
      | loc n => cases y with
        | loc m =>
          simp only [zipOf, shD, listAt_up]
          cases listAt st2 n with
          | none => exact True.intro
          | some ds => cases listAt st2 m with
            | none => exact True.intro
            | some es => exact ⟨_, rfl, rfl⟩
        | _ => exact True.intro
      | tup n => cases y with
        | tup m => exact ⟨_, rfl, rfl⟩
        | _ => exact True.intro
      | _ => exact True.intro
  | .izl p q => DR.it fun ρ ρ' st he => ((den_sh hW hc p).e ρ ρ' st he).bnd fun x x' st1 hx => ((den_sh hW hc q).e ρ ρ' st1 he).bnd fun y y' st2 hy => by
      subst hx hy
      cases x with
      | loc n => cases y with
        | loc m =>
          simp only [zipL, shD, listAt_up]
          cases listAt st2 n with
          | none => exact True.intro
          | some ds => cases listAt st2 m with
            | none => exact True.intro
            | some es => exact ⟨_, rfl, rfl⟩
        | _ => exact True.intro
      | _ => exact True.intro
  | .asg t e => DR.stmt fun ρ ρ' st he => SS.sbnd ((den_sh hW hc e).e ρ ρ' st he) he fun x x' st1 hx => by
      subst hx
      exact SS.sbnd ((den_sh hW hc t).g x ρ ρ' st1 he) he fun ρ1 ρ2 st2 h2 => ⟨_, rfl, h2⟩
  | .par is as => DR.stmt fun ρ ρ' st he => SS.sbnd ((den_sh hW hc as).a ρ ρ' st he) he fun x x' st1 hx => by
      subst hx
      exact SS.sbnd (R := ER b.length) (RR.oth fun ρ1 h1 => parS_sh is x ρ ρ' he ρ1 h1) he fun ρ1 ρ2 st2 h2 => ⟨_, rfl, h2⟩
  | .ex e => DR.stmt fun ρ ρ' st he => SS.sbnd ((den_sh hW hc e).e ρ ρ' st he) he fun x x' st1 hx => ⟨_, rfl, he⟩
  | .ret e => DR.stmt fun ρ ρ' st he => SS.sbnd ((den_sh hW hc e).e ρ ρ' st he) he fun x x' st1 hx => by subst hx; rfl
  | .retN => DR.stmt fun ρ ρ' st he => rfl
  | .pass => DR.stmt fun ρ ρ' st he => ⟨_, rfl, he⟩
  | .brk => DR.stmt fun ρ ρ' st he => ⟨_, rfl, he⟩
  | .iff c p q => DR.stmt fun ρ ρ' st he => SS.sbnd (tru_sh ((den_sh hW hc c).e ρ ρ' st he)) he fun t t' st1 ht => by
      have ht : t' = t := ht
      subst ht
      cases t' with
      | true => exact (den_sh hW hc p).ss ρ ρ' st1 he
      | false => exact (den_sh hW hc q).ss ρ ρ' st1 he
  | .forr t it body => DR.stmt fun ρ ρ' st he => SS.sbnd ((den_sh hW hc it).i ρ ρ' st he) he fun J J' st1 hJ => by
      subst hJ
      exact loop_sh (fun st i => itAt_sh st J i) (fun d ρ ρ' st he => SS.sbnd ((den_sh hW hc t).g d ρ ρ' st he) he fun ρ1 ρ2 st2 h2 => (den_sh hW hc body).ss ρ1 ρ2 st2 h2) W W' 0 ρ ρ' st1 hW he
  | .whl c body => DR.stmt fun ρ ρ' st he => while_sh (fun ρ ρ' st he => tru_sh ((den_sh hW hc c).e ρ ρ' st he)) (fun ρ ρ' st he => (den_sh hW hc body).ss ρ ρ' st he) W W' ρ ρ' st hW he
  | .raise c as => DR.stmt fun ρ ρ' st he => SS.sbnd ((den_sh hW hc as).a ρ ρ' st he) he fun x x' st1 hx => by
      subst hx
      exact ⟨_, by simp only [shX, shDs_map], he⟩
  | .tryx body cs slot h => DR.stmt fun ρ ρ' st he => handle_sh ((den_sh hW hc body).ss ρ ρ' st he) fun ρ ρ' st he => (den_sh hW hc h).ss ρ ρ' st he
theorem endD_sh {r r' : SR} (h : SS b r r') : RE b (shD b.length) (endD r) (endD r') := by
  cases r with
  | next ρ st =>
    obtain ⟨ρ', rfl, he⟩ := h
    exact ⟨_, rfl, rfl⟩
  | ret d st =>
    have h : r' = _ := h
    subst h
    exact ⟨_, rfl, rfl⟩
  | brk ρ st => exact True.intro
  | exc x ρ st =>
    obtain ⟨ρ', rfl, he⟩ := h
    rfl
  | stuck => exact True.intro
theorem startD_sh {s : Nat} (d : Def) (as : List A) : ER s (startD d as) (startD d (as.map (shA s))) := by
  unfold startD
  refine ⟨by simp, fun i a hi => ?_⟩
  rw [List.length_map]
  by_cases h : i < as.length
  · rw [List.getElem?_append_left (by simpa using h)] at hi ⊢
    · simp only [List.getElem?_map, Option.map_map] at hi ⊢
      cases e : as[i]? with
      | none => rw [e] at hi; cases hi
      | some c => rw [e] at hi; cases hi; rfl
  · rw [List.getElem?_append_right (by simp; omega)] at hi
    simp only [List.length_map, List.getElem?_replicate] at hi
    split at hi <;> cases hi
theorem callN_sh (P : Prog) {W W' : Nat} (hW : W ≤ W') : ∀ n n' : Nat, n ≤ n' → CR b (callN P W n) (callN P W' n')
  | 0, _, _, f, as, st => True.intro
  | n + 1, 0, hn, f, as, st => by omega
  | n + 1, n' + 1, hn, f, as, st => by
    have ih := callN_sh P hW n n' (by omega)
    cases f with
    | d d => cases d with
      | fn i =>
        simp only [callN, shA, shD]
        cases P.defs[i]? with
        | none => exact True.intro
        | some d =>
          simp only [List.length_map]
          exact RR.ite (fun _ => endD_sh ((den_sh hW ih d.body).ss _ _ st (startD_sh d as))) fun _ => True.intro
      | lam l =>
        simp only [callN, shA, shD, plainAs_sh]
        cases plainAs as with
        | none => exact True.intro
        | some ds =>
          simp only [Option.map_some, List.length_map]
          refine RR.ite (fun _ => (den_sh hW ih l.body).e _ _ st ?_) fun _ => True.intro
          have := startD_sh (s := b.length) l (ds.map .d)
          simpa only [List.map_map, Function.comp_def, shA] using this
      | _ => exact True.intro
    | clo l cs =>
      simp only [callN, shA, plainAs_sh]
      cases plainAs as with
      | none => exact True.intro
      | some ds =>
        simp only [Option.map_some, List.length_map]
        refine RR.ite (fun _ => (den_sh hW ih l.body).e _ _ st ?_) fun _ => True.intro
        have := startD_sh (s := b.length) l (ds.map .d ++ cs)
        simpa only [List.map_map, Function.comp_def, shA, List.map_append, shAs_map] using this
    | exn c fs => exact True.intro
end
/-! ### closed texts -/
def isRet (p : D → Bool) : SR → Bool
  | .ret d _ => p d
  | _ => false
def isNext (m : Nat) : SR → Bool
  | .next ρ _ => ρ.length == m
  | _ => false
def isOk (p : D → Bool) : Res D → Bool
  | .ok d _ => p d
  | _ => false
def isT : D → Bool
  | .bl true => true
  | _ => false
theorem Ex.up (b st : Store) : b.length ≤ (upT b st).length ∧ ∀ i ds, listAt b i = some ds → listAt (upT b st) i = some ds := ⟨by rw [upT_len]; omega, fun i ds h => listAt_app h⟩
theorem ER.empty (s : Nat) (ρ : Env) : ER s (List.replicate ρ.length Option.none) ρ := ⟨by simp, fun i a h => by rw [List.getElem?_replicate] at h; split at h <;> cases h⟩
def getV : Res D → Option D
  | .ok d _ => some d
  | _ => none
def getL : Res D → Option (List D)
  | .ok (.loc n) st => listAt st n
  | _ => none
section
variable {P : Prog} {W W' n n' : Nat} {b : Store} {N B : Env → Store → Prop} {R : D → Store → Prop} {E : Xn → Store → Prop}
/-- statements that give back True, whatever the slots and the store are -/
theorem wss_true {c : C} {ρ : Env} {m : Nat} (hm : ρ.length = m) (hW : W ≤ W') (hn : n ≤ n') (h : isRet isT ((den W (callN P W n) c).ss (List.replicate m none) []) = true) (q : ∀ st', (b.length ≤ st'.length ∧ ∀ i ds, listAt b i = some ds → listAt st' i = some ds) → R (.bl true) st') : wss W' (callN P W' n') c ρ b N R B E := by
  subst hm
  have z := (den_sh (b := b) hW (callN_sh P hW n n' hn) c).ss _ ρ [] (ER.empty b.length ρ)
  rw [upT_nil] at z
  show wpS ((den W' (callN P W' n') c).ss ρ b) N R B E
  cases e : (den W (callN P W n) c).ss (List.replicate ρ.length none) [] with
  | ret d st =>
    rw [e] at h z
    have z : _ = _ := z
    rw [z]
    cases d with
    | bl t => cases t with
      | true => exact q _ (Ex.up b st)
      | false => cases h
    | _ => cases h
  | next ρ st => rw [e] at h; cases h
  | brk ρ st => rw [e] at h; cases h
  | exc x ρ st => rw [e] at h; cases h
  | stuck => rw [e] at h; cases h
/-- an expression's value, from the slots that are known -/
theorem we_up {c : C} {ρ0 ρ : Env} {d : D} {st1 : Store} {Q : D → Store → Prop} (hW : W ≤ W') (hn : n ≤ n') (h : (den W (callN P W n) c).e ρ0 [] = .ok d st1) (he : ER b.length ρ0 ρ) (q : Q (shD b.length d) (upT b st1)) : we W' (callN P W' n') c ρ b Q E := by
  have z := (den_sh (b := b) hW (callN_sh P hW n n' hn) c).e _ ρ [] he
  rw [upT_nil, h] at z
  obtain ⟨x, z1, rfl⟩ := z
  show wp ((den W' (callN P W' n') c).e ρ b) Q E
  rw [z1]
  exact q
/-- a call's value -/
theorem call_up {f f' : A} {as as' : List A} {d : D} {st1 : Store} {Q : D → Store → Prop} (hW : W ≤ W') (hn : n ≤ n') (h : callN P W n f as [] = .ok d st1) (hf : shA b.length f = f') (ha : as.map (shA b.length) = as') (q : Q (shD b.length d) (upT b st1)) : wp (callN P W' n' f' as' b) Q E := by
  have z := callN_sh (b := b) P hW n n' hn f as []
  rw [upT_nil, h] at z
  obtain ⟨x, z1, rfl⟩ := z
  rw [← hf, ← ha, z1]
  exact q
/-- a call whose value has no list in it -/
theorem call_val {f f' : A} {as as' : List A} {d : D} {Q : D → Store → Prop} (hW : W ≤ W') (hn : n ≤ n') (h : getV (callN P W n f as []) = some d) (hf : shA b.length f = f') (ha : as.map (shA b.length) = as') (q : ∀ st', (b.length ≤ st'.length ∧ ∀ i ds, listAt b i = some ds → listAt st' i = some ds) → Q (shD b.length d) st') : wp (callN P W' n' f' as' b) Q E := by
  cases e : callN P W n f as [] with
  | ok d' st1 =>
    rw [e] at h
    cases h
    exact call_up hW hn e hf ha (q _ (Ex.up b st1))
  | exc x st => rw [e] at h; cases h
  | stuck => rw [e] at h; cases h
/-- a call that gives a list -/
theorem call_lst {f f' : A} {as as' : List A} {ds : List D} {Q : D → Store → Prop} (hW : W ≤ W') (hn : n ≤ n') (h : getL (callN P W n f as []) = some ds) (hf : shA b.length f = f') (ha : as.map (shA b.length) = as') (q : ∀ k st', (b.length ≤ st'.length ∧ ∀ i ds, listAt b i = some ds → listAt st' i = some ds) → b.length ≤ k → listAt st' k = some (ds.map (shD b.length)) → Q (.loc k) st') : wp (callN P W' n' f' as' b) Q E := by
  cases e : callN P W n f as [] with
  | ok d' st1 =>
    rw [e] at h
    cases d' with
    | loc k =>
      have h : listAt st1 k = some ds := h
      refine call_up hW hn e hf ha (q _ _ (Ex.up b st1) (by omega) ?_)
      rw [listAt_up, h]
      rfl
    | _ => cases h
  | exc x st => rw [e] at h; cases h
  | stuck => rw [e] at h; cases h
end
end PF

set_option Elab.async false
set_option linter.all false
set_option maxRecDepth 100000
/-! The pure form: slots that a text does not set. -/
namespace PF
/-- slot i is not set -/
def keep (i : Nat) : C → Bool
  | .cons a as => keep i a && keep i as
  | .tn j => j != i
  | .tt ts => keep i ts
  | .asg t _ => keep i t
  | .par is _ => !is.contains i
  | .iff _ a b => keep i a && keep i b
  | .forr t _ b => keep i t && keep i b
  | .whl _ b => keep i b
  | .tryx b _ slot h => slot != some i && keep i b && keep i h
  | _ => true
def Fz (i : Nat) (ρ ρ' : Env) : Prop := ∀ d, ρ[i]? = some (some (.d d)) → ρ'[i]? = some (some (.d d))
theorem ER.one {s i : Nat} {a : A} {ρ : Env} (h : ρ[i]? = some (some a)) (ha : shA s a = a) : ER s ((List.replicate ρ.length Option.none).set i (some a)) ρ := by
  refine ⟨by simp, fun j c hj => ?_⟩
  rw [List.getElem?_set] at hj
  split at hj
  · rename_i e
    subst e
    split at hj
    · cases hj
      rw [ha]
      exact h
    · cases hj
  · rw [List.getElem?_replicate] at hj
    split at hj <;> cases hj
theorem Fz.refl (i : Nat) (ρ : Env) : Fz i ρ ρ := fun _ h => h
theorem Fz.trans {i : Nat} {a b c : Env} (h1 : Fz i a b) (h2 : Fz i b c) : Fz i a c := fun d h => h2 d (h1 d h)
theorem Fz.set {i j : Nat} (h : j ≠ i) (ρ : Env) (x : Option A) : Fz i ρ (ρ.set j x) := fun d e => by rw [List.getElem?_set_ne h]; exact e
theorem Fz.drop (i : Nat) (ρ : Env) : Fz i ρ (dropX ρ) := fun d e => by unfold dropX; rw [List.getElem?_map, e]; rfl
def KG (i : Nat) (ρ : Env) (r : Res Env) : Prop :=
  match r with
  | .ok ρ' _ => Fz i ρ ρ'
  | _ => True
def KS (i : Nat) (ρ : Env) (r : SR) : Prop :=
  match r with
  | .next ρ' _ => Fz i ρ ρ'
  | .brk ρ' _ => Fz i ρ ρ'
  | .exc _ ρ' _ => Fz i ρ ρ'
  | _ => True
theorem KS.trans {i : Nat} {ρ ρ1 : Env} {r : SR} (h : KS i ρ1 r) (f : Fz i ρ ρ1) : KS i ρ r := by cases r <;> first | exact f.trans h | exact True.intro
theorem KG.trans {i : Nat} {ρ ρ1 : Env} {r : Res Env} (h : KG i ρ1 r) (f : Fz i ρ ρ1) : KG i ρ r := by cases r <;> first | exact f.trans h | exact True.intro
theorem KG.bnd {α : Type} {i : Nat} {ρ : Env} {m : Res α} {f : α → Store → Res Env} (h : ∀ a st, KG i ρ (f a st)) : KG i ρ (PF.bnd m f) := by cases m <;> first | exact h _ _ | exact True.intro
theorem KG.noX {i : Nat} {ρ : Env} {m : Res Env} (h : KG i ρ m) : KG i ρ (PF.noX m) := by cases m <;> first | exact h | exact True.intro
theorem KS.sbnd {α : Type} {i : Nat} {ρ : Env} {m : Res α} {f : α → Store → SR} (h : ∀ a st, KS i ρ (f a st)) : KS i ρ (PF.sbnd m ρ f) := by cases m <;> first | exact h _ _ | exact Fz.refl _ _ | exact True.intro
theorem KS.sbndG {i : Nat} {ρ : Env} {m : Res Env} {f : Env → Store → SR} (hm : KG i ρ m) (h : ∀ a st, KS i a (f a st)) : KS i ρ (PF.sbnd m ρ f) := by cases m <;> first | exact (h _ _).trans hm | exact Fz.refl _ _ | exact True.intro
theorem KS.seq {i : Nat} {ρ : Env} {r : SR} {f : Env → Store → SR} (hr : KS i ρ r) (h : ∀ ρ st, KS i ρ (f ρ st)) : KS i ρ (seqS r f) := by cases r <;> first | exact (h _ _).trans hr | exact hr | exact True.intro
structure KD (i : Nat) (d : Den) : Prop where
  g : ∀ x ρ st, KG i ρ (d.g x ρ st)
  gs : ∀ x ρ st, KG i ρ (d.gs x ρ st)
  s : ∀ ρ st, KS i ρ (d.s ρ st)
  ss : ∀ ρ st, KS i ρ (d.ss ρ st)
theorem KD.nn {i : Nat} : KD i Den.none := ⟨fun _ _ _ => True.intro, fun _ _ _ => True.intro, fun _ _ => True.intro, fun _ _ => True.intro⟩
theorem KD.expr {i : Nat} {f : Env → Store → Res D} : KD i (exprDen f) := ⟨fun _ _ _ => True.intro, fun _ _ _ => True.intro, fun _ _ => True.intro, fun _ _ => True.intro⟩
theorem KD.it {i : Nat} {f : Env → Store → Res It} : KD i (itDen f) := ⟨fun _ _ _ => True.intro, fun _ _ _ => True.intro, fun _ _ => True.intro, fun _ _ => True.intro⟩
theorem KD.stmt {i : Nat} {f : Env → Store → SR} (h : ∀ ρ st, KS i ρ (f ρ st)) : KD i (stmtDen f) := { KD.nn with s := h }
theorem KD.tgt {i : Nat} {f : D → Env → Store → Res Env} (h : ∀ x ρ st, KG i ρ (f x ρ st)) : KD i (tgtDen f) := { KD.nn with g := h }
theorem loop_kp {i : Nat} {item : Store → Nat → Option (Option D)} {body : D → Env → Store → SR} (hb : ∀ d ρ st, KS i ρ (body d ρ st)) : ∀ (W k : Nat) (ρ : Env) (st : Store), KS i ρ (loopF item body W k ρ st)
  | 0, _, _, _ => True.intro
  | W + 1, k, ρ, st => by
    simp only [loopF]
    split
    · exact True.intro
    · exact Fz.refl _ _
    · rename_i d _
      have h := hb d ρ st
      split
      · rename_i e; rw [e] at h; exact (loop_kp hb W _ _ _).trans h
      · rename_i e; rw [e] at h; exact h
      · exact True.intro
      · rename_i e; rw [e] at h; exact h
      · exact True.intro
theorem while_kp {i : Nat} {c : Env → Store → Res Bool} {body : Env → Store → SR} (hb : ∀ ρ st, KS i ρ (body ρ st)) : ∀ (W : Nat) (ρ : Env) (st : Store), KS i ρ (whileF c body W ρ st)
  | 0, _, _ => True.intro
  | W + 1, ρ, st => by
    simp only [whileF]
    refine KS.sbnd fun t st1 => ?_
    split
    · have h := hb ρ st1
      split
      · rename_i e; rw [e] at h; exact (while_kp hb W _ _).trans h
      · rename_i e; rw [e] at h; exact h
      · exact True.intro
      · rename_i e; rw [e] at h; exact h
      · exact True.intro
    · exact Fz.refl _ _
theorem par_kp {i : Nat} : ∀ (is : List Nat) (ds : List D) (ρ ρ' : Env), is.contains i = false → parS is ds ρ = some ρ' → Fz i ρ ρ'
  | [], [], ρ, ρ', _, e => by cases e; exact Fz.refl _ _
  | [], _ :: _, _, _, _, e => by cases e
  | _ :: _, [], _, _, _, e => by cases e
  | j :: is, d :: ds, ρ, ρ', h, e => by
    simp only [List.contains_cons, Bool.or_eq_false_iff, beq_eq_false_iff_ne] at h
    exact (Fz.set (Ne.symm h.1) ρ _).trans (par_kp is ds _ _ h.2 e)
theorem handle_kp {i : Nat} {cs : List Nat} {slot : Option Nat} {h : Env → Store → SR} {ρ : Env} {r : SR} (hs : slot ≠ some i) (hr : KS i ρ r) (hh : ∀ ρ st, KS i ρ (h ρ st)) : KS i ρ (handle cs slot h r) := by
  cases r with
  | exc x ρ1 st1 =>
    simp only [handle]
    split
    · cases slot with
      | none => exact True.intro
      | some j =>
        have hj : j ≠ i := fun e => hs (by rw [e])
        dsimp only
        have k := (hh (ρ1.set j (some (.exn x.c x.fs))) st1).trans (Fz.trans hr (Fz.set hj ρ1 _))
        cases q : h (ρ1.set j (some (.exn x.c x.fs))) st1 with
        | next ρ2 st2 => rw [q] at k; exact (Fz.trans k (Fz.set hj ρ2 none)).trans (Fz.drop i _)
        | brk ρ2 st2 => rw [q] at k; exact (Fz.trans k (Fz.set hj ρ2 none)).trans (Fz.drop i _)
        | _ => exact True.intro
    · exact hr
  | _ => exact hr
theorem den_kp {W i : Nat} {call : A → List A → Store → Res D} : ∀ c : C, keep i c = true → KD i (den W call c)
  | .k _, _ => KD.expr
  | .v _, _ => ⟨fun _ _ _ => True.intro, fun _ _ _ => True.intro, fun _ _ => True.intro, fun _ _ => True.intro⟩
  | .g _, _ => KD.expr
  | .gf _, _ => KD.expr
  | .tup _, _ => KD.expr
  | .lst _, _ => KD.expr
  | .bin _ _ _, _ => KD.expr
  | .neg _, _ => KD.expr
  | .not _, _ => KD.expr
  | .cmp _ _ _, _ => KD.expr
  | .chain _ _ _ _ _, _ => KD.expr
  | .and _ _, _ => KD.expr
  | .or _ _, _ => KD.expr
  | .ite _ _ _, _ => KD.expr
  | .idx _ _, _ => KD.expr
  | .sl _ _ _, _ => KD.expr
  | .call _ _, _ => KD.expr
  | .prim _ _, _ => KD.expr
  | .meth _ _ _, _ => KD.expr
  | .isi _ _, _ => KD.expr
  | .comp _ _ _ _ _, _ => KD.expr
  | .lam _ _ _ caps, _ => by cases caps <;> exact ⟨fun _ _ _ => True.intro, fun _ _ _ => True.intro, fun _ _ => True.intro, fun _ _ => True.intro⟩
  | .attr _ _, _ => KD.expr
  | .hcall _ _, _ => KD.expr
  | .nil, _ => ⟨fun _ _ _ => True.intro, fun xs ρ st => by cases xs <;> first | exact Fz.refl _ _ | exact True.intro, fun _ _ => True.intro, fun _ _ => Fz.refl _ _⟩
  | .cons a as, h => by
    simp only [keep, Bool.and_eq_true] at h
    have h1 := den_kp (W := W) (call := call) a h.1
    have h2 := den_kp (W := W) (call := call) as h.2
    refine ⟨fun _ _ _ => True.intro, fun xs ρ st => ?_, fun _ _ => True.intro, fun ρ st => KS.seq (h1.s ρ st) h2.ss⟩
    cases xs with
    | nil => exact True.intro
    | cons x xs =>
      show KG i ρ (bnd _ _)
      have k := h1.g x ρ st
      cases e : (den W call a).g x ρ st with
      | ok ρ1 st1 => rw [e] at k; exact (h2.gs xs ρ1 st1).trans k
      | _ => exact True.intro
  | .no, _ => ⟨fun _ _ _ => True.intro, fun _ _ _ => True.intro, fun _ _ => True.intro, fun _ _ => True.intro⟩
  | .tn j, h => KD.tgt fun x ρ st => Fz.set (by simpa [keep] using h) ρ _
  | .tt ts, h => KD.tgt fun x ρ st => KG.bnd fun ds st1 => KG.noX ((den_kp ts h).gs ds ρ st1)
  | .tsub _ _, _ => KD.tgt fun x ρ st => KG.bnd fun y st1 => KG.bnd fun z st2 => by
      unfold setD
      split
      · exact Fz.refl _ _
      · exact True.intro
  | .iv _, _ => KD.it
  | .ir1 _, _ => KD.it
  | .ir2 _ _, _ => KD.it
  | .ien _, _ => KD.it
  | .izip _ _, _ => KD.it
  | .izl _ _, _ => KD.it
  | .asg t e, h => KD.stmt fun ρ st => KS.sbnd fun d st1 => KS.sbndG ((den_kp t h).g d ρ st1) fun _ _ => Fz.refl _ _
  | .par is as, h => KD.stmt fun ρ st => KS.sbnd fun ds st1 => by
      refine KS.sbndG ?_ fun _ _ => Fz.refl _ _
      cases e : parS is ds ρ with
      | none => exact True.intro
      | some ρ' => exact par_kp is ds ρ ρ' (by simpa [keep] using h) e
  | .ex _, _ => KD.stmt fun ρ st => KS.sbnd fun _ _ => Fz.refl _ _
  | .ret _, _ => KD.stmt fun ρ st => KS.sbnd fun _ _ => True.intro
  | .retN, _ => KD.stmt fun _ _ => True.intro
  | .pass, _ => KD.stmt fun _ _ => Fz.refl _ _
  | .brk, _ => KD.stmt fun _ _ => Fz.refl _ _
  | .iff c a b, h => by
    simp only [keep, Bool.and_eq_true] at h
    have h1 := den_kp (W := W) (call := call) a h.1
    have h2 := den_kp (W := W) (call := call) b h.2
    refine KD.stmt fun ρ st => KS.sbnd fun t st1 => ?_
    split
    · exact h1.ss ρ st1
    · exact h2.ss ρ st1
  | .forr t it b, h => by
    simp only [keep, Bool.and_eq_true] at h
    have h1 := den_kp (W := W) (call := call) t h.1
    have h2 := den_kp (W := W) (call := call) b h.2
    exact KD.stmt fun ρ st => KS.sbnd fun J st1 => loop_kp (fun d ρ st => KS.sbndG (h1.g d ρ st) h2.ss) W 0 ρ st1
  | .whl c b, h => KD.stmt fun ρ st => while_kp (fun ρ st => (den_kp b h).ss ρ st) W ρ st
  | .raise _ _, _ => KD.stmt fun ρ st => KS.sbnd fun _ _ => Fz.refl _ _
  | .tryx b cs slot hd, h => by
    simp only [keep, Bool.and_eq_true, bne_iff_ne] at h
    exact KD.stmt fun ρ st => handle_kp h.1.1 ((den_kp b h.1.2).ss ρ st) fun ρ st => (den_kp hd h.2).ss ρ st
section
variable {P : Prog} {W W' n n' : Nat} {b : Store} {N B : Env → Store → Prop} {R : D → Store → Prop} {E : Xn → Store → Prop}
/-- a statement from slots that are known: some slots stay -/
theorem ws_run {c : C} {ρ0 ρ : Env} (is : List Nat) (he : ER b.length ρ0 ρ) (hW : W ≤ W') (hn : n ≤ n') (hk : (is.all fun i => keep i c) = true) (h : isNext ρ0.length ((den W (callN P W n) c).s ρ0 []) = true)
    (q : ∀ ρ' st', ρ'.length = ρ.length → (∀ i ∈ is, Fz i ρ ρ') → (b.length ≤ st'.length ∧ ∀ i ds, listAt b i = some ds → listAt st' i = some ds) → N ρ' st') : ws W' (callN P W' n') c ρ b N R B E := by
  have z := (den_sh (b := b) hW (callN_sh P hW n n' hn) c).s _ ρ [] he
  rw [upT_nil] at z
  show wpS ((den W' (callN P W' n') c).s ρ b) N R B E
  cases e : (den W (callN P W n) c).s ρ0 [] with
  | next ρ1 st =>
    rw [e] at h z
    obtain ⟨ρ2, z1, z2⟩ := z
    have kk : ∀ i ∈ is, Fz i ρ ρ2 := fun i hi => by
      have := (den_kp (W := W') (call := callN P W' n') c (List.all_eq_true.mp hk i hi)).s ρ b
      rw [z1] at this
      exact this
    rw [z1]
    refine q ρ2 _ ?_ kk (Ex.up b st)
    rw [← z2.1, ← he.1]
    simpa [isNext] using h
  | ret d st => rw [e] at h; cases h
  | brk ρ st => rw [e] at h; cases h
  | exc x ρ st => rw [e] at h; cases h
  | stuck => rw [e] at h; cases h
/-- a closed statement: some slots stay -/
theorem ws_keep {c : C} {ρ : Env} {m : Nat} (is : List Nat) (hm : ρ.length = m) (hW : W ≤ W') (hn : n ≤ n') (hk : (is.all fun i => keep i c) = true) (h : isNext m ((den W (callN P W n) c).s (List.replicate m none) []) = true)
    (q : ∀ ρ' st', ρ'.length = m → (∀ i ∈ is, Fz i ρ ρ') → (b.length ≤ st'.length ∧ ∀ i ds, listAt b i = some ds → listAt st' i = some ds) → N ρ' st') : ws W' (callN P W' n') c ρ b N R B E := by
  subst hm
  exact ws_run is (ER.empty b.length ρ) hW hn hk (by simpa using h) q
/-- some statements, as one -/
theorem wss_run {c : C} {ρ0 ρ : Env} (is : List Nat) (he : ER b.length ρ0 ρ) (hW : W ≤ W') (hn : n ≤ n') (hk : (is.all fun i => keep i c) = true) (h : isNext ρ0.length ((den W (callN P W n) c).ss ρ0 []) = true)
    (q : ∀ ρ' st', ρ'.length = ρ.length → (∀ i ∈ is, Fz i ρ ρ') → (b.length ≤ st'.length ∧ ∀ i ds, listAt b i = some ds → listAt st' i = some ds) → N ρ' st') : wss W' (callN P W' n') c ρ b N R B E := by
  have z := (den_sh (b := b) hW (callN_sh P hW n n' hn) c).ss _ ρ [] he
  rw [upT_nil] at z
  show wpS ((den W' (callN P W' n') c).ss ρ b) N R B E
  cases e : (den W (callN P W n) c).ss ρ0 [] with
  | next ρ1 st =>
    rw [e] at h z
    obtain ⟨ρ2, z1, z2⟩ := z
    have kk : ∀ i ∈ is, Fz i ρ ρ2 := fun i hi => by
      have := (den_kp (W := W') (call := callN P W' n') c (List.all_eq_true.mp hk i hi)).ss ρ b
      rw [z1] at this
      exact this
    rw [z1]
    refine q ρ2 _ ?_ kk (Ex.up b st)
    rw [← z2.1, ← he.1]
    simpa [isNext] using h
  | ret d st => rw [e] at h; cases h
  | brk ρ st => rw [e] at h; cases h
  | exc x ρ st => rw [e] at h; cases h
  | stuck => rw [e] at h; cases h
end
end PF

set_option Elab.async false
set_option linter.all false
set_option maxRecDepth 100000
/-! The pure form: closed texts in pieces; small rules. -/
namespace PF
def tkC : Nat → C → C
  | n + 1, .cons a b => .cons a (tkC n b)
  | _, _ => .nil
def dpC : Nat → C → C
  | n + 1, .cons _ b => dpC n b
  | _, c => c
theorem wss_split {W : Nat} {call : A → List A → Store → Res D} {N B : Env → Store → Prop} {R : D → Store → Prop} {E : Xn → Store → Prop} : ∀ (n : Nat) (c : C) (ρ : Env) (st : Store), wss W call c ρ st N R B E = wss W call (tkC n c) ρ st (fun ρ1 st1 => wss W call (dpC n c) ρ1 st1 N R B E) R B E
  | 0, c, ρ, st => by simp only [tkC, dpC]; rfl
  | n + 1, c, ρ, st => by
    cases c with
    | cons a b =>
      simp only [tkC, dpC]
      rw [wss_cons, wss_cons]
      congr 1
      funext ρ1 st1
      exact wss_split n b ρ1 st1
    | _ => simp only [tkC, dpC]; rfl
def getSlot (i : Nat) : SR → Option D
  | .next ρ _ => match ρ[i]? with
    | some (some (.d d)) => some d
    | _ => none
  | _ => none
/-- some statements, as one: a slot that they set -/
theorem wss_runV {P : Prog} {W W' n n' : Nat} {b : Store} {N B : Env → Store → Prop} {R : D → Store → Prop} {E : Xn → Store → Prop} {c : C} {ρ0 ρ : Env} {i : Nat} {d : D} (he : ER b.length ρ0 ρ) (hW : W ≤ W') (hn : n ≤ n')
    (h : isNext ρ0.length ((den W (callN P W n) c).ss ρ0 []) = true) (hs : getSlot i ((den W (callN P W n) c).ss ρ0 []) = some d)
    (q : ∀ ρ' st', ρ'.length = ρ.length → ρ'[i]? = some (some (.d (shD b.length d))) → (b.length ≤ st'.length ∧ ∀ i ds, listAt b i = some ds → listAt st' i = some ds) → N ρ' st') : wss W' (callN P W' n') c ρ b N R B E := by
  have z := (den_sh (b := b) hW (callN_sh P hW n n' hn) c).ss _ ρ [] he
  rw [upT_nil] at z
  show wpS ((den W' (callN P W' n') c).ss ρ b) N R B E
  cases e : (den W (callN P W n) c).ss ρ0 [] with
  | next ρ1 st =>
    rw [e] at h z hs
    obtain ⟨ρ2, z1, z2⟩ := z
    rw [z1]
    refine q ρ2 _ ?_ ?_ (Ex.up b st)
    · rw [← z2.1, ← he.1]
      simpa [isNext] using h
    · have hs : (match ρ1[i]? with
        | some (some (.d d)) => some d
        | _ => none) = some d := hs
      split at hs
      · rename_i d' e'
        cases hs
        exact z2.2 i _ e'
      · cases hs
  | ret d st => rw [e] at h; cases h
  | brk ρ st => rw [e] at h; cases h
  | exc x ρ st => rw [e] at h; cases h
  | stuck => rw [e] at h; cases h
/-- statements that give back True, from slots that are known -/
theorem wss_trueE {P : Prog} {W W' n n' : Nat} {b : Store} {N B : Env → Store → Prop} {R : D → Store → Prop} {E : Xn → Store → Prop} {c : C} {ρ0 ρ : Env} (he : ER b.length ρ0 ρ) (hW : W ≤ W') (hn : n ≤ n') (h : isRet isT ((den W (callN P W n) c).ss ρ0 []) = true) (q : ∀ st', R (.bl true) st') : wss W' (callN P W' n') c ρ b N R B E := by
  have z := (den_sh (b := b) hW (callN_sh P hW n n' hn) c).ss _ ρ [] he
  rw [upT_nil] at z
  show wpS ((den W' (callN P W' n') c).ss ρ b) N R B E
  cases e : (den W (callN P W n) c).ss ρ0 [] with
  | ret d st =>
    rw [e] at h z
    have z : _ = _ := z
    rw [z]
    cases d with
    | bl t => cases t with
      | true => exact q _
      | false => cases h
    | _ => cases h
  | next ρ st => rw [e] at h; cases h
  | brk ρ st => rw [e] at h; cases h
  | exc x ρ st => rw [e] at h; cases h
  | stuck => rw [e] at h; cases h
theorem eqD_nils {st : Store} {n m : Nat} (h1 : listAt st n = some []) (h2 : listAt st m = some []) : eqD st (.loc n) (.loc m) = some true := by
  have d1 : ∀ {n}, listAt st n = some [] → dataF st LV (.loc n) = true := fun {n} h => by simp [LV, dataF, dataW, h, datasW]
  have d2 : ∀ {n}, listAt st n = some [] → depF st LV (.loc n) = 1 := fun {n} h => by simp [LV, depF, depW, h, depsW]
  rw [eqD_of (d1 h1) (d1 h2) (by rw [d2 h1, d2 h2]; decide)]
  simp [LV, eqF, eqW, h1, h2, eqsW]
theorem min2_int {st : Store} {i j : Int} : primD st .min2 [.int i, .int j] = .ok (.int (if j < i then j else i)) st := rfl
theorem max2_int {st : Store} {i j : Int} : primD st .max2 [.int i, .int j] = .ok (.int (if j > i then j else i)) st := rfl
theorem comp_zll {Q : List D → Store → Prop} {E : Xn → Store → Prop} {turn : D → Store → Res (Option D)} {n m : Nat} {xs ys : List D} {W : Nat} {st : Store} (J : List D → List D → Store → Prop) (hW : (List.zipWith (fun x y => D.tup [x, y]) xs ys).length < W) (hl : ∀ r acc st, J r acc st → listAt st n = some xs ∧ listAt st m = some ys) (h0 : J (List.zipWith (fun x y => D.tup [x, y]) xs ys) [] st)
    (hstep : ∀ d r acc st, J (d :: r) acc st → wp (turn d st) (fun o st' => J r (acc ++ o.toList) st') E) (hend : ∀ out st', J [] out st' → Q out st') : wp (compF (fun st i => (It.zLL n m).at st i) turn W 0 st) Q E :=
  comp_items _ (fun i acc st h => by
    obtain ⟨a, b⟩ := hl _ acc st h
    simp only [It.at, a, b, List.getElem?_zipWith]
    cases xs[i]? <;> cases ys[i]? <;> rfl) hstep W 0 [] st Q (Nat.zero_le _) hW h0 hend
end PF

set_option Elab.async false
set_option linter.all false
set_option maxRecDepth 100000
set_option maxHeartbeats 0
namespace K01
open PySem PySem.Spec PyProof.Rows L2 PF
/-- the core text, printed from the linked text by gen.py -/
def c_is_whole : C := .cons (.ret (.and (.isi (.v 0) .int) (.and (.not (.isi (.v 0) .bool)) (.chain .le .le (.v 1) (.v 0) (.v 2))))) .nil
def c_shape_of : C := .cons (.iff (.or (.not (.isi (.v 1) .tuple)) (.and (.cmp .ne (.v 1) (.tup .nil)) (.cmp .eq (.v 2) (.k (.int 0))))) (.cons (.ret (.k .non)) .nil) .nil) (.cons (.asg (.tn 3) (.k (.int 0))) (.cons (.forr (.tn 4) (.iv (.v 1)) (.cons (.iff (.or (.not (.isi (.v 4) .tuple)) (.or (.cmp .ne (.prim .len (.cons (.v 4) .nil)) (.k (.int 2))) (.not (.call (.gf 0) (.cons (.idx (.v 4) (.k (.int 0))) (.cons (.k (.int 0)) (.cons (.bin .sub (.v 0) (.k (.int 1))) .nil))))))) (.cons (.ret (.k .non)) .nil) .nil) (.cons (.asg (.tn 5) (.call (.gf 1) (.cons (.v 0) (.cons (.idx (.v 4) (.k (.int 1))) (.cons (.bin .sub (.v 2) (.k (.int 1))) .nil))))) (.cons (.iff (.or (.cmp .is (.v 5) (.k .non)) (.cmp .gt (.bin .add (.bin .add (.v 3) (.v 5)) (.k (.int 1))) (.g (.int 60)))) (.cons (.ret (.k .non)) .nil) .nil) (.cons (.asg (.tn 3) (.bin .add (.bin .add (.v 3) (.v 5)) (.k (.int 1)))) .nil))))) (.cons (.ret (.v 3)) .nil)))
def c_has_nesting : C := .cons (.ret (.cmp .isnot (.call (.gf 1) (.cons (.v 0) (.cons (.v 1) (.cons (.g (.int 12)) .nil)))) (.k .non))) .nil
def c_boxes_in : C := .cons (.ret (.prim .sumL (.cons (.comp (.bin .add (.k (.int 1)) (.call (.gf 3) (.cons (.v 2) .nil))) (.tt (.cons (.tn 1) (.cons (.tn 2) .nil))) (.iv (.v 0)) (.k (.bl true)) [1, 2]) .nil))) .nil
def c_depth_of : C := .cons (.ret (.prim .maxL (.cons (.bin .add (.lst (.cons (.k (.int 0)) .nil)) (.comp (.bin .add (.k (.int 1)) (.call (.gf 4) (.cons (.v 2) .nil))) (.tt (.cons (.tn 1) (.cons (.tn 2) .nil))) (.iv (.v 0)) (.k (.bl true)) [1, 2])) .nil))) .nil
def c_key_of : C := .cons (.ret (.tup (.cons (.call (.gf 3) (.cons (.v 0) .nil)) (.cons (.v 0) .nil)))) .nil
def c_need_stands : C := .cons (.iff (.not (.call (.gf 0) (.cons (.v 0) (.cons (.k (.int 2)) (.cons (.k (.int 3)) .nil))))) (.cons (.raise 5 .nil) .nil) .nil) .nil
def c_need_nesting : C := .cons (.iff (.not (.call (.gf 2) (.cons (.v 0) (.cons (.v 1) .nil)))) (.cons (.raise 1 .nil) .nil) .nil) .nil
def c_is_nesting : C := .cons (.ex (.call (.gf 6) (.cons (.v 0) .nil))) (.cons (.ret (.call (.gf 2) (.cons (.v 0) (.cons (.v 1) .nil)))) .nil)
def c_boxes : C := .cons (.ex (.call (.gf 6) (.cons (.v 0) .nil))) (.cons (.ex (.call (.gf 7) (.cons (.v 0) (.cons (.v 1) .nil)))) (.cons (.ret (.call (.gf 3) (.cons (.v 1) .nil))) .nil))
def c_depth : C := .cons (.ex (.call (.gf 6) (.cons (.v 0) .nil))) (.cons (.ex (.call (.gf 7) (.cons (.v 0) (.cons (.v 1) .nil)))) (.cons (.ret (.call (.gf 4) (.cons (.v 1) .nil))) .nil))
def c_ahead : C := .cons (.ex (.call (.gf 6) (.cons (.v 0) .nil))) (.cons (.ex (.call (.gf 7) (.cons (.v 0) (.cons (.v 1) .nil)))) (.cons (.ex (.call (.gf 7) (.cons (.v 0) (.cons (.v 2) .nil)))) (.cons (.ret (.cmp .lt (.call (.gf 5) (.cons (.v 1) .nil)) (.call (.gf 5) (.cons (.v 2) .nil)))) .nil)))
def c__law_source : C := .cons (.asg (.tn 2) (.ite (.cmp .lt (.v 1) (.prim .len (.cons (.v 0) .nil))) (.prim .abs (.cons (.prim .int (.cons (.idx (.v 0) (.v 1)) .nil)) .nil)) (.bin .add (.bin .mul (.k (.int 139)) (.v 1)) (.k (.int 79))))) (.cons (.ret (.lst (.cons (.ite (.cmp .gt (.v 2) (.bin .pow (.k (.int 10)) (.k (.int 17)))) (.v 2) (.k (.int 0))) (.cons (.bin .mod (.prim .int (.cons (.bin .add (.bin .add (.bin .mul (.v 2) (.k (.int 16807))) (.bin .mul (.k (.int 10079)) (.v 1))) (.k (.int 101))) .nil)) (.k (.int 2147483179))) .nil)))) .nil)
def c__law_draw : C := .cons (.iff (.cmp .gt (.idx (.v 0) (.k (.int 0))) (.k (.int 0))) (.cons (.asg (.tn 2) (.bin .mod (.prim .int (.cons (.idx (.v 0) (.k (.int 0))) .nil)) (.v 1))) (.cons (.asg (.tsub (.v 0) (.k (.int 0))) (.bin .fdiv (.idx (.v 0) (.k (.int 0))) (.v 1))) (.cons (.ret (.v 2)) .nil))) .nil) (.cons (.asg (.tsub (.v 0) (.k (.int 1))) (.bin .mod (.prim .int (.cons (.bin .add (.bin .mul (.idx (.v 0) (.k (.int 1))) (.k (.int 48271))) (.k (.int 97))) .nil)) (.k (.int 2147483179)))) (.cons (.asg (.tn 3) (.bin .mod (.prim .int (.cons (.bin .mul (.idx (.v 0) (.k (.int 1))) (.bin .add (.bin .fdiv (.idx (.v 0) (.k (.int 1))) (.k (.int 47))) (.k (.int 34)))) .nil)) (.k (.int 2147483171)))) (.cons (.ret (.bin .mod (.prim .int (.cons (.bin .fdiv (.v 3) (.k (.int 32))) .nil)) (.v 1))) .nil)))
def c__law_choice : C := .cons (.ret (.idx (.v 1) (.call (.gf 13) (.cons (.v 0) (.cons (.prim .len (.cons (.v 1) .nil)) .nil))))) .nil
def c__law_from : C := .cons (.ret (.and (.isi (.v 0) .int) (.and (.not (.isi (.v 0) .bool)) (.chain .le .le (.v 1) (.v 0) (.v 2))))) .nil
def c__law_truly : C := .cons (.ret (.and (.isi (.v 0) .bool) (.cmp .eq (.v 0) (.v 1)))) .nil
def c__law_names : C := .cons (.asg (.tn 1) (.lst (.cons (.isi (.v 0) (.own 1 [1])) (.cons (.isi (.v 0) (.own 2 [2])) (.cons (.isi (.v 0) (.own 3 [3])) .nil))))) (.cons (.asg (.tn 1) (.bin .add (.v 1) (.lst (.cons (.isi (.v 0) (.own 4 [4])) (.cons (.isi (.v 0) (.own 5 [5])) (.cons (.isi (.v 0) (.own 6 [6])) .nil)))))) (.cons (.asg (.tn 1) (.bin .add (.v 1) (.lst (.cons (.isi (.v 0) (.own 7 [7])) (.cons (.isi (.v 0) (.own 8 [8])) (.cons (.isi (.v 0) (.own 9 [9])) .nil)))))) (.cons (.asg (.tn 1) (.bin .add (.v 1) (.lst (.cons (.isi (.v 0) (.own 10 [10])) (.cons (.isi (.v 0) (.own 11 [11])) (.cons (.isi (.v 0) (.own 12 [12])) .nil)))))) (.cons (.asg (.tn 1) (.bin .add (.v 1) (.lst (.cons (.isi (.v 0) (.own 13 [13])) (.cons (.isi (.v 0) (.own 14 [14])) (.cons (.not (.isi (.v 0) .vale)) .nil)))))) (.cons (.asg (.tn 2) (.meth .split (.k (.str [110, 101, 115, 116, 105, 110, 103, 32, 107, 105, 110, 100, 32, 115, 116, 101, 112, 32, 115, 99, 114, 105, 112, 116, 32, 110, 117, 109, 98, 101, 114, 32, 112, 97, 116, 104, 32, 115, 105, 103, 110, 32, 98, 111, 111, 107, 32, 102, 97, 99, 116, 115, 32, 116, 101, 120, 116, 32, 105, 109, 112, 111, 115, 115, 105, 98, 108, 101, 32, 117, 110, 108, 105, 107, 101, 32, 117, 110, 100, 111, 32, 109, 97, 110, 121, 32, 111, 116, 104, 101, 114])) (.k (.str [32])))) (.cons (.ret (.or (.meth .join (.k (.str [32])) (.comp (.v 3) (.tt (.cons (.tn 3) (.cons (.tn 4) .nil))) (.izl (.v 2) (.v 1)) (.v 4) [3, 4])) (.k (.str [109, 111, 114, 101])))) .nil))))))
def c__law_error : C := .cons (.tryx (.cons (.ex (.call (.v 0) .nil)) .nil) [0, 1, 2, 3, 4, 5, 6, 7, 8, 9, 10, 11, 12, 13, 14] (some 1) (.cons (.ret (.hcall 17 1)) .nil)) (.cons (.ret (.k (.str []))) .nil)
def c__law_refused : C := .cons (.ret (.cmp .eq (.comp (.v 3) (.tn 3) (.iv (.v 1)) (.cmp .ne (.call (.gf 18) (.cons (.lam 0 2 (.call (.v 0) (.cons (.v 1) .nil)) [0, 3]) .nil)) (.v 2)) [3]) (.lst .nil))) .nil
def c__law_size : C := .cons (.asg (.tn 1) (.k (.int 0))) (.cons (.forr (.tt (.cons (.tn 2) (.cons (.tn 3) .nil))) (.iv (.v 0)) (.cons (.asg (.tn 1) (.bin .add (.bin .add (.v 1) (.k (.int 1))) (.call (.gf 20) (.cons (.v 3) .nil)))) .nil)) (.cons (.ret (.v 1)) .nil))
def c__law_deep : C := .cons (.ret (.prim .maxL (.cons (.bin .add (.lst (.cons (.k (.int 0)) .nil)) (.comp (.bin .add (.k (.int 1)) (.call (.gf 21) (.cons (.v 2) .nil))) (.tt (.cons (.tn 1) (.cons (.tn 2) .nil))) (.iv (.v 0)) (.k (.bl true)) [1, 2])) .nil))) .nil
def c__law_nesting : C := .cons (.asg (.tn 3) (.tup .nil)) (.cons (.forr (.tn 4) (.ir1 (.call (.gf 13) (.cons (.v 0) (.cons (.bin .add (.v 2) (.k (.int 1))) .nil)))) (.cons (.asg (.tn 3) (.call (.gf 23) (.cons (.v 0) (.cons (.v 3) (.cons (.call (.gf 13) (.cons (.v 0) (.cons (.v 1) .nil))) (.cons (.k (.int 10)) .nil)))))) .nil)) (.cons (.ret (.v 3)) .nil))
def c__law_put_in : C := .cons (.asg (.tn 4) (.call (.gf 13) (.cons (.v 0) (.cons (.bin .add (.prim .len (.cons (.v 1) .nil)) (.k (.int 1))) .nil)))) (.cons (.iff (.and (.cmp .lt (.v 4) (.prim .len (.cons (.v 1) .nil))) (.and (.cmp .gt (.v 3) (.k (.int 0))) (.cmp .gt (.call (.gf 13) (.cons (.v 0) (.cons (.k (.int 3)) .nil))) (.k (.int 0))))) (.cons (.asg (.tn 5) (.call (.gf 23) (.cons (.v 0) (.cons (.idx (.idx (.v 1) (.v 4)) (.k (.int 1))) (.cons (.v 2) (.cons (.bin .sub (.v 3) (.k (.int 1))) .nil)))))) (.cons (.ret (.bin .add (.bin .add (.sl (.v 1) .no (.v 4)) (.tup (.cons (.tup (.cons (.idx (.idx (.v 1) (.v 4)) (.k (.int 0))) (.cons (.v 5) .nil))) .nil))) (.sl (.v 1) (.bin .add (.v 4) (.k (.int 1))) .no))) .nil)) .nil) (.cons (.ret (.bin .add (.bin .add (.sl (.v 1) .no (.v 4)) (.tup (.cons (.tup (.cons (.v 2) (.cons (.tup .nil) .nil))) .nil))) (.sl (.v 1) (.v 4) .no))) .nil))
def c__law_rows : C := .cons (.asg (.tn 2) (.lst (.cons (.lst (.cons (.tup .nil) .nil)) .nil))) (.cons (.forr (.tn 3) (.ir2 (.k (.int 1)) (.bin .add (.v 1) (.k (.int 1)))) (.cons (.asg (.tn 4) (.lst .nil)) (.cons (.forr (.tn 5) (.ir1 (.v 3)) (.cons (.forr (.tn 6) (.iv (.idx (.v 2) (.v 5))) (.cons (.forr (.tn 7) (.iv (.idx (.v 2) (.bin .sub (.bin .sub (.v 3) (.k (.int 1))) (.v 5)))) (.cons (.asg (.tn 4) (.bin .add (.v 4) (.comp (.bin .add (.tup (.cons (.tup (.cons (.v 8) (.cons (.v 6) .nil))) .nil)) (.v 7)) (.tn 8) (.ir1 (.v 0)) (.k (.bl true)) [8]))) .nil)) .nil)) .nil)) (.cons (.ex (.meth .append (.v 2) (.prim .sorted (.cons (.v 4) .nil)))) .nil)))) (.cons (.asg (.tn 9) (.lst .nil)) (.cons (.forr (.tn 10) (.iv (.v 2)) (.cons (.asg (.tn 9) (.bin .add (.v 9) (.v 10))) .nil)) (.cons (.ret (.v 9)) .nil))))
def c__law_key : C := .cons (.ret (.tup (.cons (.call (.gf 20) (.cons (.v 0) .nil)) (.cons (.v 0) .nil)))) .nil
def c__law_bad_nestings : C := .cons (.asg (.tn 1) (.tup .nil)) (.cons (.forr (.tn 2) (.ir1 (.k (.int 13))) (.cons (.asg (.tn 1) (.tup (.cons (.tup (.cons (.k (.int 0)) (.cons (.v 1) .nil))) .nil))) .nil)) (.cons (.asg (.tn 3) (.lst (.cons (.k .non) (.cons (.lst .nil) (.cons (.k (.int 0)) (.cons (.k (.str [48, 46])) (.cons (.tup (.cons (.k (.int 0)) .nil)) (.cons (.tup (.cons (.tup (.cons (.k (.int 0)) .nil)) .nil)) (.cons (.tup (.cons (.tup (.cons (.v 0) (.cons (.tup .nil) .nil))) .nil)) (.cons (.tup (.cons (.tup (.cons (.neg (.k (.int 1))) (.cons (.tup .nil) .nil))) .nil)) (.cons (.tup (.cons (.tup (.cons (.k (.bl true)) (.cons (.tup .nil) .nil))) .nil)) (.cons (.tup (.cons (.tup (.cons (.k (.int 0)) (.cons (.lst .nil) .nil))) .nil)) (.cons (.tup (.cons (.lst (.cons (.k (.int 0)) (.cons (.tup .nil) .nil))) .nil)) (.cons (.v 1) .nil)))))))))))))) (.cons (.ret (.bin .add (.v 3) (.lst (.cons (.bin .mul (.tup (.cons (.tup (.cons (.k (.int 0)) (.cons (.tup .nil) .nil))) .nil)) (.k (.int 61))) (.cons (.tup (.cons (.tup (.cons (.k (.int 0)) (.cons (.tup .nil) (.cons (.tup .nil) .nil)))) .nil)) (.cons (.tup (.cons (.tup (.cons (.k (.int 0)) (.cons (.k .non) .nil))) .nil)) (.cons (.tup (.cons (.tup (.cons (.k (.int 0)) (.cons (.tup (.cons (.tup (.cons (.v 0) (.cons (.tup .nil) .nil))) .nil)) .nil))) .nil)) (.cons (.tup (.cons (.k (.str [48])) (.cons (.tup .nil) .nil))) (.cons (.tup (.cons (.tup (.cons (.k .non) (.cons (.tup .nil) .nil))) .nil)) .nil))))))))) .nil)))
def c__law_good : C := .cons (.iff (.or (.not (.isi (.v 1) .tuple)) (.cmp .lt (.v 2) (.k (.int 0)))) (.cons (.ret (.k .non)) .nil) .nil) (.cons (.asg (.tn 3) (.k (.int 0))) (.cons (.forr (.tn 4) (.iv (.v 1)) (.cons (.iff (.or (.not (.isi (.v 4) .tuple)) (.or (.cmp .ne (.prim .len (.cons (.v 4) .nil)) (.k (.int 2))) (.not (.call (.gf 15) (.cons (.idx (.v 4) (.k (.int 0))) (.cons (.k (.int 0)) (.cons (.bin .sub (.v 0) (.k (.int 1))) .nil))))))) (.cons (.ret (.k .non)) .nil) .nil) (.cons (.asg (.tn 5) (.call (.gf 27) (.cons (.v 0) (.cons (.idx (.v 4) (.k (.int 1))) (.cons (.bin .sub (.v 2) (.k (.int 1))) .nil))))) (.cons (.iff (.or (.cmp .is (.v 5) (.k .non)) (.and (.cmp .ne (.idx (.v 4) (.k (.int 1))) (.tup .nil)) (.cmp .lt (.v 2) (.k (.int 2))))) (.cons (.ret (.k .non)) .nil) .nil) (.cons (.asg (.tn 3) (.bin .add (.bin .add (.v 3) (.k (.int 1))) (.v 5))) .nil))))) (.cons (.ret (.v 3)) .nil)))
def c__law_is_nesting : C := .cons (.asg (.tn 2) (.call (.gf 27) (.cons (.v 0) (.cons (.v 1) (.cons (.k (.int 12)) .nil))))) (.cons (.ret (.and (.cmp .isnot (.v 2) (.k .non)) (.cmp .le (.v 2) (.k (.int 60))))) .nil)
def c__law_bent : C := .cons (.iff (.and (.isi (.v 1) .tuple) (.and (.cmp .ne (.v 1) (.tup .nil)) (.cmp .gt (.call (.gf 13) (.cons (.v 0) (.cons (.k (.int 4)) .nil))) (.k (.int 0))))) (.cons (.par [2, 3] (.cons (.call (.gf 13) (.cons (.v 0) (.cons (.prim .len (.cons (.v 1) .nil)) .nil))) (.cons (.call (.gf 13) (.cons (.v 0) (.cons (.k (.int 6)) .nil))) .nil))) (.cons (.iff (.cmp .eq (.v 3) (.k (.int 0))) (.cons (.ret (.bin .add (.sl (.v 1) .no (.v 2)) (.sl (.v 1) (.bin .add (.v 2) (.k (.int 1))) .no))) .nil) .nil) (.cons (.iff (.cmp .eq (.v 3) (.k (.int 1))) (.cons (.ret (.bin .add (.sl (.v 1) .no (.bin .add (.v 2) (.k (.int 1)))) (.sl (.v 1) (.v 2) .no))) .nil) .nil) (.cons (.ret (.bin .add (.bin .add (.sl (.v 1) .no (.v 2)) (.tup (.cons (.call (.gf 29) (.cons (.v 0) (.cons (.idx (.v 1) (.v 2)) .nil))) .nil))) (.sl (.v 1) (.bin .add (.v 2) (.k (.int 1))) .no))) .nil)))) .nil) (.cons (.asg (.tn 4) (.lst (.cons (.k .non) (.cons (.k (.bl true)) (.cons (.k (.int 0)) (.cons (.k (.int 1)) (.cons (.k (.int 2)) (.cons (.k (.int 3)) (.cons (.neg (.k (.int 1))) (.cons (.k (.str [48])) (.cons (.tup .nil) (.cons (.lst .nil) (.cons (.tup (.cons (.tup (.cons (.k (.int 0)) (.cons (.tup .nil) .nil))) .nil)) (.cons (.tup (.cons (.k (.int 0)) (.cons (.tup .nil) .nil))) (.cons (.tup (.cons (.k (.int 1)) (.cons (.tup (.cons (.tup (.cons (.k (.int 0)) (.cons (.tup .nil) .nil))) .nil)) .nil))) (.cons (.tup (.cons (.tup (.cons (.k (.int 2)) (.cons (.tup .nil) .nil))) (.cons (.tup (.cons (.k (.int 1)) (.cons (.tup .nil) .nil))) .nil))) .nil)))))))))))))))) (.cons (.ret (.call (.gf 14) (.cons (.v 0) (.cons (.v 4) .nil)))) .nil))
def c_law : C := .cons (.forr (.tn 1) (.ir1 (.prim .max2 (.cons (.k (.int 1)) (.cons (.prim .min2 (.cons (.prim .len (.cons (.v 0) .nil)) (.cons (.k (.int 2)) .nil))) .nil)))) (.cons (.asg (.tn 2) (.call (.gf 12) (.cons (.v 0) (.cons (.v 1) .nil)))) (.cons (.forr (.tn 3) (.ir1 (.k (.int 2))) (.cons (.asg (.tn 4) (.bin .add (.k (.int 2)) (.call (.gf 13) (.cons (.v 2) (.cons (.k (.int 2)) .nil))))) (.cons (.par [5, 6] (.cons (.call (.gf 22) (.cons (.v 2) (.cons (.v 4) (.cons (.k (.int 30)) .nil)))) (.cons (.call (.gf 22) (.cons (.v 2) (.cons (.v 4) (.cons (.call (.gf 14) (.cons (.v 2) (.cons (.lst (.cons (.k (.int 3)) (.cons (.k (.int 30)) (.cons (.k (.int 60)) .nil)))) .nil))) .nil)))) .nil))) (.cons (.iff (.or (.cmp .ne (.call (.gf 9) (.cons (.v 4) (.cons (.v 5) .nil))) (.call (.gf 20) (.cons (.v 5) .nil))) (.cmp .ne (.call (.gf 10) (.cons (.v 4) (.cons (.v 5) .nil))) (.call (.gf 21) (.cons (.v 5) .nil)))) (.cons (.ret (.k (.bl false))) .nil) .nil) (.cons (.iff (.or (.not (.call (.gf 16) (.cons (.call (.gf 11) (.cons (.v 4) (.cons (.v 5) (.cons (.v 6) .nil)))) (.cons (.cmp .lt (.call (.gf 25) (.cons (.v 5) .nil)) (.call (.gf 25) (.cons (.v 6) .nil))) .nil)))) (.call (.gf 11) (.cons (.v 4) (.cons (.v 5) (.cons (.v 5) .nil))))) (.cons (.ret (.k (.bl false))) .nil) .nil) (.cons (.asg (.tn 7) (.v 5)) (.cons (.forr (.tn 8) (.ir1 (.k (.int 8))) (.cons (.iff (.not (.call (.gf 16) (.cons (.call (.gf 8) (.cons (.v 4) (.cons (.v 7) .nil))) (.cons (.call (.gf 28) (.cons (.v 4) (.cons (.v 7) .nil))) .nil)))) (.cons (.ret (.k (.bl false))) .nil) .nil) (.cons (.asg (.tn 7) (.call (.gf 29) (.cons (.v 2) (.cons (.ite (.cmp .eq (.bin .mod (.v 8) (.k (.int 3))) (.k (.int 0))) (.v 5) (.v 7)) .nil)))) .nil))) .nil))))))) (.cons (.forr (.tn 9) (.iv (.tup (.cons (.gf 9) (.cons (.gf 10) (.cons (.lam 2 2 (.call (.gf 11) (.cons (.v 0) (.cons (.v 1) (.cons (.k .non) .nil)))) []) .nil))))) (.cons (.iff (.not (.call (.gf 19) (.cons (.lam 1 2 (.call (.v 1) (.cons (.k (.int 2)) (.cons (.v 0) .nil))) [9]) (.cons (.call (.gf 26) (.cons (.k (.int 2)) .nil)) (.cons (.k (.str [110, 101, 115, 116, 105, 110, 103])) .nil))))) (.cons (.ret (.k (.bl false))) .nil) .nil) (.cons (.iff (.not (.call (.gf 19) (.cons (.lam 1 2 (.call (.v 1) (.cons (.v 0) (.cons (.k .non) .nil))) [9]) (.cons (.lst (.cons (.k .non) (.cons (.k (.int 1)) (.cons (.k (.int 4)) (.cons (.k (.bl true)) (.cons (.k (.str [50])) .nil)))))) (.cons (.k (.str [110, 117, 109, 98, 101, 114])) .nil))))) (.cons (.ret (.k (.bl false))) .nil) .nil) .nil))) (.cons (.iff (.not (.call (.gf 19) (.cons (.lam 1 1 (.call (.gf 11) (.cons (.k (.int 3)) (.cons (.tup .nil) (.cons (.v 0) .nil)))) []) (.cons (.call (.gf 26) (.cons (.k (.int 3)) .nil)) (.cons (.k (.str [110, 101, 115, 116, 105, 110, 103])) .nil))))) (.cons (.ret (.k (.bl false))) .nil) .nil) .nil))))) (.cons (.iff (.cmp .ne (.comp (.v 7) (.tn 7) (.iv (.call (.gf 26) (.cons (.k (.int 2)) .nil))) (.cmp .isnot (.call (.gf 8) (.cons (.k (.int 2)) (.cons (.v 7) .nil))) (.k (.bl false))) [7]) (.lst .nil)) (.cons (.ret (.k (.bl false))) .nil) .nil) (.cons (.asg (.tn 10) (.tup .nil)) (.cons (.forr (.tn 3) (.ir1 (.k (.int 12))) (.cons (.asg (.tn 10) (.tup (.cons (.tup (.cons (.k (.int 1)) (.cons (.v 10) .nil))) .nil))) .nil)) (.cons (.asg (.tn 11) (.lst (.cons (.tup .nil) (.cons (.v 10) (.cons (.bin .mul (.tup (.cons (.tup (.cons (.k (.int 0)) (.cons (.tup .nil) .nil))) .nil)) (.k (.int 60))) (.cons (.bin .mul (.tup (.cons (.tup (.cons (.k (.int 0)) (.cons (.idx (.idx (.v 10) (.k (.int 0))) (.k (.int 1))) .nil))) .nil)) (.k (.int 5))) .nil)))))) (.cons (.iff (.or (.cmp .ne (.comp (.v 12) (.tn 12) (.iv (.v 11)) (.cmp .isnot (.call (.gf 8) (.cons (.k (.int 2)) (.cons (.v 12) .nil))) (.k (.bl true))) [12]) (.lst .nil)) (.call (.gf 8) (.cons (.k (.int 2)) (.cons (.bin .mul (.tup (.cons (.tup (.cons (.k (.int 0)) (.cons (.idx (.idx (.v 10) (.k (.int 0))) (.k (.int 1))) .nil))) .nil)) (.k (.int 6))) .nil)))) (.cons (.ret (.k (.bl false))) .nil) .nil) (.cons (.asg (.tn 13) (.tup (.cons (.tup (.cons (.k (.int 0)) (.cons (.tup (.cons (.tup (.cons (.k (.int 1)) (.cons (.tup .nil) .nil))) .nil)) .nil))) (.cons (.tup (.cons (.k (.int 1)) (.cons (.tup .nil) .nil))) .nil)))) (.cons (.iff (.cmp .ne (.lst (.cons (.call (.gf 9) (.cons (.k (.int 2)) (.cons (.v 13) .nil))) (.cons (.call (.gf 10) (.cons (.k (.int 2)) (.cons (.v 13) .nil))) (.cons (.call (.gf 9) (.cons (.k (.int 2)) (.cons (.tup .nil) .nil))) (.cons (.call (.gf 10) (.cons (.k (.int 2)) (.cons (.tup .nil) .nil))) (.cons (.call (.gf 10) (.cons (.k (.int 2)) (.cons (.v 10) .nil))) (.cons (.call (.gf 8) (.cons (.k (.int 3)) (.cons (.tup (.cons (.tup (.cons (.k (.int 2)) (.cons (.tup .nil) .nil))) .nil)) .nil))) .nil))))))) (.lst (.cons (.k (.int 3)) (.cons (.k (.int 2)) (.cons (.k (.int 0)) (.cons (.k (.int 0)) (.cons (.k (.int 12)) (.cons (.k (.bl true)) .nil)))))))) (.cons (.ret (.k (.bl false))) .nil) .nil) (.cons (.asg (.tn 14) (.call (.gf 24) (.cons (.k (.int 2)) (.cons (.k (.int 3)) .nil)))) (.cons (.iff (.cmp .ne (.comp (.k (.int 1)) (.tt (.cons (.tn 5) (.cons (.tn 6) .nil))) (.izip (.v 14) (.sl (.v 14) (.k (.int 1)) .no)) (.or (.not (.call (.gf 11) (.cons (.k (.int 2)) (.cons (.v 5) (.cons (.v 6) .nil))))) (.call (.gf 11) (.cons (.k (.int 2)) (.cons (.v 6) (.cons (.v 5) .nil))))) [5, 6]) (.lst .nil)) (.cons (.ret (.k (.bl false))) .nil) .nil) (.cons (.ret (.and (.cmp .is (.call (.gf 11) (.cons (.k (.int 2)) (.cons (.tup (.cons (.tup (.cons (.k (.int 1)) (.cons (.tup .nil) .nil))) .nil)) (.cons (.tup (.cons (.tup (.cons (.k (.int 0)) (.cons (.tup (.cons (.tup (.cons (.k (.int 0)) (.cons (.tup .nil) .nil))) .nil)) .nil))) .nil)) .nil)))) (.k (.bl true))) (.cmp .is (.call (.gf 11) (.cons (.k (.int 2)) (.cons (.v 13) (.cons (.v 13) .nil)))) (.k (.bl false))))) .nil))))))))))
def prog : Prog := ⟨[⟨3, 3, c_is_whole⟩, ⟨3, 6, c_shape_of⟩, ⟨2, 2, c_has_nesting⟩, ⟨1, 3, c_boxes_in⟩, ⟨1, 3, c_depth_of⟩, ⟨1, 1, c_key_of⟩, ⟨1, 1, c_need_stands⟩, ⟨2, 2, c_need_nesting⟩, ⟨2, 2, c_is_nesting⟩, ⟨2, 2, c_boxes⟩, ⟨2, 2, c_depth⟩, ⟨3, 3, c_ahead⟩, ⟨2, 3, c__law_source⟩, ⟨2, 4, c__law_draw⟩, ⟨2, 2, c__law_choice⟩, ⟨3, 3, c__law_from⟩, ⟨2, 2, c__law_truly⟩, ⟨1, 5, c__law_names⟩, ⟨1, 2, c__law_error⟩, ⟨3, 4, c__law_refused⟩, ⟨1, 4, c__law_size⟩, ⟨1, 3, c__law_deep⟩, ⟨3, 5, c__law_nesting⟩, ⟨4, 6, c__law_put_in⟩, ⟨2, 11, c__law_rows⟩, ⟨1, 1, c__law_key⟩, ⟨1, 4, c__law_bad_nestings⟩, ⟨3, 6, c__law_good⟩, ⟨2, 3, c__law_is_nesting⟩, ⟨2, 5, c__law_bent⟩, ⟨1, 15, c_law⟩]⟩
def n_is_whole : List Str := [(Str.ofString "value"), (Str.ofString "low"), (Str.ofString "high")]
def n_shape_of : List Str := [(Str.ofString "stands"), (Str.ofString "value"), (Str.ofString "deep"), (Str.ofString "many"), (Str.ofString "box"), (Str.ofString "inner")]
def n_has_nesting : List Str := [(Str.ofString "stands"), (Str.ofString "value")]
def n_boxes_in : List Str := [(Str.ofString "row"), (Str.ofString "stand"), (Str.ofString "inner")]
def n_depth_of : List Str := [(Str.ofString "row"), (Str.ofString "stand"), (Str.ofString "inner")]
def n_key_of : List Str := [(Str.ofString "row")]
def n_need_stands : List Str := [(Str.ofString "stands")]
def n_need_nesting : List Str := [(Str.ofString "stands"), (Str.ofString "value")]
def n_is_nesting : List Str := [(Str.ofString "stands"), (Str.ofString "value")]
def n_boxes : List Str := [(Str.ofString "stands"), (Str.ofString "nesting")]
def n_depth : List Str := [(Str.ofString "stands"), (Str.ofString "nesting")]
def n_ahead : List Str := [(Str.ofString "stands"), (Str.ofString "one"), (Str.ofString "other")]
def n__law_source : List Str := [(Str.ofString "_law_script"), (Str.ofString "_law_k"), (Str.ofString "_law_cell")]
def n__law_draw : List Str := [(Str.ofString "_law_source_here"), (Str.ofString "_law_many"), (Str.ofString "_law_rest"), (Str.ofString "_law_wide")]
def n__law_choice : List Str := [(Str.ofString "_law_source_here"), (Str.ofString "_law_some")]
def n__law_from : List Str := [(Str.ofString "_law_value"), (Str.ofString "_law_low"), (Str.ofString "_law_high")]
def n__law_truly : List Str := [(Str.ofString "_law_found"), (Str.ofString "_law_due")]
def n__law_names : List Str := [(Str.ofString "_law_e"), (Str.ofString "_law_some"), (Str.ofString "_law_words"), (Str.ofString "_law_word"), (Str.ofString "_law_good_here")]
def n__law_error : List Str := [(Str.ofString "_law_call"), (Str.ofString "_law_e")]
def n__law_refused : List Str := [(Str.ofString "_law_call"), (Str.ofString "_law_odds"), (Str.ofString "_law_names_here"), (Str.ofString "_law_odd")]
def n__law_size : List Str := [(Str.ofString "_law_row"), (Str.ofString "_law_total"), (Str.ofString "_law_stand"), (Str.ofString "_law_inner")]
def n__law_deep : List Str := [(Str.ofString "_law_row"), (Str.ofString "_law_stand"), (Str.ofString "_law_inner")]
def n__law_nesting : List Str := [(Str.ofString "_law_source_here"), (Str.ofString "_law_stands"), (Str.ofString "_law_most"), (Str.ofString "_law_found"), (Str.ofString "_law_turn")]
def n__law_put_in : List Str := [(Str.ofString "_law_source_here"), (Str.ofString "_law_row"), (Str.ofString "_law_stand"), (Str.ofString "_law_deep_here"), (Str.ofString "_law_at"), (Str.ofString "_law_inner")]
def n__law_rows : List Str := [(Str.ofString "_law_stands"), (Str.ofString "_law_most"), (Str.ofString "_law_rows_here"), (Str.ofString "_law_many"), (Str.ofString "_law_found"), (Str.ofString "_law_part_so"), (Str.ofString "_law_inner"), (Str.ofString "_law_rest"), (Str.ofString "_law_stand"), (Str.ofString "_law_whole"), (Str.ofString "_law_part")]
def n__law_key : List Str := [(Str.ofString "_law_row")]
def n__law_bad_nestings : List Str := [(Str.ofString "_law_stands"), (Str.ofString "_law_deep_here"), (Str.ofString "_law_turn"), (Str.ofString "_law_some")]
def n__law_good : List Str := [(Str.ofString "_law_stands"), (Str.ofString "_law_value"), (Str.ofString "_law_deep_here"), (Str.ofString "_law_total"), (Str.ofString "_law_box"), (Str.ofString "_law_inner")]
def n__law_is_nesting : List Str := [(Str.ofString "_law_stands"), (Str.ofString "_law_value"), (Str.ofString "_law_many")]
def n__law_bent : List Str := [(Str.ofString "_law_source_here"), (Str.ofString "_law_value"), (Str.ofString "_law_at"), (Str.ofString "_law_way"), (Str.ofString "_law_some")]
def n_law : List Str := [(Str.ofString "_law_script"), (Str.ofString "_law_k"), (Str.ofString "_law_source_here"), (Str.ofString "_law_turn"), (Str.ofString "_law_stands"), (Str.ofString "_law_one"), (Str.ofString "_law_two"), (Str.ofString "_law_value"), (Str.ofString "_law_again"), (Str.ofString "_law_call"), (Str.ofString "_law_deep_here"), (Str.ofString "_law_some"), (Str.ofString "_law_row"), (Str.ofString "_law_n"), (Str.ofString "_law_rows_here")]
/-- defs: place in the top, slots, has lambdas -/
def dts : List (Str × Nat × List Str × Bool) := [((Str.ofString "is_whole"), 19, n_is_whole, false), ((Str.ofString "shape_of"), 20, n_shape_of, false), ((Str.ofString "has_nesting"), 21, n_has_nesting, false), ((Str.ofString "boxes_in"), 22, n_boxes_in, false), ((Str.ofString "depth_of"), 23, n_depth_of, false), ((Str.ofString "key_of"), 24, n_key_of, false), ((Str.ofString "need_stands"), 25, n_need_stands, false), ((Str.ofString "need_nesting"), 26, n_need_nesting, false), ((Str.ofString "is_nesting"), 27, n_is_nesting, false), ((Str.ofString "boxes"), 28, n_boxes, false), ((Str.ofString "depth"), 29, n_depth, false), ((Str.ofString "ahead"), 30, n_ahead, false), ((Str.ofString "_law_source"), 32, n__law_source, false), ((Str.ofString "_law_draw"), 33, n__law_draw, false), ((Str.ofString "_law_choice"), 34, n__law_choice, false), ((Str.ofString "_law_from"), 35, n__law_from, false), ((Str.ofString "_law_truly"), 36, n__law_truly, false), ((Str.ofString "_law_names"), 37, n__law_names, false), ((Str.ofString "_law_error"), 38, n__law_error, false), ((Str.ofString "_law_refused"), 39, n__law_refused, true), ((Str.ofString "_law_size"), 40, n__law_size, false), ((Str.ofString "_law_deep"), 41, n__law_deep, false), ((Str.ofString "_law_nesting"), 42, n__law_nesting, false), ((Str.ofString "_law_put_in"), 43, n__law_put_in, false), ((Str.ofString "_law_rows"), 44, n__law_rows, false), ((Str.ofString "_law_key"), 45, n__law_key, false), ((Str.ofString "_law_bad_nestings"), 46, n__law_bad_nestings, false), ((Str.ofString "_law_good"), 47, n__law_good, false), ((Str.ofString "_law_is_nesting"), 48, n__law_is_nesting, false), ((Str.ofString "_law_bent"), 49, n__law_bent, false), ((Str.ofString "law"), 50, n_law, true)]
def lawIx : Nat := 30
def namesIx : Nat := 17
def clsN : List Str := [(Str.ofString "NestError"), (Str.ofString "InvalidNesting"), (Str.ofString "InvalidKind"), (Str.ofString "InvalidStep"), (Str.ofString "InvalidScript"), (Str.ofString "InvalidNumber"), (Str.ofString "InvalidPath"), (Str.ofString "InvalidSign"), (Str.ofString "InvalidBook"), (Str.ofString "InvalidFacts"), (Str.ofString "InvalidText"), (Str.ofString "Impossible"), (Str.ofString "Unlike"), (Str.ofString "NothingToUndo"), (Str.ofString "TooMany")]
def belowT : List (List Nat) := [[0, 1, 2, 3, 4, 5, 6, 7, 8, 9, 10, 11, 12, 13, 14], [1], [2], [3], [4], [5], [6], [7], [8], [9], [10], [11], [12], [13], [14]]
def plainT : List Nat := [0, 1, 2, 3, 4, 5, 6, 7, 8, 9, 10, 11, 12, 13]
def cstT : List (Str × Kst) := [((Str.ofString "BOXES"), (.int 60)), ((Str.ofString "DEEP"), (.int 12))]
def noT : List Str := [(Str.ofString "ValueError"), (Str.ofString "abs"), (Str.ofString "bool"), (Str.ofString "int"), (Str.ofString "isinstance"), (Str.ofString "len"), (Str.ofString "max"), (Str.ofString "min"), (Str.ofString "range"), (Str.ofString "sorted"), (Str.ofString "sum"), (Str.ofString "tuple"), (Str.ofString "zip")]
def txt : Txt := ⟨prog, dts, namesIx, clsN, belowT, plainT, cstT, noT⟩
abbrev R : PySem.W.OpenRow := PySem.W.OpenLaw.row PySem.Challenge.rw_nestkinds_k01_nestings_recognized_and_or
end K01

set_option Elab.async false
set_option linter.all false
set_option maxRecDepth 100000
/-! law k01: is_whole, shape_of and the law's own like them. -/
namespace K01
open PF
/-- an int, no bool, between two -/
def whole : D → Int → Int → Bool
  | .int i, lo, hi => decide (lo ≤ i) && decide (i ≤ hi)
  | _, _, _ => false
section
variable {W n k : Nat} {Q : D → Store → Prop} {E : Xn → Store → Prop} {st : Store}
theorem w_is_whole {v : D} {lo hi : Int} (hv : Dat k st v) (h : Q (.bl (whole v lo hi)) st) : wp (callN prog W (n + 1) (.d (.fn 0)) [.d v, .d (.int lo), .d (.int hi)] st) Q E := by
  rw [wp_fn (d := ⟨3, 3, c_is_whole⟩) rfl rfl]
  simp -implicitDefEqProofs only [c_is_whole, wpS_sbnd, we_k, we_g, we_gf, we_v, wea_v, we_tup, we_lst, we_bin, we_neg, we_not, we_cmp, we_chain, we_and, we_or, we_ite, we_idx, we_sl, wt_no, wt_v, wt_k, wt_bin, wt_neg, wt_idx, we_callG, we_prim, we_meth, we_isi, we_comp, wea_gf, wea_lam0, wea_lam1, we_lam0, we_hcall, wa_nil, wa_cons, waa_nil, waa_cons, wg_tn, wg_tt, wg_tsub, wgs_nil, wgs_cons, gsNil_nil, wi_iv, wi_ir1, wi_ir2, wi_ien, wi_izip, wi_izl, ws_asg, ws_par, ws_ex, ws_ret, ws_retN, ws_pass, ws_brk, ws_iff, ws_forr, ws_raise, wss_nil, wss_cons, wtru_eq, wp_ok, wp_exc, wp_oth_some, wea_k, wea_g, wea_tup, wea_lst, wea_bin, wea_neg, wea_not, wea_cmp, wea_chain, wea_and, wea_or, wea_ite, wea_idx, wea_sl, wea_call, wea_prim, wea_meth, wea_isi, wea_comp, slotD_z, slotD_s, slotA_z, slotA_s, newTup0, newTup1, newTup2, newTup3, newTup4, tr_non, tr_bl, tr_int, tr_tup, len_tup, atI0, atI1, idx_tup, it_tup, un_tup, int_of, lt_int, le_int, gt_int, ge_int, cmp_eq, cmp_ne, cmp_is, cmp_isnot, eqD_int, eqD_bl, lt_tup, List.set_cons_succ, List.set_cons_zero, startD, List.map_cons, List.map_nil, List.length_cons, List.length_nil, Nat.zero_add, Nat.reduceAdd, Nat.reduceSub, Nat.sub_self, List.replicate_succ, List.replicate_zero, List.cons_append, List.nil_append, Option.map_some, Kst.d, if_true, if_false, Bool.false_eq_true, wp_add_int, wp_sub_int, isiA, calA]
  cases v with
  | int i =>
    simp -implicitDefEqProofs only [isiD, wpS_sbnd, we_k, we_g, we_gf, we_v, wea_v, we_tup, we_lst, we_bin, we_neg, we_not, we_cmp, we_chain, we_and, we_or, we_ite, we_idx, we_sl, wt_no, wt_v, wt_k, wt_bin, wt_neg, wt_idx, we_callG, we_prim, we_meth, we_isi, we_comp, wea_gf, wea_lam0, wea_lam1, we_lam0, we_hcall, wa_nil, wa_cons, waa_nil, waa_cons, wg_tn, wg_tt, wg_tsub, wgs_nil, wgs_cons, gsNil_nil, wi_iv, wi_ir1, wi_ir2, wi_ien, wi_izip, wi_izl, ws_asg, ws_par, ws_ex, ws_ret, ws_retN, ws_pass, ws_brk, ws_iff, ws_forr, ws_raise, wss_nil, wss_cons, wtru_eq, wp_ok, wp_exc, wp_oth_some, wea_k, wea_g, wea_tup, wea_lst, wea_bin, wea_neg, wea_not, wea_cmp, wea_chain, wea_and, wea_or, wea_ite, wea_idx, wea_sl, wea_call, wea_prim, wea_meth, wea_isi, wea_comp, slotD_z, slotD_s, slotA_z, slotA_s, newTup0, newTup1, newTup2, newTup3, newTup4, tr_non, tr_bl, tr_int, tr_tup, len_tup, atI0, atI1, idx_tup, it_tup, un_tup, int_of, lt_int, le_int, gt_int, ge_int, cmp_eq, cmp_ne, cmp_is, cmp_isnot, eqD_int, eqD_bl, lt_tup, List.set_cons_succ, List.set_cons_zero, startD, List.map_cons, List.map_nil, List.length_cons, List.length_nil, Nat.zero_add, Nat.reduceAdd, Nat.reduceSub, Nat.sub_self, List.replicate_succ, List.replicate_zero, List.cons_append, List.nil_append, Option.map_some, Kst.d, if_true, if_false, Bool.false_eq_true, wp_add_int, wp_sub_int, isiA, calA, Bool.not_false, Bool.not_true]
    simp only [whole] at h
    by_cases h1 : lo ≤ i
    · simp only [h1, decide_true, if_true, Option.map_some, wp_oth_some]
      simpa [h1] using h
    · simp only [h1, decide_false, Bool.false_eq_true, if_false]
      simpa [h1] using h
  | rol => cases hv
  | fn => cases hv
  | lam => cases hv
  | _ => simpa -implicitDefEqProofs only [isiD, whole, wpS_sbnd, we_k, we_g, we_gf, we_v, wea_v, we_tup, we_lst, we_bin, we_neg, we_not, we_cmp, we_chain, we_and, we_or, we_ite, we_idx, we_sl, wt_no, wt_v, wt_k, wt_bin, wt_neg, wt_idx, we_callG, we_prim, we_meth, we_isi, we_comp, wea_gf, wea_lam0, wea_lam1, we_lam0, we_hcall, wa_nil, wa_cons, waa_nil, waa_cons, wg_tn, wg_tt, wg_tsub, wgs_nil, wgs_cons, gsNil_nil, wi_iv, wi_ir1, wi_ir2, wi_ien, wi_izip, wi_izl, ws_asg, ws_par, ws_ex, ws_ret, ws_retN, ws_pass, ws_brk, ws_iff, ws_forr, ws_raise, wss_nil, wss_cons, wtru_eq, wp_ok, wp_exc, wp_oth_some, wea_k, wea_g, wea_tup, wea_lst, wea_bin, wea_neg, wea_not, wea_cmp, wea_chain, wea_and, wea_or, wea_ite, wea_idx, wea_sl, wea_call, wea_prim, wea_meth, wea_isi, wea_comp, slotD_z, slotD_s, slotA_z, slotA_s, newTup0, newTup1, newTup2, newTup3, newTup4, tr_non, tr_bl, tr_int, tr_tup, len_tup, atI0, atI1, idx_tup, it_tup, un_tup, int_of, lt_int, le_int, gt_int, ge_int, cmp_eq, cmp_ne, cmp_is, cmp_isnot, eqD_int, eqD_bl, lt_tup, List.set_cons_succ, List.set_cons_zero, startD, List.map_cons, List.map_nil, List.length_cons, List.length_nil, Nat.zero_add, Nat.reduceAdd, Nat.reduceSub, Nat.sub_self, List.replicate_succ, List.replicate_zero, List.cons_append, List.nil_append, Option.map_some, Kst.d, if_true, if_false, Bool.false_eq_true, wp_add_int, wp_sub_int, isiA, calA, Bool.not_false, Bool.not_true] using h
theorem w_from {v : D} {lo hi : Int} (hv : Dat k st v) (h : Q (.bl (whole v lo hi)) st) : wp (callN prog W (n + 1) (.d (.fn 15)) [.d v, .d (.int lo), .d (.int hi)] st) Q E := by
  rw [wp_fn (d := ⟨3, 3, c__law_from⟩) rfl rfl]
  simp -implicitDefEqProofs only [c__law_from, wpS_sbnd, we_k, we_g, we_gf, we_v, wea_v, we_tup, we_lst, we_bin, we_neg, we_not, we_cmp, we_chain, we_and, we_or, we_ite, we_idx, we_sl, wt_no, wt_v, wt_k, wt_bin, wt_neg, wt_idx, we_callG, we_prim, we_meth, we_isi, we_comp, wea_gf, wea_lam0, wea_lam1, we_lam0, we_hcall, wa_nil, wa_cons, waa_nil, waa_cons, wg_tn, wg_tt, wg_tsub, wgs_nil, wgs_cons, gsNil_nil, wi_iv, wi_ir1, wi_ir2, wi_ien, wi_izip, wi_izl, ws_asg, ws_par, ws_ex, ws_ret, ws_retN, ws_pass, ws_brk, ws_iff, ws_forr, ws_raise, wss_nil, wss_cons, wtru_eq, wp_ok, wp_exc, wp_oth_some, wea_k, wea_g, wea_tup, wea_lst, wea_bin, wea_neg, wea_not, wea_cmp, wea_chain, wea_and, wea_or, wea_ite, wea_idx, wea_sl, wea_call, wea_prim, wea_meth, wea_isi, wea_comp, slotD_z, slotD_s, slotA_z, slotA_s, newTup0, newTup1, newTup2, newTup3, newTup4, tr_non, tr_bl, tr_int, tr_tup, len_tup, atI0, atI1, idx_tup, it_tup, un_tup, int_of, lt_int, le_int, gt_int, ge_int, cmp_eq, cmp_ne, cmp_is, cmp_isnot, eqD_int, eqD_bl, lt_tup, List.set_cons_succ, List.set_cons_zero, startD, List.map_cons, List.map_nil, List.length_cons, List.length_nil, Nat.zero_add, Nat.reduceAdd, Nat.reduceSub, Nat.sub_self, List.replicate_succ, List.replicate_zero, List.cons_append, List.nil_append, Option.map_some, Kst.d, if_true, if_false, Bool.false_eq_true, wp_add_int, wp_sub_int, isiA, calA]
  cases v with
  | int i =>
    simp -implicitDefEqProofs only [isiD, wpS_sbnd, we_k, we_g, we_gf, we_v, wea_v, we_tup, we_lst, we_bin, we_neg, we_not, we_cmp, we_chain, we_and, we_or, we_ite, we_idx, we_sl, wt_no, wt_v, wt_k, wt_bin, wt_neg, wt_idx, we_callG, we_prim, we_meth, we_isi, we_comp, wea_gf, wea_lam0, wea_lam1, we_lam0, we_hcall, wa_nil, wa_cons, waa_nil, waa_cons, wg_tn, wg_tt, wg_tsub, wgs_nil, wgs_cons, gsNil_nil, wi_iv, wi_ir1, wi_ir2, wi_ien, wi_izip, wi_izl, ws_asg, ws_par, ws_ex, ws_ret, ws_retN, ws_pass, ws_brk, ws_iff, ws_forr, ws_raise, wss_nil, wss_cons, wtru_eq, wp_ok, wp_exc, wp_oth_some, wea_k, wea_g, wea_tup, wea_lst, wea_bin, wea_neg, wea_not, wea_cmp, wea_chain, wea_and, wea_or, wea_ite, wea_idx, wea_sl, wea_call, wea_prim, wea_meth, wea_isi, wea_comp, slotD_z, slotD_s, slotA_z, slotA_s, newTup0, newTup1, newTup2, newTup3, newTup4, tr_non, tr_bl, tr_int, tr_tup, len_tup, atI0, atI1, idx_tup, it_tup, un_tup, int_of, lt_int, le_int, gt_int, ge_int, cmp_eq, cmp_ne, cmp_is, cmp_isnot, eqD_int, eqD_bl, lt_tup, List.set_cons_succ, List.set_cons_zero, startD, List.map_cons, List.map_nil, List.length_cons, List.length_nil, Nat.zero_add, Nat.reduceAdd, Nat.reduceSub, Nat.sub_self, List.replicate_succ, List.replicate_zero, List.cons_append, List.nil_append, Option.map_some, Kst.d, if_true, if_false, Bool.false_eq_true, wp_add_int, wp_sub_int, isiA, calA, Bool.not_false, Bool.not_true]
    simp only [whole] at h
    by_cases h1 : lo ≤ i
    · simp only [h1, decide_true, if_true, Option.map_some, wp_oth_some]
      simpa [h1] using h
    · simp only [h1, decide_false, Bool.false_eq_true, if_false]
      simpa [h1] using h
  | rol => cases hv
  | fn => cases hv
  | lam => cases hv
  | _ => simpa -implicitDefEqProofs only [isiD, whole, wpS_sbnd, we_k, we_g, we_gf, we_v, wea_v, we_tup, we_lst, we_bin, we_neg, we_not, we_cmp, we_chain, we_and, we_or, we_ite, we_idx, we_sl, wt_no, wt_v, wt_k, wt_bin, wt_neg, wt_idx, we_callG, we_prim, we_meth, we_isi, we_comp, wea_gf, wea_lam0, wea_lam1, we_lam0, we_hcall, wa_nil, wa_cons, waa_nil, waa_cons, wg_tn, wg_tt, wg_tsub, wgs_nil, wgs_cons, gsNil_nil, wi_iv, wi_ir1, wi_ir2, wi_ien, wi_izip, wi_izl, ws_asg, ws_par, ws_ex, ws_ret, ws_retN, ws_pass, ws_brk, ws_iff, ws_forr, ws_raise, wss_nil, wss_cons, wtru_eq, wp_ok, wp_exc, wp_oth_some, wea_k, wea_g, wea_tup, wea_lst, wea_bin, wea_neg, wea_not, wea_cmp, wea_chain, wea_and, wea_or, wea_ite, wea_idx, wea_sl, wea_call, wea_prim, wea_meth, wea_isi, wea_comp, slotD_z, slotD_s, slotA_z, slotA_s, newTup0, newTup1, newTup2, newTup3, newTup4, tr_non, tr_bl, tr_int, tr_tup, len_tup, atI0, atI1, idx_tup, it_tup, un_tup, int_of, lt_int, le_int, gt_int, ge_int, cmp_eq, cmp_ne, cmp_is, cmp_isnot, eqD_int, eqD_bl, lt_tup, List.set_cons_succ, List.set_cons_zero, startD, List.map_cons, List.map_nil, List.length_cons, List.length_nil, Nat.zero_add, Nat.reduceAdd, Nat.reduceSub, Nat.sub_self, List.replicate_succ, List.replicate_zero, List.cons_append, List.nil_append, Option.map_some, Kst.d, if_true, if_false, Bool.false_eq_true, wp_add_int, wp_sub_int, isiA, calA, Bool.not_false, Bool.not_true] using h
end
/-! ### shapes -/
def optI : Option Int → D
  | some i => .int i
  | none => .non
def foldS (f : D → Option Int) (stands : Int) : Int → List D → Option Int
  | many, [] => some many
  | many, .tup [s, inner] :: r => if whole s 0 (stands - 1) then (match f inner with
    | some k => if many + k + 1 > 60 then none else foldS f stands (many + k + 1) r
    | none => none) else none
  | _, _ :: _ => none
def shape (stands : Int) : Nat → D → Option Int
  | 0, .tup [] => some 0
  | 0, _ => none
  | deep + 1, .tup ds => foldS (shape stands deep) stands 0 ds
  | _ + 1, _ => none
section
variable {W n k : Nat} {Q : D → Store → Prop} {E : Xn → Store → Prop} {st : Store}
theorem dats_at {ds : List D} {d : D} (h : Dat k st (.tup ds)) (hd : d ∈ ds) : Dat k st d := dat_tup.mp h d hd
theorem len_ne {a : Nat} : (((a : Int) == 2) = true) ↔ a = 2 := by
  rw [beq_iff_eq]
  omega
theorem w_shape_of {m : Nat} {stands : Int} (hW : m < W) : ∀ (deep n : Nat) (v : D) (Q : D → Store → Prop), deep + 2 ≤ n → Val k m st v → Q (optI (shape stands deep v)) st →
    wp (callN prog W n (.d (.fn 1)) [.d (.int stands), .d v, .d (.int deep)] st) Q E := by
  intro deep
  induction deep with
  | zero =>
    intro n v Q hn hv h
    obtain ⟨n, rfl⟩ : ∃ m, n = m + 1 := ⟨n - 1, by omega⟩
    rw [wp_fn (d := ⟨3, 6, c_shape_of⟩) rfl rfl]
    simp -implicitDefEqProofs only [c_shape_of, wpS_sbnd, we_k, we_g, we_gf, we_v, wea_v, we_tup, we_lst, we_bin, we_neg, we_not, we_cmp, we_chain, we_and, we_or, we_ite, we_idx, we_sl, wt_no, wt_v, wt_k, wt_bin, wt_neg, wt_idx, we_callG, we_prim, we_meth, we_isi, we_comp, wea_gf, wea_lam0, wea_lam1, we_lam0, we_hcall, wa_nil, wa_cons, waa_nil, waa_cons, wg_tn, wg_tt, wg_tsub, wgs_nil, wgs_cons, gsNil_nil, wi_iv, wi_ir1, wi_ir2, wi_ien, wi_izip, wi_izl, ws_asg, ws_par, ws_ex, ws_ret, ws_retN, ws_pass, ws_brk, ws_iff, ws_forr, ws_raise, wss_nil, wss_cons, wtru_eq, wp_ok, wp_exc, wp_oth_some, wea_k, wea_g, wea_tup, wea_lst, wea_bin, wea_neg, wea_not, wea_cmp, wea_chain, wea_and, wea_or, wea_ite, wea_idx, wea_sl, wea_call, wea_prim, wea_meth, wea_isi, wea_comp, slotD_z, slotD_s, slotA_z, slotA_s, newTup0, newTup1, newTup2, newTup3, newTup4, tr_non, tr_bl, tr_int, tr_tup, len_tup, atI0, atI1, idx_tup, it_tup, un_tup, int_of, lt_int, le_int, gt_int, ge_int, cmp_eq, cmp_ne, cmp_is, cmp_isnot, eqD_int, eqD_bl, lt_tup, List.set_cons_succ, List.set_cons_zero, startD, List.map_cons, List.map_nil, List.length_cons, List.length_nil, Nat.zero_add, Nat.reduceAdd, Nat.reduceSub, Nat.sub_self, List.replicate_succ, List.replicate_zero, List.cons_append, List.nil_append, Option.map_some, Kst.d, if_true, if_false, Bool.false_eq_true, wp_add_int, wp_sub_int, isiA, calA]
    cases v with
    | tup ds =>
      simp -implicitDefEqProofs only [isiD, wpS_sbnd, we_k, we_g, we_gf, we_v, wea_v, we_tup, we_lst, we_bin, we_neg, we_not, we_cmp, we_chain, we_and, we_or, we_ite, we_idx, we_sl, wt_no, wt_v, wt_k, wt_bin, wt_neg, wt_idx, we_callG, we_prim, we_meth, we_isi, we_comp, wea_gf, wea_lam0, wea_lam1, we_lam0, we_hcall, wa_nil, wa_cons, waa_nil, waa_cons, wg_tn, wg_tt, wg_tsub, wgs_nil, wgs_cons, gsNil_nil, wi_iv, wi_ir1, wi_ir2, wi_ien, wi_izip, wi_izl, ws_asg, ws_par, ws_ex, ws_ret, ws_retN, ws_pass, ws_brk, ws_iff, ws_forr, ws_raise, wss_nil, wss_cons, wtru_eq, wp_ok, wp_exc, wp_oth_some, wea_k, wea_g, wea_tup, wea_lst, wea_bin, wea_neg, wea_not, wea_cmp, wea_chain, wea_and, wea_or, wea_ite, wea_idx, wea_sl, wea_call, wea_prim, wea_meth, wea_isi, wea_comp, slotD_z, slotD_s, slotA_z, slotA_s, newTup0, newTup1, newTup2, newTup3, newTup4, tr_non, tr_bl, tr_int, tr_tup, len_tup, atI0, atI1, idx_tup, it_tup, un_tup, int_of, lt_int, le_int, gt_int, ge_int, cmp_eq, cmp_ne, cmp_is, cmp_isnot, eqD_int, eqD_bl, lt_tup, List.set_cons_succ, List.set_cons_zero, startD, List.map_cons, List.map_nil, List.length_cons, List.length_nil, Nat.zero_add, Nat.reduceAdd, Nat.reduceSub, Nat.sub_self, List.replicate_succ, List.replicate_zero, List.cons_append, List.nil_append, Option.map_some, Kst.d, if_true, if_false, Bool.false_eq_true, wp_add_int, wp_sub_int, isiA, calA, Bool.not_false, Bool.not_true, eqD_nil hv.1]
      cases ds with
      | nil =>
        simp only [isNilD, Bool.not_true, Bool.false_eq_true, if_false]
        refine loop_tup (fun r ρ st' => r = [] ∧ ρ = [some (.d (.int stands)), some (.d (.tup [])), some (.d (.int (0 : Nat))), some (.d (.int 0)), none, none] ∧ st' = st) (by show 0 < W; omega) ⟨rfl, rfl, rfl⟩ (fun d r ρ st' ⟨e, _⟩ => by cases e) fun ρ st' ⟨_, e1, e2⟩ => ?_
        subst e1 e2
        simpa -implicitDefEqProofs only [wpS_sbnd, we_k, we_g, we_gf, we_v, wea_v, we_tup, we_lst, we_bin, we_neg, we_not, we_cmp, we_chain, we_and, we_or, we_ite, we_idx, we_sl, wt_no, wt_v, wt_k, wt_bin, wt_neg, wt_idx, we_callG, we_prim, we_meth, we_isi, we_comp, wea_gf, wea_lam0, wea_lam1, we_lam0, we_hcall, wa_nil, wa_cons, waa_nil, waa_cons, wg_tn, wg_tt, wg_tsub, wgs_nil, wgs_cons, gsNil_nil, wi_iv, wi_ir1, wi_ir2, wi_ien, wi_izip, wi_izl, ws_asg, ws_par, ws_ex, ws_ret, ws_retN, ws_pass, ws_brk, ws_iff, ws_forr, ws_raise, wss_nil, wss_cons, wtru_eq, wp_ok, wp_exc, wp_oth_some, wea_k, wea_g, wea_tup, wea_lst, wea_bin, wea_neg, wea_not, wea_cmp, wea_chain, wea_and, wea_or, wea_ite, wea_idx, wea_sl, wea_call, wea_prim, wea_meth, wea_isi, wea_comp, slotD_z, slotD_s, slotA_z, slotA_s, newTup0, newTup1, newTup2, newTup3, newTup4, tr_non, tr_bl, tr_int, tr_tup, len_tup, atI0, atI1, idx_tup, it_tup, un_tup, int_of, lt_int, le_int, gt_int, ge_int, cmp_eq, cmp_ne, cmp_is, cmp_isnot, eqD_int, eqD_bl, lt_tup, List.set_cons_succ, List.set_cons_zero, startD, List.map_cons, List.map_nil, List.length_cons, List.length_nil, Nat.zero_add, Nat.reduceAdd, Nat.reduceSub, Nat.sub_self, List.replicate_succ, List.replicate_zero, List.cons_append, List.nil_append, Option.map_some, Kst.d, if_true, if_false, Bool.false_eq_true, wp_add_int, wp_sub_int, isiA, calA, shape, optI] using h
      | cons d ds =>
        simp only [isNilD, Bool.not_false, if_true, Int.natCast_zero, beq_self_eq_true]
        simpa only [shape, optI] using h
    | rol => cases hv.1
    | fn => cases hv.1
    | lam => cases hv.1
    | _ => simpa -implicitDefEqProofs only [isiD, wpS_sbnd, we_k, we_g, we_gf, we_v, wea_v, we_tup, we_lst, we_bin, we_neg, we_not, we_cmp, we_chain, we_and, we_or, we_ite, we_idx, we_sl, wt_no, wt_v, wt_k, wt_bin, wt_neg, wt_idx, we_callG, we_prim, we_meth, we_isi, we_comp, wea_gf, wea_lam0, wea_lam1, we_lam0, we_hcall, wa_nil, wa_cons, waa_nil, waa_cons, wg_tn, wg_tt, wg_tsub, wgs_nil, wgs_cons, gsNil_nil, wi_iv, wi_ir1, wi_ir2, wi_ien, wi_izip, wi_izl, ws_asg, ws_par, ws_ex, ws_ret, ws_retN, ws_pass, ws_brk, ws_iff, ws_forr, ws_raise, wss_nil, wss_cons, wtru_eq, wp_ok, wp_exc, wp_oth_some, wea_k, wea_g, wea_tup, wea_lst, wea_bin, wea_neg, wea_not, wea_cmp, wea_chain, wea_and, wea_or, wea_ite, wea_idx, wea_sl, wea_call, wea_prim, wea_meth, wea_isi, wea_comp, slotD_z, slotD_s, slotA_z, slotA_s, newTup0, newTup1, newTup2, newTup3, newTup4, tr_non, tr_bl, tr_int, tr_tup, len_tup, atI0, atI1, idx_tup, it_tup, un_tup, int_of, lt_int, le_int, gt_int, ge_int, cmp_eq, cmp_ne, cmp_is, cmp_isnot, eqD_int, eqD_bl, lt_tup, List.set_cons_succ, List.set_cons_zero, startD, List.map_cons, List.map_nil, List.length_cons, List.length_nil, Nat.zero_add, Nat.reduceAdd, Nat.reduceSub, Nat.sub_self, List.replicate_succ, List.replicate_zero, List.cons_append, List.nil_append, Option.map_some, Kst.d, if_true, if_false, Bool.false_eq_true, wp_add_int, wp_sub_int, isiA, calA, Bool.not_false, Bool.not_true, shape, optI] using h
  | succ deep ih =>
    intro n v Q hn hv h
    obtain ⟨n, rfl⟩ : ∃ m, n = m + 1 := ⟨n - 1, by omega⟩
    obtain ⟨n', rfl⟩ : ∃ m, n = m + 1 := ⟨n - 1, by omega⟩
    rw [wp_fn (d := ⟨3, 6, c_shape_of⟩) rfl rfl]
    simp -implicitDefEqProofs only [c_shape_of, wpS_sbnd, we_k, we_g, we_gf, we_v, wea_v, we_tup, we_lst, we_bin, we_neg, we_not, we_cmp, we_chain, we_and, we_or, we_ite, we_idx, we_sl, wt_no, wt_v, wt_k, wt_bin, wt_neg, wt_idx, we_callG, we_prim, we_meth, we_isi, we_comp, wea_gf, wea_lam0, wea_lam1, we_lam0, we_hcall, wa_nil, wa_cons, waa_nil, waa_cons, wg_tn, wg_tt, wg_tsub, wgs_nil, wgs_cons, gsNil_nil, wi_iv, wi_ir1, wi_ir2, wi_ien, wi_izip, wi_izl, ws_asg, ws_par, ws_ex, ws_ret, ws_retN, ws_pass, ws_brk, ws_iff, ws_forr, ws_raise, wss_nil, wss_cons, wtru_eq, wp_ok, wp_exc, wp_oth_some, wea_k, wea_g, wea_tup, wea_lst, wea_bin, wea_neg, wea_not, wea_cmp, wea_chain, wea_and, wea_or, wea_ite, wea_idx, wea_sl, wea_call, wea_prim, wea_meth, wea_isi, wea_comp, slotD_z, slotD_s, slotA_z, slotA_s, newTup0, newTup1, newTup2, newTup3, newTup4, tr_non, tr_bl, tr_int, tr_tup, len_tup, atI0, atI1, idx_tup, it_tup, un_tup, int_of, lt_int, le_int, gt_int, ge_int, cmp_eq, cmp_ne, cmp_is, cmp_isnot, eqD_int, eqD_bl, lt_tup, List.set_cons_succ, List.set_cons_zero, startD, List.map_cons, List.map_nil, List.length_cons, List.length_nil, Nat.zero_add, Nat.reduceAdd, Nat.reduceSub, Nat.sub_self, List.replicate_succ, List.replicate_zero, List.cons_append, List.nil_append, Option.map_some, Kst.d, if_true, if_false, Bool.false_eq_true, wp_add_int, wp_sub_int, isiA, calA]
    cases v with
    | tup ds =>
      have z0 : (((deep + 1 : Nat) : Int) == 0) = false := by
        rw [beq_eq_false_iff_ne]
        omega
      have z1 : ((deep + 1 : Nat) : Int) - 1 = (deep : Int) := by omega
      simp -implicitDefEqProofs only [isiD, wpS_sbnd, we_k, we_g, we_gf, we_v, wea_v, we_tup, we_lst, we_bin, we_neg, we_not, we_cmp, we_chain, we_and, we_or, we_ite, we_idx, we_sl, wt_no, wt_v, wt_k, wt_bin, wt_neg, wt_idx, we_callG, we_prim, we_meth, we_isi, we_comp, wea_gf, wea_lam0, wea_lam1, we_lam0, we_hcall, wa_nil, wa_cons, waa_nil, waa_cons, wg_tn, wg_tt, wg_tsub, wgs_nil, wgs_cons, gsNil_nil, wi_iv, wi_ir1, wi_ir2, wi_ien, wi_izip, wi_izl, ws_asg, ws_par, ws_ex, ws_ret, ws_retN, ws_pass, ws_brk, ws_iff, ws_forr, ws_raise, wss_nil, wss_cons, wtru_eq, wp_ok, wp_exc, wp_oth_some, wea_k, wea_g, wea_tup, wea_lst, wea_bin, wea_neg, wea_not, wea_cmp, wea_chain, wea_and, wea_or, wea_ite, wea_idx, wea_sl, wea_call, wea_prim, wea_meth, wea_isi, wea_comp, slotD_z, slotD_s, slotA_z, slotA_s, newTup0, newTup1, newTup2, newTup3, newTup4, tr_non, tr_bl, tr_int, tr_tup, len_tup, atI0, atI1, idx_tup, it_tup, un_tup, int_of, lt_int, le_int, gt_int, ge_int, cmp_eq, cmp_ne, cmp_is, cmp_isnot, eqD_int, eqD_bl, lt_tup, List.set_cons_succ, List.set_cons_zero, startD, List.map_cons, List.map_nil, List.length_cons, List.length_nil, Nat.zero_add, Nat.reduceAdd, Nat.reduceSub, Nat.sub_self, List.replicate_succ, List.replicate_zero, List.cons_append, List.nil_append, Option.map_some, Kst.d, if_true, if_false, Bool.false_eq_true, wp_add_int, wp_sub_int, isiA, calA, Bool.not_false, Bool.not_true, eqD_nil hv.1, z0]
      cases hnil : isNilD (.tup ds)
      all_goals
        simp only [Bool.not_false, Bool.not_true, Bool.false_eq_true, if_true, if_false]
        refine loop_tup (fun r ρ st' => st' = st ∧ (∀ d ∈ r, Val k m st d) ∧ ∃ many b i, ρ = [some (.d (.int stands)), some (.d (.tup ds)), some (.d (.int ((deep + 1 : Nat) : Int))), some (.d (.int many)), b, i] ∧ shape stands (deep + 1) (.tup ds) = foldS (shape stands deep) stands many r)
          (Nat.lt_of_le_of_lt (val_tup.mp hv).1 hW) ⟨rfl, (val_tup.mp hv).2, 0, none, none, rfl, rfl⟩ (fun d r ρ st' ⟨e1, e2, many, b, i, e3, e4⟩ => ?_) (fun ρ st' ⟨e1, _, many, b, i, e3, e4⟩ => ?_)
        · subst e1 e3
          have hd := e2 d List.mem_cons_self
          simp -implicitDefEqProofs only [wpS_sbnd, we_k, we_g, we_gf, we_v, wea_v, we_tup, we_lst, we_bin, we_neg, we_not, we_cmp, we_chain, we_and, we_or, we_ite, we_idx, we_sl, wt_no, wt_v, wt_k, wt_bin, wt_neg, wt_idx, we_callG, we_prim, we_meth, we_isi, we_comp, wea_gf, wea_lam0, wea_lam1, we_lam0, we_hcall, wa_nil, wa_cons, waa_nil, waa_cons, wg_tn, wg_tt, wg_tsub, wgs_nil, wgs_cons, gsNil_nil, wi_iv, wi_ir1, wi_ir2, wi_ien, wi_izip, wi_izl, ws_asg, ws_par, ws_ex, ws_ret, ws_retN, ws_pass, ws_brk, ws_iff, ws_forr, ws_raise, wss_nil, wss_cons, wtru_eq, wp_ok, wp_exc, wp_oth_some, wea_k, wea_g, wea_tup, wea_lst, wea_bin, wea_neg, wea_not, wea_cmp, wea_chain, wea_and, wea_or, wea_ite, wea_idx, wea_sl, wea_call, wea_prim, wea_meth, wea_isi, wea_comp, slotD_z, slotD_s, slotA_z, slotA_s, newTup0, newTup1, newTup2, newTup3, newTup4, tr_non, tr_bl, tr_int, tr_tup, len_tup, atI0, atI1, idx_tup, it_tup, un_tup, int_of, lt_int, le_int, gt_int, ge_int, cmp_eq, cmp_ne, cmp_is, cmp_isnot, eqD_int, eqD_bl, lt_tup, List.set_cons_succ, List.set_cons_zero, startD, List.map_cons, List.map_nil, List.length_cons, List.length_nil, Nat.zero_add, Nat.reduceAdd, Nat.reduceSub, Nat.sub_self, List.replicate_succ, List.replicate_zero, List.cons_append, List.nil_append, Option.map_some, Kst.d, if_true, if_false, Bool.false_eq_true, wp_add_int, wp_sub_int, isiA, calA]
          cases d with
          | tup bs =>
            simp -implicitDefEqProofs only [isiD, wpS_sbnd, we_k, we_g, we_gf, we_v, wea_v, we_tup, we_lst, we_bin, we_neg, we_not, we_cmp, we_chain, we_and, we_or, we_ite, we_idx, we_sl, wt_no, wt_v, wt_k, wt_bin, wt_neg, wt_idx, we_callG, we_prim, we_meth, we_isi, we_comp, wea_gf, wea_lam0, wea_lam1, we_lam0, we_hcall, wa_nil, wa_cons, waa_nil, waa_cons, wg_tn, wg_tt, wg_tsub, wgs_nil, wgs_cons, gsNil_nil, wi_iv, wi_ir1, wi_ir2, wi_ien, wi_izip, wi_izl, ws_asg, ws_par, ws_ex, ws_ret, ws_retN, ws_pass, ws_brk, ws_iff, ws_forr, ws_raise, wss_nil, wss_cons, wtru_eq, wp_ok, wp_exc, wp_oth_some, wea_k, wea_g, wea_tup, wea_lst, wea_bin, wea_neg, wea_not, wea_cmp, wea_chain, wea_and, wea_or, wea_ite, wea_idx, wea_sl, wea_call, wea_prim, wea_meth, wea_isi, wea_comp, slotD_z, slotD_s, slotA_z, slotA_s, newTup0, newTup1, newTup2, newTup3, newTup4, tr_non, tr_bl, tr_int, tr_tup, len_tup, atI0, atI1, idx_tup, it_tup, un_tup, int_of, lt_int, le_int, gt_int, ge_int, cmp_eq, cmp_ne, cmp_is, cmp_isnot, eqD_int, eqD_bl, lt_tup, List.set_cons_succ, List.set_cons_zero, startD, List.map_cons, List.map_nil, List.length_cons, List.length_nil, Nat.zero_add, Nat.reduceAdd, Nat.reduceSub, Nat.sub_self, List.replicate_succ, List.replicate_zero, List.cons_append, List.nil_append, Option.map_some, Kst.d, if_true, if_false, Bool.false_eq_true, wp_add_int, wp_sub_int, isiA, calA, Bool.not_false, Bool.not_true]
            by_cases hl : bs.length = 2
            · match bs, hl with
              | [s, inner], _ =>
                have hs := (val_tup.mp hd).2 s (by simp)
                have hi := (val_tup.mp hd).2 inner (by simp)
                have l2 : (((2 : Nat) : Int) == 2) = true := by decide
                simp -implicitDefEqProofs only [List.length_cons, List.length_nil, Nat.zero_add, Nat.reduceAdd, l2, Bool.not_true, Bool.false_eq_true, if_false, wpS_sbnd, we_k, we_g, we_gf, we_v, wea_v, we_tup, we_lst, we_bin, we_neg, we_not, we_cmp, we_chain, we_and, we_or, we_ite, we_idx, we_sl, wt_no, wt_v, wt_k, wt_bin, wt_neg, wt_idx, we_callG, we_prim, we_meth, we_isi, we_comp, wea_gf, wea_lam0, wea_lam1, we_lam0, we_hcall, wa_nil, wa_cons, waa_nil, waa_cons, wg_tn, wg_tt, wg_tsub, wgs_nil, wgs_cons, gsNil_nil, wi_iv, wi_ir1, wi_ir2, wi_ien, wi_izip, wi_izl, ws_asg, ws_par, ws_ex, ws_ret, ws_retN, ws_pass, ws_brk, ws_iff, ws_forr, ws_raise, wss_nil, wss_cons, wtru_eq, wp_ok, wp_exc, wp_oth_some, wea_k, wea_g, wea_tup, wea_lst, wea_bin, wea_neg, wea_not, wea_cmp, wea_chain, wea_and, wea_or, wea_ite, wea_idx, wea_sl, wea_call, wea_prim, wea_meth, wea_isi, wea_comp, slotD_z, slotD_s, slotA_z, slotA_s, newTup0, newTup1, newTup2, newTup3, newTup4, tr_non, tr_bl, tr_int, tr_tup, len_tup, atI0, atI1, idx_tup, it_tup, un_tup, int_of, lt_int, le_int, gt_int, ge_int, cmp_eq, cmp_ne, cmp_is, cmp_isnot, eqD_int, eqD_bl, lt_tup, List.set_cons_succ, List.set_cons_zero, startD, List.map_cons, List.map_nil, List.length_cons, List.length_nil, Nat.zero_add, Nat.reduceAdd, Nat.reduceSub, Nat.sub_self, List.replicate_succ, List.replicate_zero, List.cons_append, List.nil_append, Option.map_some, Kst.d, if_true, if_false, Bool.false_eq_true, wp_add_int, wp_sub_int, isiA, calA]
                refine w_is_whole hs.1 ?_
                simp -implicitDefEqProofs only [wpS_sbnd, we_k, we_g, we_gf, we_v, wea_v, we_tup, we_lst, we_bin, we_neg, we_not, we_cmp, we_chain, we_and, we_or, we_ite, we_idx, we_sl, wt_no, wt_v, wt_k, wt_bin, wt_neg, wt_idx, we_callG, we_prim, we_meth, we_isi, we_comp, wea_gf, wea_lam0, wea_lam1, we_lam0, we_hcall, wa_nil, wa_cons, waa_nil, waa_cons, wg_tn, wg_tt, wg_tsub, wgs_nil, wgs_cons, gsNil_nil, wi_iv, wi_ir1, wi_ir2, wi_ien, wi_izip, wi_izl, ws_asg, ws_par, ws_ex, ws_ret, ws_retN, ws_pass, ws_brk, ws_iff, ws_forr, ws_raise, wss_nil, wss_cons, wtru_eq, wp_ok, wp_exc, wp_oth_some, wea_k, wea_g, wea_tup, wea_lst, wea_bin, wea_neg, wea_not, wea_cmp, wea_chain, wea_and, wea_or, wea_ite, wea_idx, wea_sl, wea_call, wea_prim, wea_meth, wea_isi, wea_comp, slotD_z, slotD_s, slotA_z, slotA_s, newTup0, newTup1, newTup2, newTup3, newTup4, tr_non, tr_bl, tr_int, tr_tup, len_tup, atI0, atI1, idx_tup, it_tup, un_tup, int_of, lt_int, le_int, gt_int, ge_int, cmp_eq, cmp_ne, cmp_is, cmp_isnot, eqD_int, eqD_bl, lt_tup, List.set_cons_succ, List.set_cons_zero, startD, List.map_cons, List.map_nil, List.length_cons, List.length_nil, Nat.zero_add, Nat.reduceAdd, Nat.reduceSub, Nat.sub_self, List.replicate_succ, List.replicate_zero, List.cons_append, List.nil_append, Option.map_some, Kst.d, if_true, if_false, Bool.false_eq_true, wp_add_int, wp_sub_int, isiA, calA]
                cases hw : whole s 0 (stands - 1) with
                | false =>
                  simp only [Bool.not_false, if_true]
                  rw [e4] at h
                  simpa only [foldS, hw, Bool.false_eq_true, if_false, optI] using h
                | true =>
                  simp -implicitDefEqProofs only [Bool.not_true, Bool.false_eq_true, if_false, wpS_sbnd, we_k, we_g, we_gf, we_v, wea_v, we_tup, we_lst, we_bin, we_neg, we_not, we_cmp, we_chain, we_and, we_or, we_ite, we_idx, we_sl, wt_no, wt_v, wt_k, wt_bin, wt_neg, wt_idx, we_callG, we_prim, we_meth, we_isi, we_comp, wea_gf, wea_lam0, wea_lam1, we_lam0, we_hcall, wa_nil, wa_cons, waa_nil, waa_cons, wg_tn, wg_tt, wg_tsub, wgs_nil, wgs_cons, gsNil_nil, wi_iv, wi_ir1, wi_ir2, wi_ien, wi_izip, wi_izl, ws_asg, ws_par, ws_ex, ws_ret, ws_retN, ws_pass, ws_brk, ws_iff, ws_forr, ws_raise, wss_nil, wss_cons, wtru_eq, wp_ok, wp_exc, wp_oth_some, wea_k, wea_g, wea_tup, wea_lst, wea_bin, wea_neg, wea_not, wea_cmp, wea_chain, wea_and, wea_or, wea_ite, wea_idx, wea_sl, wea_call, wea_prim, wea_meth, wea_isi, wea_comp, slotD_z, slotD_s, slotA_z, slotA_s, newTup0, newTup1, newTup2, newTup3, newTup4, tr_non, tr_bl, tr_int, tr_tup, len_tup, atI0, atI1, idx_tup, it_tup, un_tup, int_of, lt_int, le_int, gt_int, ge_int, cmp_eq, cmp_ne, cmp_is, cmp_isnot, eqD_int, eqD_bl, lt_tup, List.set_cons_succ, List.set_cons_zero, startD, List.map_cons, List.map_nil, List.length_cons, List.length_nil, Nat.zero_add, Nat.reduceAdd, Nat.reduceSub, Nat.sub_self, List.replicate_succ, List.replicate_zero, List.cons_append, List.nil_append, Option.map_some, Kst.d, if_true, if_false, Bool.false_eq_true, wp_add_int, wp_sub_int, isiA, calA, z1]
                  refine ih _ inner _ (by omega) hi ?_
                  try simp -implicitDefEqProofs only [wpS_sbnd, we_k, we_g, we_gf, we_v, wea_v, we_tup, we_lst, we_bin, we_neg, we_not, we_cmp, we_chain, we_and, we_or, we_ite, we_idx, we_sl, wt_no, wt_v, wt_k, wt_bin, wt_neg, wt_idx, we_callG, we_prim, we_meth, we_isi, we_comp, wea_gf, wea_lam0, wea_lam1, we_lam0, we_hcall, wa_nil, wa_cons, waa_nil, waa_cons, wg_tn, wg_tt, wg_tsub, wgs_nil, wgs_cons, gsNil_nil, wi_iv, wi_ir1, wi_ir2, wi_ien, wi_izip, wi_izl, ws_asg, ws_par, ws_ex, ws_ret, ws_retN, ws_pass, ws_brk, ws_iff, ws_forr, ws_raise, wss_nil, wss_cons, wtru_eq, wp_ok, wp_exc, wp_oth_some, wea_k, wea_g, wea_tup, wea_lst, wea_bin, wea_neg, wea_not, wea_cmp, wea_chain, wea_and, wea_or, wea_ite, wea_idx, wea_sl, wea_call, wea_prim, wea_meth, wea_isi, wea_comp, slotD_z, slotD_s, slotA_z, slotA_s, newTup0, newTup1, newTup2, newTup3, newTup4, tr_non, tr_bl, tr_int, tr_tup, len_tup, atI0, atI1, idx_tup, it_tup, un_tup, int_of, lt_int, le_int, gt_int, ge_int, cmp_eq, cmp_ne, cmp_is, cmp_isnot, eqD_int, eqD_bl, lt_tup, List.set_cons_succ, List.set_cons_zero, startD, List.map_cons, List.map_nil, List.length_cons, List.length_nil, Nat.zero_add, Nat.reduceAdd, Nat.reduceSub, Nat.sub_self, List.replicate_succ, List.replicate_zero, List.cons_append, List.nil_append, Option.map_some, Kst.d, if_true, if_false, Bool.false_eq_true, wp_add_int, wp_sub_int, isiA, calA]
                  simp only [foldS, hw, if_true] at e4
                  cases hsh : shape stands deep inner with
                  | none =>
                    rw [hsh] at e4
                    simp -implicitDefEqProofs only [optI, isD, wpS_sbnd, we_k, we_g, we_gf, we_v, wea_v, we_tup, we_lst, we_bin, we_neg, we_not, we_cmp, we_chain, we_and, we_or, we_ite, we_idx, we_sl, wt_no, wt_v, wt_k, wt_bin, wt_neg, wt_idx, we_callG, we_prim, we_meth, we_isi, we_comp, wea_gf, wea_lam0, wea_lam1, we_lam0, we_hcall, wa_nil, wa_cons, waa_nil, waa_cons, wg_tn, wg_tt, wg_tsub, wgs_nil, wgs_cons, gsNil_nil, wi_iv, wi_ir1, wi_ir2, wi_ien, wi_izip, wi_izl, ws_asg, ws_par, ws_ex, ws_ret, ws_retN, ws_pass, ws_brk, ws_iff, ws_forr, ws_raise, wss_nil, wss_cons, wtru_eq, wp_ok, wp_exc, wp_oth_some, wea_k, wea_g, wea_tup, wea_lst, wea_bin, wea_neg, wea_not, wea_cmp, wea_chain, wea_and, wea_or, wea_ite, wea_idx, wea_sl, wea_call, wea_prim, wea_meth, wea_isi, wea_comp, slotD_z, slotD_s, slotA_z, slotA_s, newTup0, newTup1, newTup2, newTup3, newTup4, tr_non, tr_bl, tr_int, tr_tup, len_tup, atI0, atI1, idx_tup, it_tup, un_tup, int_of, lt_int, le_int, gt_int, ge_int, cmp_eq, cmp_ne, cmp_is, cmp_isnot, eqD_int, eqD_bl, lt_tup, List.set_cons_succ, List.set_cons_zero, startD, List.map_cons, List.map_nil, List.length_cons, List.length_nil, Nat.zero_add, Nat.reduceAdd, Nat.reduceSub, Nat.sub_self, List.replicate_succ, List.replicate_zero, List.cons_append, List.nil_append, Option.map_some, Kst.d, if_true, if_false, Bool.false_eq_true, wp_add_int, wp_sub_int, isiA, calA]
                    rw [e4] at h
                    exact h
                  | some c =>
                    rw [hsh] at e4
                    simp -implicitDefEqProofs only [optI, isD, wpS_sbnd, we_k, we_g, we_gf, we_v, wea_v, we_tup, we_lst, we_bin, we_neg, we_not, we_cmp, we_chain, we_and, we_or, we_ite, we_idx, we_sl, wt_no, wt_v, wt_k, wt_bin, wt_neg, wt_idx, we_callG, we_prim, we_meth, we_isi, we_comp, wea_gf, wea_lam0, wea_lam1, we_lam0, we_hcall, wa_nil, wa_cons, waa_nil, waa_cons, wg_tn, wg_tt, wg_tsub, wgs_nil, wgs_cons, gsNil_nil, wi_iv, wi_ir1, wi_ir2, wi_ien, wi_izip, wi_izl, ws_asg, ws_par, ws_ex, ws_ret, ws_retN, ws_pass, ws_brk, ws_iff, ws_forr, ws_raise, wss_nil, wss_cons, wtru_eq, wp_ok, wp_exc, wp_oth_some, wea_k, wea_g, wea_tup, wea_lst, wea_bin, wea_neg, wea_not, wea_cmp, wea_chain, wea_and, wea_or, wea_ite, wea_idx, wea_sl, wea_call, wea_prim, wea_meth, wea_isi, wea_comp, slotD_z, slotD_s, slotA_z, slotA_s, newTup0, newTup1, newTup2, newTup3, newTup4, tr_non, tr_bl, tr_int, tr_tup, len_tup, atI0, atI1, idx_tup, it_tup, un_tup, int_of, lt_int, le_int, gt_int, ge_int, cmp_eq, cmp_ne, cmp_is, cmp_isnot, eqD_int, eqD_bl, lt_tup, List.set_cons_succ, List.set_cons_zero, startD, List.map_cons, List.map_nil, List.length_cons, List.length_nil, Nat.zero_add, Nat.reduceAdd, Nat.reduceSub, Nat.sub_self, List.replicate_succ, List.replicate_zero, List.cons_append, List.nil_append, Option.map_some, Kst.d, if_true, if_false, Bool.false_eq_true, wp_add_int, wp_sub_int, isiA, calA]
                    by_cases h6 : many + c + 1 > 60
                    · simp only [h6, decide_true, if_true]
                      simp only [h6, if_true] at e4
                      rw [e4] at h
                      exact h
                    · simp only [h6, decide_false, Bool.false_eq_true, if_false]
                      simp only [h6, if_false] at e4
                      exact ⟨by trivial, fun d hd => e2 d (List.mem_cons_of_mem _ hd), _, _, _, rfl, e4⟩
            · have l2 : ((bs.length : Int) == 2) = false := by
                rw [beq_eq_false_iff_ne]
                omega
              simp only [l2, Bool.not_false, if_true]
              have : foldS (shape stands deep) stands many (D.tup bs :: r) = none := by
                match bs, hl with
                | [], _ => rfl
                | [_], _ => rfl
                | _ :: _ :: _ :: _, _ => rfl
              rw [e4, this] at h
              exact h
          | rol => cases hd.1
          | fn => cases hd.1
          | lam => cases hd.1
          | _ =>
            rw [e4] at h
            simpa -implicitDefEqProofs only [isiD, wpS_sbnd, we_k, we_g, we_gf, we_v, wea_v, we_tup, we_lst, we_bin, we_neg, we_not, we_cmp, we_chain, we_and, we_or, we_ite, we_idx, we_sl, wt_no, wt_v, wt_k, wt_bin, wt_neg, wt_idx, we_callG, we_prim, we_meth, we_isi, we_comp, wea_gf, wea_lam0, wea_lam1, we_lam0, we_hcall, wa_nil, wa_cons, waa_nil, waa_cons, wg_tn, wg_tt, wg_tsub, wgs_nil, wgs_cons, gsNil_nil, wi_iv, wi_ir1, wi_ir2, wi_ien, wi_izip, wi_izl, ws_asg, ws_par, ws_ex, ws_ret, ws_retN, ws_pass, ws_brk, ws_iff, ws_forr, ws_raise, wss_nil, wss_cons, wtru_eq, wp_ok, wp_exc, wp_oth_some, wea_k, wea_g, wea_tup, wea_lst, wea_bin, wea_neg, wea_not, wea_cmp, wea_chain, wea_and, wea_or, wea_ite, wea_idx, wea_sl, wea_call, wea_prim, wea_meth, wea_isi, wea_comp, slotD_z, slotD_s, slotA_z, slotA_s, newTup0, newTup1, newTup2, newTup3, newTup4, tr_non, tr_bl, tr_int, tr_tup, len_tup, atI0, atI1, idx_tup, it_tup, un_tup, int_of, lt_int, le_int, gt_int, ge_int, cmp_eq, cmp_ne, cmp_is, cmp_isnot, eqD_int, eqD_bl, lt_tup, List.set_cons_succ, List.set_cons_zero, startD, List.map_cons, List.map_nil, List.length_cons, List.length_nil, Nat.zero_add, Nat.reduceAdd, Nat.reduceSub, Nat.sub_self, List.replicate_succ, List.replicate_zero, List.cons_append, List.nil_append, Option.map_some, Kst.d, if_true, if_false, Bool.false_eq_true, wp_add_int, wp_sub_int, isiA, calA, Bool.not_false, Bool.not_true, foldS, optI] using h
        · subst e1 e3
          rw [e4] at h
          simpa -implicitDefEqProofs only [wpS_sbnd, we_k, we_g, we_gf, we_v, wea_v, we_tup, we_lst, we_bin, we_neg, we_not, we_cmp, we_chain, we_and, we_or, we_ite, we_idx, we_sl, wt_no, wt_v, wt_k, wt_bin, wt_neg, wt_idx, we_callG, we_prim, we_meth, we_isi, we_comp, wea_gf, wea_lam0, wea_lam1, we_lam0, we_hcall, wa_nil, wa_cons, waa_nil, waa_cons, wg_tn, wg_tt, wg_tsub, wgs_nil, wgs_cons, gsNil_nil, wi_iv, wi_ir1, wi_ir2, wi_ien, wi_izip, wi_izl, ws_asg, ws_par, ws_ex, ws_ret, ws_retN, ws_pass, ws_brk, ws_iff, ws_forr, ws_raise, wss_nil, wss_cons, wtru_eq, wp_ok, wp_exc, wp_oth_some, wea_k, wea_g, wea_tup, wea_lst, wea_bin, wea_neg, wea_not, wea_cmp, wea_chain, wea_and, wea_or, wea_ite, wea_idx, wea_sl, wea_call, wea_prim, wea_meth, wea_isi, wea_comp, slotD_z, slotD_s, slotA_z, slotA_s, newTup0, newTup1, newTup2, newTup3, newTup4, tr_non, tr_bl, tr_int, tr_tup, len_tup, atI0, atI1, idx_tup, it_tup, un_tup, int_of, lt_int, le_int, gt_int, ge_int, cmp_eq, cmp_ne, cmp_is, cmp_isnot, eqD_int, eqD_bl, lt_tup, List.set_cons_succ, List.set_cons_zero, startD, List.map_cons, List.map_nil, List.length_cons, List.length_nil, Nat.zero_add, Nat.reduceAdd, Nat.reduceSub, Nat.sub_self, List.replicate_succ, List.replicate_zero, List.cons_append, List.nil_append, Option.map_some, Kst.d, if_true, if_false, Bool.false_eq_true, wp_add_int, wp_sub_int, isiA, calA, foldS, optI] using h
    | rol => cases hv.1
    | fn => cases hv.1
    | lam => cases hv.1
    | _ => simpa -implicitDefEqProofs only [isiD, wpS_sbnd, we_k, we_g, we_gf, we_v, wea_v, we_tup, we_lst, we_bin, we_neg, we_not, we_cmp, we_chain, we_and, we_or, we_ite, we_idx, we_sl, wt_no, wt_v, wt_k, wt_bin, wt_neg, wt_idx, we_callG, we_prim, we_meth, we_isi, we_comp, wea_gf, wea_lam0, wea_lam1, we_lam0, we_hcall, wa_nil, wa_cons, waa_nil, waa_cons, wg_tn, wg_tt, wg_tsub, wgs_nil, wgs_cons, gsNil_nil, wi_iv, wi_ir1, wi_ir2, wi_ien, wi_izip, wi_izl, ws_asg, ws_par, ws_ex, ws_ret, ws_retN, ws_pass, ws_brk, ws_iff, ws_forr, ws_raise, wss_nil, wss_cons, wtru_eq, wp_ok, wp_exc, wp_oth_some, wea_k, wea_g, wea_tup, wea_lst, wea_bin, wea_neg, wea_not, wea_cmp, wea_chain, wea_and, wea_or, wea_ite, wea_idx, wea_sl, wea_call, wea_prim, wea_meth, wea_isi, wea_comp, slotD_z, slotD_s, slotA_z, slotA_s, newTup0, newTup1, newTup2, newTup3, newTup4, tr_non, tr_bl, tr_int, tr_tup, len_tup, atI0, atI1, idx_tup, it_tup, un_tup, int_of, lt_int, le_int, gt_int, ge_int, cmp_eq, cmp_ne, cmp_is, cmp_isnot, eqD_int, eqD_bl, lt_tup, List.set_cons_succ, List.set_cons_zero, startD, List.map_cons, List.map_nil, List.length_cons, List.length_nil, Nat.zero_add, Nat.reduceAdd, Nat.reduceSub, Nat.sub_self, List.replicate_succ, List.replicate_zero, List.cons_append, List.nil_append, Option.map_some, Kst.d, if_true, if_false, Bool.false_eq_true, wp_add_int, wp_sub_int, isiA, calA, Bool.not_false, Bool.not_true, shape, optI] using h
end
end K01

set_option Elab.async false
set_option linter.all false
set_option maxRecDepth 100000
/-! law k01: _law_good; nestings recognized. -/
namespace K01
open PF
def foldN (f : D → Option Int) (stands : Int) : Int → List D → Option Int
  | tot, [] => some tot
  | tot, .tup [s, inner] :: r => if whole s 0 (stands - 1) then (match f inner with
    | some k => foldN f stands (tot + 1 + k) r
    | none => none) else none
  | _, _ :: _ => none
def nb (stands : Int) : Nat → D → Option Int
  | 0, .tup [] => some 0
  | 0, _ => none
  | deep + 1, .tup ds => foldN (nb stands deep) stands 0 ds
  | _ + 1, _ => none
section
variable {W n k : Nat} {Q : D → Store → Prop} {E : Xn → Store → Prop} {st : Store}
theorem w_good_neg {stands : Int} {v : D} (hv : Dat k st v) (h : Q .non st) : wp (callN prog W (n + 1) (.d (.fn 27)) [.d (.int stands), .d v, .d (.int (-1))] st) Q E := by
  rw [wp_fn (d := ⟨3, 6, c__law_good⟩) rfl rfl]
  simp -implicitDefEqProofs only [c__law_good, wpS_sbnd, we_k, we_g, we_gf, we_v, wea_v, we_tup, we_lst, we_bin, we_neg, we_not, we_cmp, we_chain, we_and, we_or, we_ite, we_idx, we_sl, wt_no, wt_v, wt_k, wt_bin, wt_neg, wt_idx, we_callG, we_prim, we_meth, we_isi, we_comp, wea_gf, wea_lam0, wea_lam1, we_lam0, we_hcall, wa_nil, wa_cons, waa_nil, waa_cons, wg_tn, wg_tt, wg_tsub, wgs_nil, wgs_cons, gsNil_nil, wi_iv, wi_ir1, wi_ir2, wi_ien, wi_izip, wi_izl, ws_asg, ws_par, ws_ex, ws_ret, ws_retN, ws_pass, ws_brk, ws_iff, ws_forr, ws_raise, wss_nil, wss_cons, wtru_eq, wp_ok, wp_exc, wp_oth_some, wea_k, wea_g, wea_tup, wea_lst, wea_bin, wea_neg, wea_not, wea_cmp, wea_chain, wea_and, wea_or, wea_ite, wea_idx, wea_sl, wea_call, wea_prim, wea_meth, wea_isi, wea_comp, slotD_z, slotD_s, slotA_z, slotA_s, newTup0, newTup1, newTup2, newTup3, newTup4, tr_non, tr_bl, tr_int, tr_tup, len_tup, atI0, atI1, idx_tup, it_tup, un_tup, int_of, lt_int, le_int, gt_int, ge_int, cmp_eq, cmp_ne, cmp_is, cmp_isnot, eqD_int, eqD_bl, lt_tup, List.set_cons_succ, List.set_cons_zero, startD, List.map_cons, List.map_nil, List.length_cons, List.length_nil, Nat.zero_add, Nat.reduceAdd, Nat.reduceSub, Nat.sub_self, List.replicate_succ, List.replicate_zero, List.cons_append, List.nil_append, Option.map_some, Kst.d, if_true, if_false, Bool.false_eq_true, wp_add_int, wp_sub_int, isiA, calA]
  cases v with
  | tup ds => simpa -implicitDefEqProofs only [isiD, wpS_sbnd, we_k, we_g, we_gf, we_v, wea_v, we_tup, we_lst, we_bin, we_neg, we_not, we_cmp, we_chain, we_and, we_or, we_ite, we_idx, we_sl, wt_no, wt_v, wt_k, wt_bin, wt_neg, wt_idx, we_callG, we_prim, we_meth, we_isi, we_comp, wea_gf, wea_lam0, wea_lam1, we_lam0, we_hcall, wa_nil, wa_cons, waa_nil, waa_cons, wg_tn, wg_tt, wg_tsub, wgs_nil, wgs_cons, gsNil_nil, wi_iv, wi_ir1, wi_ir2, wi_ien, wi_izip, wi_izl, ws_asg, ws_par, ws_ex, ws_ret, ws_retN, ws_pass, ws_brk, ws_iff, ws_forr, ws_raise, wss_nil, wss_cons, wtru_eq, wp_ok, wp_exc, wp_oth_some, wea_k, wea_g, wea_tup, wea_lst, wea_bin, wea_neg, wea_not, wea_cmp, wea_chain, wea_and, wea_or, wea_ite, wea_idx, wea_sl, wea_call, wea_prim, wea_meth, wea_isi, wea_comp, slotD_z, slotD_s, slotA_z, slotA_s, newTup0, newTup1, newTup2, newTup3, newTup4, tr_non, tr_bl, tr_int, tr_tup, len_tup, atI0, atI1, idx_tup, it_tup, un_tup, int_of, lt_int, le_int, gt_int, ge_int, cmp_eq, cmp_ne, cmp_is, cmp_isnot, eqD_int, eqD_bl, lt_tup, List.set_cons_succ, List.set_cons_zero, startD, List.map_cons, List.map_nil, List.length_cons, List.length_nil, Nat.zero_add, Nat.reduceAdd, Nat.reduceSub, Nat.sub_self, List.replicate_succ, List.replicate_zero, List.cons_append, List.nil_append, Option.map_some, Kst.d, if_true, if_false, Bool.false_eq_true, wp_add_int, wp_sub_int, isiA, calA, Bool.not_true, Bool.not_false, show decide ((-1 : Int) < 0) = true from rfl] using h
  | rol => cases hv
  | fn => cases hv
  | lam => cases hv
  | _ => simpa -implicitDefEqProofs only [isiD, wpS_sbnd, we_k, we_g, we_gf, we_v, wea_v, we_tup, we_lst, we_bin, we_neg, we_not, we_cmp, we_chain, we_and, we_or, we_ite, we_idx, we_sl, wt_no, wt_v, wt_k, wt_bin, wt_neg, wt_idx, we_callG, we_prim, we_meth, we_isi, we_comp, wea_gf, wea_lam0, wea_lam1, we_lam0, we_hcall, wa_nil, wa_cons, waa_nil, waa_cons, wg_tn, wg_tt, wg_tsub, wgs_nil, wgs_cons, gsNil_nil, wi_iv, wi_ir1, wi_ir2, wi_ien, wi_izip, wi_izl, ws_asg, ws_par, ws_ex, ws_ret, ws_retN, ws_pass, ws_brk, ws_iff, ws_forr, ws_raise, wss_nil, wss_cons, wtru_eq, wp_ok, wp_exc, wp_oth_some, wea_k, wea_g, wea_tup, wea_lst, wea_bin, wea_neg, wea_not, wea_cmp, wea_chain, wea_and, wea_or, wea_ite, wea_idx, wea_sl, wea_call, wea_prim, wea_meth, wea_isi, wea_comp, slotD_z, slotD_s, slotA_z, slotA_s, newTup0, newTup1, newTup2, newTup3, newTup4, tr_non, tr_bl, tr_int, tr_tup, len_tup, atI0, atI1, idx_tup, it_tup, un_tup, int_of, lt_int, le_int, gt_int, ge_int, cmp_eq, cmp_ne, cmp_is, cmp_isnot, eqD_int, eqD_bl, lt_tup, List.set_cons_succ, List.set_cons_zero, startD, List.map_cons, List.map_nil, List.length_cons, List.length_nil, Nat.zero_add, Nat.reduceAdd, Nat.reduceSub, Nat.sub_self, List.replicate_succ, List.replicate_zero, List.cons_append, List.nil_append, Option.map_some, Kst.d, if_true, if_false, Bool.false_eq_true, wp_add_int, wp_sub_int, isiA, calA, Bool.not_true, Bool.not_false] using h
theorem nil_of {deep : Nat} {stands : Int} {v : D} {c : Int} (h : nb stands 0 v = some c) : isNilD v = true := by
  cases v with
  | tup ds => cases ds with
    | nil => rfl
    | cons d ds => cases h
  | _ => cases h
theorem w_good {m : Nat} {stands : Int} (hW : m < W) : ∀ (deep n : Nat) (v : D) (Q : D → Store → Prop), deep + 3 ≤ n → Val k m st v → Q (optI (nb stands deep v)) st →
    wp (callN prog W n (.d (.fn 27)) [.d (.int stands), .d v, .d (.int deep)] st) Q E := by
  intro deep
  induction deep with
  | zero =>
    intro n v Q hn hv h
    obtain ⟨n, rfl⟩ : ∃ m, n = m + 1 := ⟨n - 1, by omega⟩
    obtain ⟨n', rfl⟩ : ∃ m, n = m + 1 := ⟨n - 1, by omega⟩
    rw [wp_fn (d := ⟨3, 6, c__law_good⟩) rfl rfl]
    simp -implicitDefEqProofs only [c__law_good, wpS_sbnd, we_k, we_g, we_gf, we_v, wea_v, we_tup, we_lst, we_bin, we_neg, we_not, we_cmp, we_chain, we_and, we_or, we_ite, we_idx, we_sl, wt_no, wt_v, wt_k, wt_bin, wt_neg, wt_idx, we_callG, we_prim, we_meth, we_isi, we_comp, wea_gf, wea_lam0, wea_lam1, we_lam0, we_hcall, wa_nil, wa_cons, waa_nil, waa_cons, wg_tn, wg_tt, wg_tsub, wgs_nil, wgs_cons, gsNil_nil, wi_iv, wi_ir1, wi_ir2, wi_ien, wi_izip, wi_izl, ws_asg, ws_par, ws_ex, ws_ret, ws_retN, ws_pass, ws_brk, ws_iff, ws_forr, ws_raise, wss_nil, wss_cons, wtru_eq, wp_ok, wp_exc, wp_oth_some, wea_k, wea_g, wea_tup, wea_lst, wea_bin, wea_neg, wea_not, wea_cmp, wea_chain, wea_and, wea_or, wea_ite, wea_idx, wea_sl, wea_call, wea_prim, wea_meth, wea_isi, wea_comp, slotD_z, slotD_s, slotA_z, slotA_s, newTup0, newTup1, newTup2, newTup3, newTup4, tr_non, tr_bl, tr_int, tr_tup, len_tup, atI0, atI1, idx_tup, it_tup, un_tup, int_of, lt_int, le_int, gt_int, ge_int, cmp_eq, cmp_ne, cmp_is, cmp_isnot, eqD_int, eqD_bl, lt_tup, List.set_cons_succ, List.set_cons_zero, startD, List.map_cons, List.map_nil, List.length_cons, List.length_nil, Nat.zero_add, Nat.reduceAdd, Nat.reduceSub, Nat.sub_self, List.replicate_succ, List.replicate_zero, List.cons_append, List.nil_append, Option.map_some, Kst.d, if_true, if_false, Bool.false_eq_true, wp_add_int, wp_sub_int, isiA, calA]
    cases v with
    | tup ds =>
      simp -implicitDefEqProofs only [isiD, wpS_sbnd, we_k, we_g, we_gf, we_v, wea_v, we_tup, we_lst, we_bin, we_neg, we_not, we_cmp, we_chain, we_and, we_or, we_ite, we_idx, we_sl, wt_no, wt_v, wt_k, wt_bin, wt_neg, wt_idx, we_callG, we_prim, we_meth, we_isi, we_comp, wea_gf, wea_lam0, wea_lam1, we_lam0, we_hcall, wa_nil, wa_cons, waa_nil, waa_cons, wg_tn, wg_tt, wg_tsub, wgs_nil, wgs_cons, gsNil_nil, wi_iv, wi_ir1, wi_ir2, wi_ien, wi_izip, wi_izl, ws_asg, ws_par, ws_ex, ws_ret, ws_retN, ws_pass, ws_brk, ws_iff, ws_forr, ws_raise, wss_nil, wss_cons, wtru_eq, wp_ok, wp_exc, wp_oth_some, wea_k, wea_g, wea_tup, wea_lst, wea_bin, wea_neg, wea_not, wea_cmp, wea_chain, wea_and, wea_or, wea_ite, wea_idx, wea_sl, wea_call, wea_prim, wea_meth, wea_isi, wea_comp, slotD_z, slotD_s, slotA_z, slotA_s, newTup0, newTup1, newTup2, newTup3, newTup4, tr_non, tr_bl, tr_int, tr_tup, len_tup, atI0, atI1, idx_tup, it_tup, un_tup, int_of, lt_int, le_int, gt_int, ge_int, cmp_eq, cmp_ne, cmp_is, cmp_isnot, eqD_int, eqD_bl, lt_tup, List.set_cons_succ, List.set_cons_zero, startD, List.map_cons, List.map_nil, List.length_cons, List.length_nil, Nat.zero_add, Nat.reduceAdd, Nat.reduceSub, Nat.sub_self, List.replicate_succ, List.replicate_zero, List.cons_append, List.nil_append, Option.map_some, Kst.d, if_true, if_false, Bool.false_eq_true, wp_add_int, wp_sub_int, isiA, calA, Bool.not_false, Bool.not_true, Int.natCast_zero, show decide ((0 : Int) < 0) = false from rfl]
      refine loop_tup (fun r ρ st' => r = ds ∧ ρ = [some (.d (.int stands)), some (.d (.tup ds)), some (.d (.int 0)), some (.d (.int 0)), none, none] ∧ st' = st) (Nat.lt_of_le_of_lt (val_tup.mp hv).1 hW) ⟨rfl, rfl, rfl⟩ (fun d r ρ st' ⟨e, e1, e2⟩ => ?_) fun ρ st' ⟨e, e1, e2⟩ => ?_
      · subst e e1 e2
        have hd := (val_tup.mp hv).2 d List.mem_cons_self
        have h0 : Q .non st' := h
        simp -implicitDefEqProofs only [wpS_sbnd, we_k, we_g, we_gf, we_v, wea_v, we_tup, we_lst, we_bin, we_neg, we_not, we_cmp, we_chain, we_and, we_or, we_ite, we_idx, we_sl, wt_no, wt_v, wt_k, wt_bin, wt_neg, wt_idx, we_callG, we_prim, we_meth, we_isi, we_comp, wea_gf, wea_lam0, wea_lam1, we_lam0, we_hcall, wa_nil, wa_cons, waa_nil, waa_cons, wg_tn, wg_tt, wg_tsub, wgs_nil, wgs_cons, gsNil_nil, wi_iv, wi_ir1, wi_ir2, wi_ien, wi_izip, wi_izl, ws_asg, ws_par, ws_ex, ws_ret, ws_retN, ws_pass, ws_brk, ws_iff, ws_forr, ws_raise, wss_nil, wss_cons, wtru_eq, wp_ok, wp_exc, wp_oth_some, wea_k, wea_g, wea_tup, wea_lst, wea_bin, wea_neg, wea_not, wea_cmp, wea_chain, wea_and, wea_or, wea_ite, wea_idx, wea_sl, wea_call, wea_prim, wea_meth, wea_isi, wea_comp, slotD_z, slotD_s, slotA_z, slotA_s, newTup0, newTup1, newTup2, newTup3, newTup4, tr_non, tr_bl, tr_int, tr_tup, len_tup, atI0, atI1, idx_tup, it_tup, un_tup, int_of, lt_int, le_int, gt_int, ge_int, cmp_eq, cmp_ne, cmp_is, cmp_isnot, eqD_int, eqD_bl, lt_tup, List.set_cons_succ, List.set_cons_zero, startD, List.map_cons, List.map_nil, List.length_cons, List.length_nil, Nat.zero_add, Nat.reduceAdd, Nat.reduceSub, Nat.sub_self, List.replicate_succ, List.replicate_zero, List.cons_append, List.nil_append, Option.map_some, Kst.d, if_true, if_false, Bool.false_eq_true, wp_add_int, wp_sub_int, isiA, calA]
        cases d with
        | tup bs =>
          simp -implicitDefEqProofs only [isiD, wpS_sbnd, we_k, we_g, we_gf, we_v, wea_v, we_tup, we_lst, we_bin, we_neg, we_not, we_cmp, we_chain, we_and, we_or, we_ite, we_idx, we_sl, wt_no, wt_v, wt_k, wt_bin, wt_neg, wt_idx, we_callG, we_prim, we_meth, we_isi, we_comp, wea_gf, wea_lam0, wea_lam1, we_lam0, we_hcall, wa_nil, wa_cons, waa_nil, waa_cons, wg_tn, wg_tt, wg_tsub, wgs_nil, wgs_cons, gsNil_nil, wi_iv, wi_ir1, wi_ir2, wi_ien, wi_izip, wi_izl, ws_asg, ws_par, ws_ex, ws_ret, ws_retN, ws_pass, ws_brk, ws_iff, ws_forr, ws_raise, wss_nil, wss_cons, wtru_eq, wp_ok, wp_exc, wp_oth_some, wea_k, wea_g, wea_tup, wea_lst, wea_bin, wea_neg, wea_not, wea_cmp, wea_chain, wea_and, wea_or, wea_ite, wea_idx, wea_sl, wea_call, wea_prim, wea_meth, wea_isi, wea_comp, slotD_z, slotD_s, slotA_z, slotA_s, newTup0, newTup1, newTup2, newTup3, newTup4, tr_non, tr_bl, tr_int, tr_tup, len_tup, atI0, atI1, idx_tup, it_tup, un_tup, int_of, lt_int, le_int, gt_int, ge_int, cmp_eq, cmp_ne, cmp_is, cmp_isnot, eqD_int, eqD_bl, lt_tup, List.set_cons_succ, List.set_cons_zero, startD, List.map_cons, List.map_nil, List.length_cons, List.length_nil, Nat.zero_add, Nat.reduceAdd, Nat.reduceSub, Nat.sub_self, List.replicate_succ, List.replicate_zero, List.cons_append, List.nil_append, Option.map_some, Kst.d, if_true, if_false, Bool.false_eq_true, wp_add_int, wp_sub_int, isiA, calA, Bool.not_false, Bool.not_true]
          by_cases hl : bs.length = 2
          · match bs, hl with
            | [s, inner], _ =>
              have hs := (val_tup.mp hd).2 s (by simp)
              have hi := (val_tup.mp hd).2 inner (by simp)
              have l2 : (((2 : Nat) : Int) == 2) = true := by decide
              simp -implicitDefEqProofs only [List.length_cons, List.length_nil, Nat.zero_add, Nat.reduceAdd, l2, Bool.not_true, Bool.false_eq_true, if_false, wpS_sbnd, we_k, we_g, we_gf, we_v, wea_v, we_tup, we_lst, we_bin, we_neg, we_not, we_cmp, we_chain, we_and, we_or, we_ite, we_idx, we_sl, wt_no, wt_v, wt_k, wt_bin, wt_neg, wt_idx, we_callG, we_prim, we_meth, we_isi, we_comp, wea_gf, wea_lam0, wea_lam1, we_lam0, we_hcall, wa_nil, wa_cons, waa_nil, waa_cons, wg_tn, wg_tt, wg_tsub, wgs_nil, wgs_cons, gsNil_nil, wi_iv, wi_ir1, wi_ir2, wi_ien, wi_izip, wi_izl, ws_asg, ws_par, ws_ex, ws_ret, ws_retN, ws_pass, ws_brk, ws_iff, ws_forr, ws_raise, wss_nil, wss_cons, wtru_eq, wp_ok, wp_exc, wp_oth_some, wea_k, wea_g, wea_tup, wea_lst, wea_bin, wea_neg, wea_not, wea_cmp, wea_chain, wea_and, wea_or, wea_ite, wea_idx, wea_sl, wea_call, wea_prim, wea_meth, wea_isi, wea_comp, slotD_z, slotD_s, slotA_z, slotA_s, newTup0, newTup1, newTup2, newTup3, newTup4, tr_non, tr_bl, tr_int, tr_tup, len_tup, atI0, atI1, idx_tup, it_tup, un_tup, int_of, lt_int, le_int, gt_int, ge_int, cmp_eq, cmp_ne, cmp_is, cmp_isnot, eqD_int, eqD_bl, lt_tup, List.set_cons_succ, List.set_cons_zero, startD, List.map_cons, List.map_nil, List.length_cons, List.length_nil, Nat.zero_add, Nat.reduceAdd, Nat.reduceSub, Nat.sub_self, List.replicate_succ, List.replicate_zero, List.cons_append, List.nil_append, Option.map_some, Kst.d, if_true, if_false, Bool.false_eq_true, wp_add_int, wp_sub_int, isiA, calA]
              refine w_from hs.1 ?_
              simp -implicitDefEqProofs only [wpS_sbnd, we_k, we_g, we_gf, we_v, wea_v, we_tup, we_lst, we_bin, we_neg, we_not, we_cmp, we_chain, we_and, we_or, we_ite, we_idx, we_sl, wt_no, wt_v, wt_k, wt_bin, wt_neg, wt_idx, we_callG, we_prim, we_meth, we_isi, we_comp, wea_gf, wea_lam0, wea_lam1, we_lam0, we_hcall, wa_nil, wa_cons, waa_nil, waa_cons, wg_tn, wg_tt, wg_tsub, wgs_nil, wgs_cons, gsNil_nil, wi_iv, wi_ir1, wi_ir2, wi_ien, wi_izip, wi_izl, ws_asg, ws_par, ws_ex, ws_ret, ws_retN, ws_pass, ws_brk, ws_iff, ws_forr, ws_raise, wss_nil, wss_cons, wtru_eq, wp_ok, wp_exc, wp_oth_some, wea_k, wea_g, wea_tup, wea_lst, wea_bin, wea_neg, wea_not, wea_cmp, wea_chain, wea_and, wea_or, wea_ite, wea_idx, wea_sl, wea_call, wea_prim, wea_meth, wea_isi, wea_comp, slotD_z, slotD_s, slotA_z, slotA_s, newTup0, newTup1, newTup2, newTup3, newTup4, tr_non, tr_bl, tr_int, tr_tup, len_tup, atI0, atI1, idx_tup, it_tup, un_tup, int_of, lt_int, le_int, gt_int, ge_int, cmp_eq, cmp_ne, cmp_is, cmp_isnot, eqD_int, eqD_bl, lt_tup, List.set_cons_succ, List.set_cons_zero, startD, List.map_cons, List.map_nil, List.length_cons, List.length_nil, Nat.zero_add, Nat.reduceAdd, Nat.reduceSub, Nat.sub_self, List.replicate_succ, List.replicate_zero, List.cons_append, List.nil_append, Option.map_some, Kst.d, if_true, if_false, Bool.false_eq_true, wp_add_int, wp_sub_int, isiA, calA]
              cases hw : whole s 0 (stands - 1) with
              | false => simpa only [Bool.not_false, if_true] using h0
              | true =>
                simp -implicitDefEqProofs only [Bool.not_true, Bool.false_eq_true, if_false, wpS_sbnd, we_k, we_g, we_gf, we_v, wea_v, we_tup, we_lst, we_bin, we_neg, we_not, we_cmp, we_chain, we_and, we_or, we_ite, we_idx, we_sl, wt_no, wt_v, wt_k, wt_bin, wt_neg, wt_idx, we_callG, we_prim, we_meth, we_isi, we_comp, wea_gf, wea_lam0, wea_lam1, we_lam0, we_hcall, wa_nil, wa_cons, waa_nil, waa_cons, wg_tn, wg_tt, wg_tsub, wgs_nil, wgs_cons, gsNil_nil, wi_iv, wi_ir1, wi_ir2, wi_ien, wi_izip, wi_izl, ws_asg, ws_par, ws_ex, ws_ret, ws_retN, ws_pass, ws_brk, ws_iff, ws_forr, ws_raise, wss_nil, wss_cons, wtru_eq, wp_ok, wp_exc, wp_oth_some, wea_k, wea_g, wea_tup, wea_lst, wea_bin, wea_neg, wea_not, wea_cmp, wea_chain, wea_and, wea_or, wea_ite, wea_idx, wea_sl, wea_call, wea_prim, wea_meth, wea_isi, wea_comp, slotD_z, slotD_s, slotA_z, slotA_s, newTup0, newTup1, newTup2, newTup3, newTup4, tr_non, tr_bl, tr_int, tr_tup, len_tup, atI0, atI1, idx_tup, it_tup, un_tup, int_of, lt_int, le_int, gt_int, ge_int, cmp_eq, cmp_ne, cmp_is, cmp_isnot, eqD_int, eqD_bl, lt_tup, List.set_cons_succ, List.set_cons_zero, startD, List.map_cons, List.map_nil, List.length_cons, List.length_nil, Nat.zero_add, Nat.reduceAdd, Nat.reduceSub, Nat.sub_self, List.replicate_succ, List.replicate_zero, List.cons_append, List.nil_append, Option.map_some, Kst.d, if_true, if_false, Bool.false_eq_true, wp_add_int, wp_sub_int, isiA, calA, show (0 : Int) - 1 = -1 from rfl]
                refine w_good_neg hi.1 ?_
                simpa -implicitDefEqProofs only [isD, wpS_sbnd, we_k, we_g, we_gf, we_v, wea_v, we_tup, we_lst, we_bin, we_neg, we_not, we_cmp, we_chain, we_and, we_or, we_ite, we_idx, we_sl, wt_no, wt_v, wt_k, wt_bin, wt_neg, wt_idx, we_callG, we_prim, we_meth, we_isi, we_comp, wea_gf, wea_lam0, wea_lam1, we_lam0, we_hcall, wa_nil, wa_cons, waa_nil, waa_cons, wg_tn, wg_tt, wg_tsub, wgs_nil, wgs_cons, gsNil_nil, wi_iv, wi_ir1, wi_ir2, wi_ien, wi_izip, wi_izl, ws_asg, ws_par, ws_ex, ws_ret, ws_retN, ws_pass, ws_brk, ws_iff, ws_forr, ws_raise, wss_nil, wss_cons, wtru_eq, wp_ok, wp_exc, wp_oth_some, wea_k, wea_g, wea_tup, wea_lst, wea_bin, wea_neg, wea_not, wea_cmp, wea_chain, wea_and, wea_or, wea_ite, wea_idx, wea_sl, wea_call, wea_prim, wea_meth, wea_isi, wea_comp, slotD_z, slotD_s, slotA_z, slotA_s, newTup0, newTup1, newTup2, newTup3, newTup4, tr_non, tr_bl, tr_int, tr_tup, len_tup, atI0, atI1, idx_tup, it_tup, un_tup, int_of, lt_int, le_int, gt_int, ge_int, cmp_eq, cmp_ne, cmp_is, cmp_isnot, eqD_int, eqD_bl, lt_tup, List.set_cons_succ, List.set_cons_zero, startD, List.map_cons, List.map_nil, List.length_cons, List.length_nil, Nat.zero_add, Nat.reduceAdd, Nat.reduceSub, Nat.sub_self, List.replicate_succ, List.replicate_zero, List.cons_append, List.nil_append, Option.map_some, Kst.d, if_true, if_false, Bool.false_eq_true, wp_add_int, wp_sub_int, isiA, calA] using h0
          · have l2 : ((bs.length : Int) == 2) = false := by
              rw [beq_eq_false_iff_ne]
              omega
            simpa only [l2, Bool.not_false, if_true] using h0
        | rol => cases hd.1
        | fn => cases hd.1
        | lam => cases hd.1
        | _ => simpa -implicitDefEqProofs only [isiD, wpS_sbnd, we_k, we_g, we_gf, we_v, wea_v, we_tup, we_lst, we_bin, we_neg, we_not, we_cmp, we_chain, we_and, we_or, we_ite, we_idx, we_sl, wt_no, wt_v, wt_k, wt_bin, wt_neg, wt_idx, we_callG, we_prim, we_meth, we_isi, we_comp, wea_gf, wea_lam0, wea_lam1, we_lam0, we_hcall, wa_nil, wa_cons, waa_nil, waa_cons, wg_tn, wg_tt, wg_tsub, wgs_nil, wgs_cons, gsNil_nil, wi_iv, wi_ir1, wi_ir2, wi_ien, wi_izip, wi_izl, ws_asg, ws_par, ws_ex, ws_ret, ws_retN, ws_pass, ws_brk, ws_iff, ws_forr, ws_raise, wss_nil, wss_cons, wtru_eq, wp_ok, wp_exc, wp_oth_some, wea_k, wea_g, wea_tup, wea_lst, wea_bin, wea_neg, wea_not, wea_cmp, wea_chain, wea_and, wea_or, wea_ite, wea_idx, wea_sl, wea_call, wea_prim, wea_meth, wea_isi, wea_comp, slotD_z, slotD_s, slotA_z, slotA_s, newTup0, newTup1, newTup2, newTup3, newTup4, tr_non, tr_bl, tr_int, tr_tup, len_tup, atI0, atI1, idx_tup, it_tup, un_tup, int_of, lt_int, le_int, gt_int, ge_int, cmp_eq, cmp_ne, cmp_is, cmp_isnot, eqD_int, eqD_bl, lt_tup, List.set_cons_succ, List.set_cons_zero, startD, List.map_cons, List.map_nil, List.length_cons, List.length_nil, Nat.zero_add, Nat.reduceAdd, Nat.reduceSub, Nat.sub_self, List.replicate_succ, List.replicate_zero, List.cons_append, List.nil_append, Option.map_some, Kst.d, if_true, if_false, Bool.false_eq_true, wp_add_int, wp_sub_int, isiA, calA, Bool.not_false, Bool.not_true] using h0
      · subst e1 e2
        subst e
        simpa -implicitDefEqProofs only [wpS_sbnd, we_k, we_g, we_gf, we_v, wea_v, we_tup, we_lst, we_bin, we_neg, we_not, we_cmp, we_chain, we_and, we_or, we_ite, we_idx, we_sl, wt_no, wt_v, wt_k, wt_bin, wt_neg, wt_idx, we_callG, we_prim, we_meth, we_isi, we_comp, wea_gf, wea_lam0, wea_lam1, we_lam0, we_hcall, wa_nil, wa_cons, waa_nil, waa_cons, wg_tn, wg_tt, wg_tsub, wgs_nil, wgs_cons, gsNil_nil, wi_iv, wi_ir1, wi_ir2, wi_ien, wi_izip, wi_izl, ws_asg, ws_par, ws_ex, ws_ret, ws_retN, ws_pass, ws_brk, ws_iff, ws_forr, ws_raise, wss_nil, wss_cons, wtru_eq, wp_ok, wp_exc, wp_oth_some, wea_k, wea_g, wea_tup, wea_lst, wea_bin, wea_neg, wea_not, wea_cmp, wea_chain, wea_and, wea_or, wea_ite, wea_idx, wea_sl, wea_call, wea_prim, wea_meth, wea_isi, wea_comp, slotD_z, slotD_s, slotA_z, slotA_s, newTup0, newTup1, newTup2, newTup3, newTup4, tr_non, tr_bl, tr_int, tr_tup, len_tup, atI0, atI1, idx_tup, it_tup, un_tup, int_of, lt_int, le_int, gt_int, ge_int, cmp_eq, cmp_ne, cmp_is, cmp_isnot, eqD_int, eqD_bl, lt_tup, List.set_cons_succ, List.set_cons_zero, startD, List.map_cons, List.map_nil, List.length_cons, List.length_nil, Nat.zero_add, Nat.reduceAdd, Nat.reduceSub, Nat.sub_self, List.replicate_succ, List.replicate_zero, List.cons_append, List.nil_append, Option.map_some, Kst.d, if_true, if_false, Bool.false_eq_true, wp_add_int, wp_sub_int, isiA, calA, nb, optI] using h
    | rol => cases hv.1
    | fn => cases hv.1
    | lam => cases hv.1
    | _ => simpa -implicitDefEqProofs only [isiD, wpS_sbnd, we_k, we_g, we_gf, we_v, wea_v, we_tup, we_lst, we_bin, we_neg, we_not, we_cmp, we_chain, we_and, we_or, we_ite, we_idx, we_sl, wt_no, wt_v, wt_k, wt_bin, wt_neg, wt_idx, we_callG, we_prim, we_meth, we_isi, we_comp, wea_gf, wea_lam0, wea_lam1, we_lam0, we_hcall, wa_nil, wa_cons, waa_nil, waa_cons, wg_tn, wg_tt, wg_tsub, wgs_nil, wgs_cons, gsNil_nil, wi_iv, wi_ir1, wi_ir2, wi_ien, wi_izip, wi_izl, ws_asg, ws_par, ws_ex, ws_ret, ws_retN, ws_pass, ws_brk, ws_iff, ws_forr, ws_raise, wss_nil, wss_cons, wtru_eq, wp_ok, wp_exc, wp_oth_some, wea_k, wea_g, wea_tup, wea_lst, wea_bin, wea_neg, wea_not, wea_cmp, wea_chain, wea_and, wea_or, wea_ite, wea_idx, wea_sl, wea_call, wea_prim, wea_meth, wea_isi, wea_comp, slotD_z, slotD_s, slotA_z, slotA_s, newTup0, newTup1, newTup2, newTup3, newTup4, tr_non, tr_bl, tr_int, tr_tup, len_tup, atI0, atI1, idx_tup, it_tup, un_tup, int_of, lt_int, le_int, gt_int, ge_int, cmp_eq, cmp_ne, cmp_is, cmp_isnot, eqD_int, eqD_bl, lt_tup, List.set_cons_succ, List.set_cons_zero, startD, List.map_cons, List.map_nil, List.length_cons, List.length_nil, Nat.zero_add, Nat.reduceAdd, Nat.reduceSub, Nat.sub_self, List.replicate_succ, List.replicate_zero, List.cons_append, List.nil_append, Option.map_some, Kst.d, if_true, if_false, Bool.false_eq_true, wp_add_int, wp_sub_int, isiA, calA, Bool.not_false, Bool.not_true, nb, optI] using h
  | succ deep ih =>
    intro n v Q hn hv h
    obtain ⟨n, rfl⟩ : ∃ m, n = m + 1 := ⟨n - 1, by omega⟩
    obtain ⟨n', rfl⟩ : ∃ m, n = m + 1 := ⟨n - 1, by omega⟩
    rw [wp_fn (d := ⟨3, 6, c__law_good⟩) rfl rfl]
    simp -implicitDefEqProofs only [c__law_good, wpS_sbnd, we_k, we_g, we_gf, we_v, wea_v, we_tup, we_lst, we_bin, we_neg, we_not, we_cmp, we_chain, we_and, we_or, we_ite, we_idx, we_sl, wt_no, wt_v, wt_k, wt_bin, wt_neg, wt_idx, we_callG, we_prim, we_meth, we_isi, we_comp, wea_gf, wea_lam0, wea_lam1, we_lam0, we_hcall, wa_nil, wa_cons, waa_nil, waa_cons, wg_tn, wg_tt, wg_tsub, wgs_nil, wgs_cons, gsNil_nil, wi_iv, wi_ir1, wi_ir2, wi_ien, wi_izip, wi_izl, ws_asg, ws_par, ws_ex, ws_ret, ws_retN, ws_pass, ws_brk, ws_iff, ws_forr, ws_raise, wss_nil, wss_cons, wtru_eq, wp_ok, wp_exc, wp_oth_some, wea_k, wea_g, wea_tup, wea_lst, wea_bin, wea_neg, wea_not, wea_cmp, wea_chain, wea_and, wea_or, wea_ite, wea_idx, wea_sl, wea_call, wea_prim, wea_meth, wea_isi, wea_comp, slotD_z, slotD_s, slotA_z, slotA_s, newTup0, newTup1, newTup2, newTup3, newTup4, tr_non, tr_bl, tr_int, tr_tup, len_tup, atI0, atI1, idx_tup, it_tup, un_tup, int_of, lt_int, le_int, gt_int, ge_int, cmp_eq, cmp_ne, cmp_is, cmp_isnot, eqD_int, eqD_bl, lt_tup, List.set_cons_succ, List.set_cons_zero, startD, List.map_cons, List.map_nil, List.length_cons, List.length_nil, Nat.zero_add, Nat.reduceAdd, Nat.reduceSub, Nat.sub_self, List.replicate_succ, List.replicate_zero, List.cons_append, List.nil_append, Option.map_some, Kst.d, if_true, if_false, Bool.false_eq_true, wp_add_int, wp_sub_int, isiA, calA]
    cases v with
    | tup ds =>
      have z0 : decide (((deep + 1 : Nat) : Int) < 0) = false := by
        rw [decide_eq_false_iff_not]
        omega
      have z1 : ((deep + 1 : Nat) : Int) - 1 = (deep : Int) := by omega
      simp -implicitDefEqProofs only [isiD, wpS_sbnd, we_k, we_g, we_gf, we_v, wea_v, we_tup, we_lst, we_bin, we_neg, we_not, we_cmp, we_chain, we_and, we_or, we_ite, we_idx, we_sl, wt_no, wt_v, wt_k, wt_bin, wt_neg, wt_idx, we_callG, we_prim, we_meth, we_isi, we_comp, wea_gf, wea_lam0, wea_lam1, we_lam0, we_hcall, wa_nil, wa_cons, waa_nil, waa_cons, wg_tn, wg_tt, wg_tsub, wgs_nil, wgs_cons, gsNil_nil, wi_iv, wi_ir1, wi_ir2, wi_ien, wi_izip, wi_izl, ws_asg, ws_par, ws_ex, ws_ret, ws_retN, ws_pass, ws_brk, ws_iff, ws_forr, ws_raise, wss_nil, wss_cons, wtru_eq, wp_ok, wp_exc, wp_oth_some, wea_k, wea_g, wea_tup, wea_lst, wea_bin, wea_neg, wea_not, wea_cmp, wea_chain, wea_and, wea_or, wea_ite, wea_idx, wea_sl, wea_call, wea_prim, wea_meth, wea_isi, wea_comp, slotD_z, slotD_s, slotA_z, slotA_s, newTup0, newTup1, newTup2, newTup3, newTup4, tr_non, tr_bl, tr_int, tr_tup, len_tup, atI0, atI1, idx_tup, it_tup, un_tup, int_of, lt_int, le_int, gt_int, ge_int, cmp_eq, cmp_ne, cmp_is, cmp_isnot, eqD_int, eqD_bl, lt_tup, List.set_cons_succ, List.set_cons_zero, startD, List.map_cons, List.map_nil, List.length_cons, List.length_nil, Nat.zero_add, Nat.reduceAdd, Nat.reduceSub, Nat.sub_self, List.replicate_succ, List.replicate_zero, List.cons_append, List.nil_append, Option.map_some, Kst.d, if_true, if_false, Bool.false_eq_true, wp_add_int, wp_sub_int, isiA, calA, Bool.not_false, Bool.not_true, z0]
      refine loop_tup (fun r ρ st' => st' = st ∧ (∀ d ∈ r, Val k m st d) ∧ ∃ many b i, ρ = [some (.d (.int stands)), some (.d (.tup ds)), some (.d (.int ((deep + 1 : Nat) : Int))), some (.d (.int many)), b, i] ∧ nb stands (deep + 1) (.tup ds) = foldN (nb stands deep) stands many r)
        (Nat.lt_of_le_of_lt (val_tup.mp hv).1 hW) ⟨rfl, (val_tup.mp hv).2, 0, none, none, rfl, rfl⟩ (fun d r ρ st' ⟨e1, e2, many, b, i, e3, e4⟩ => ?_) (fun ρ st' ⟨e1, _, many, b, i, e3, e4⟩ => ?_)
      · subst e1 e3
        have hd := e2 d List.mem_cons_self
        simp -implicitDefEqProofs only [wpS_sbnd, we_k, we_g, we_gf, we_v, wea_v, we_tup, we_lst, we_bin, we_neg, we_not, we_cmp, we_chain, we_and, we_or, we_ite, we_idx, we_sl, wt_no, wt_v, wt_k, wt_bin, wt_neg, wt_idx, we_callG, we_prim, we_meth, we_isi, we_comp, wea_gf, wea_lam0, wea_lam1, we_lam0, we_hcall, wa_nil, wa_cons, waa_nil, waa_cons, wg_tn, wg_tt, wg_tsub, wgs_nil, wgs_cons, gsNil_nil, wi_iv, wi_ir1, wi_ir2, wi_ien, wi_izip, wi_izl, ws_asg, ws_par, ws_ex, ws_ret, ws_retN, ws_pass, ws_brk, ws_iff, ws_forr, ws_raise, wss_nil, wss_cons, wtru_eq, wp_ok, wp_exc, wp_oth_some, wea_k, wea_g, wea_tup, wea_lst, wea_bin, wea_neg, wea_not, wea_cmp, wea_chain, wea_and, wea_or, wea_ite, wea_idx, wea_sl, wea_call, wea_prim, wea_meth, wea_isi, wea_comp, slotD_z, slotD_s, slotA_z, slotA_s, newTup0, newTup1, newTup2, newTup3, newTup4, tr_non, tr_bl, tr_int, tr_tup, len_tup, atI0, atI1, idx_tup, it_tup, un_tup, int_of, lt_int, le_int, gt_int, ge_int, cmp_eq, cmp_ne, cmp_is, cmp_isnot, eqD_int, eqD_bl, lt_tup, List.set_cons_succ, List.set_cons_zero, startD, List.map_cons, List.map_nil, List.length_cons, List.length_nil, Nat.zero_add, Nat.reduceAdd, Nat.reduceSub, Nat.sub_self, List.replicate_succ, List.replicate_zero, List.cons_append, List.nil_append, Option.map_some, Kst.d, if_true, if_false, Bool.false_eq_true, wp_add_int, wp_sub_int, isiA, calA]
        cases d with
        | tup bs =>
          simp -implicitDefEqProofs only [isiD, wpS_sbnd, we_k, we_g, we_gf, we_v, wea_v, we_tup, we_lst, we_bin, we_neg, we_not, we_cmp, we_chain, we_and, we_or, we_ite, we_idx, we_sl, wt_no, wt_v, wt_k, wt_bin, wt_neg, wt_idx, we_callG, we_prim, we_meth, we_isi, we_comp, wea_gf, wea_lam0, wea_lam1, we_lam0, we_hcall, wa_nil, wa_cons, waa_nil, waa_cons, wg_tn, wg_tt, wg_tsub, wgs_nil, wgs_cons, gsNil_nil, wi_iv, wi_ir1, wi_ir2, wi_ien, wi_izip, wi_izl, ws_asg, ws_par, ws_ex, ws_ret, ws_retN, ws_pass, ws_brk, ws_iff, ws_forr, ws_raise, wss_nil, wss_cons, wtru_eq, wp_ok, wp_exc, wp_oth_some, wea_k, wea_g, wea_tup, wea_lst, wea_bin, wea_neg, wea_not, wea_cmp, wea_chain, wea_and, wea_or, wea_ite, wea_idx, wea_sl, wea_call, wea_prim, wea_meth, wea_isi, wea_comp, slotD_z, slotD_s, slotA_z, slotA_s, newTup0, newTup1, newTup2, newTup3, newTup4, tr_non, tr_bl, tr_int, tr_tup, len_tup, atI0, atI1, idx_tup, it_tup, un_tup, int_of, lt_int, le_int, gt_int, ge_int, cmp_eq, cmp_ne, cmp_is, cmp_isnot, eqD_int, eqD_bl, lt_tup, List.set_cons_succ, List.set_cons_zero, startD, List.map_cons, List.map_nil, List.length_cons, List.length_nil, Nat.zero_add, Nat.reduceAdd, Nat.reduceSub, Nat.sub_self, List.replicate_succ, List.replicate_zero, List.cons_append, List.nil_append, Option.map_some, Kst.d, if_true, if_false, Bool.false_eq_true, wp_add_int, wp_sub_int, isiA, calA, Bool.not_false, Bool.not_true]
          by_cases hl : bs.length = 2
          · match bs, hl with
            | [s, inner], _ =>
              have hs := (val_tup.mp hd).2 s (by simp)
              have hi := (val_tup.mp hd).2 inner (by simp)
              have l2 : (((2 : Nat) : Int) == 2) = true := by decide
              simp -implicitDefEqProofs only [List.length_cons, List.length_nil, Nat.zero_add, Nat.reduceAdd, l2, Bool.not_true, Bool.false_eq_true, if_false, wpS_sbnd, we_k, we_g, we_gf, we_v, wea_v, we_tup, we_lst, we_bin, we_neg, we_not, we_cmp, we_chain, we_and, we_or, we_ite, we_idx, we_sl, wt_no, wt_v, wt_k, wt_bin, wt_neg, wt_idx, we_callG, we_prim, we_meth, we_isi, we_comp, wea_gf, wea_lam0, wea_lam1, we_lam0, we_hcall, wa_nil, wa_cons, waa_nil, waa_cons, wg_tn, wg_tt, wg_tsub, wgs_nil, wgs_cons, gsNil_nil, wi_iv, wi_ir1, wi_ir2, wi_ien, wi_izip, wi_izl, ws_asg, ws_par, ws_ex, ws_ret, ws_retN, ws_pass, ws_brk, ws_iff, ws_forr, ws_raise, wss_nil, wss_cons, wtru_eq, wp_ok, wp_exc, wp_oth_some, wea_k, wea_g, wea_tup, wea_lst, wea_bin, wea_neg, wea_not, wea_cmp, wea_chain, wea_and, wea_or, wea_ite, wea_idx, wea_sl, wea_call, wea_prim, wea_meth, wea_isi, wea_comp, slotD_z, slotD_s, slotA_z, slotA_s, newTup0, newTup1, newTup2, newTup3, newTup4, tr_non, tr_bl, tr_int, tr_tup, len_tup, atI0, atI1, idx_tup, it_tup, un_tup, int_of, lt_int, le_int, gt_int, ge_int, cmp_eq, cmp_ne, cmp_is, cmp_isnot, eqD_int, eqD_bl, lt_tup, List.set_cons_succ, List.set_cons_zero, startD, List.map_cons, List.map_nil, List.length_cons, List.length_nil, Nat.zero_add, Nat.reduceAdd, Nat.reduceSub, Nat.sub_self, List.replicate_succ, List.replicate_zero, List.cons_append, List.nil_append, Option.map_some, Kst.d, if_true, if_false, Bool.false_eq_true, wp_add_int, wp_sub_int, isiA, calA]
              refine w_from hs.1 ?_
              simp -implicitDefEqProofs only [wpS_sbnd, we_k, we_g, we_gf, we_v, wea_v, we_tup, we_lst, we_bin, we_neg, we_not, we_cmp, we_chain, we_and, we_or, we_ite, we_idx, we_sl, wt_no, wt_v, wt_k, wt_bin, wt_neg, wt_idx, we_callG, we_prim, we_meth, we_isi, we_comp, wea_gf, wea_lam0, wea_lam1, we_lam0, we_hcall, wa_nil, wa_cons, waa_nil, waa_cons, wg_tn, wg_tt, wg_tsub, wgs_nil, wgs_cons, gsNil_nil, wi_iv, wi_ir1, wi_ir2, wi_ien, wi_izip, wi_izl, ws_asg, ws_par, ws_ex, ws_ret, ws_retN, ws_pass, ws_brk, ws_iff, ws_forr, ws_raise, wss_nil, wss_cons, wtru_eq, wp_ok, wp_exc, wp_oth_some, wea_k, wea_g, wea_tup, wea_lst, wea_bin, wea_neg, wea_not, wea_cmp, wea_chain, wea_and, wea_or, wea_ite, wea_idx, wea_sl, wea_call, wea_prim, wea_meth, wea_isi, wea_comp, slotD_z, slotD_s, slotA_z, slotA_s, newTup0, newTup1, newTup2, newTup3, newTup4, tr_non, tr_bl, tr_int, tr_tup, len_tup, atI0, atI1, idx_tup, it_tup, un_tup, int_of, lt_int, le_int, gt_int, ge_int, cmp_eq, cmp_ne, cmp_is, cmp_isnot, eqD_int, eqD_bl, lt_tup, List.set_cons_succ, List.set_cons_zero, startD, List.map_cons, List.map_nil, List.length_cons, List.length_nil, Nat.zero_add, Nat.reduceAdd, Nat.reduceSub, Nat.sub_self, List.replicate_succ, List.replicate_zero, List.cons_append, List.nil_append, Option.map_some, Kst.d, if_true, if_false, Bool.false_eq_true, wp_add_int, wp_sub_int, isiA, calA]
              cases hw : whole s 0 (stands - 1) with
              | false =>
                simp only [Bool.not_false, if_true]
                rw [e4] at h
                simpa only [foldN, hw, Bool.false_eq_true, if_false, optI] using h
              | true =>
                simp -implicitDefEqProofs only [Bool.not_true, Bool.false_eq_true, if_false, wpS_sbnd, we_k, we_g, we_gf, we_v, wea_v, we_tup, we_lst, we_bin, we_neg, we_not, we_cmp, we_chain, we_and, we_or, we_ite, we_idx, we_sl, wt_no, wt_v, wt_k, wt_bin, wt_neg, wt_idx, we_callG, we_prim, we_meth, we_isi, we_comp, wea_gf, wea_lam0, wea_lam1, we_lam0, we_hcall, wa_nil, wa_cons, waa_nil, waa_cons, wg_tn, wg_tt, wg_tsub, wgs_nil, wgs_cons, gsNil_nil, wi_iv, wi_ir1, wi_ir2, wi_ien, wi_izip, wi_izl, ws_asg, ws_par, ws_ex, ws_ret, ws_retN, ws_pass, ws_brk, ws_iff, ws_forr, ws_raise, wss_nil, wss_cons, wtru_eq, wp_ok, wp_exc, wp_oth_some, wea_k, wea_g, wea_tup, wea_lst, wea_bin, wea_neg, wea_not, wea_cmp, wea_chain, wea_and, wea_or, wea_ite, wea_idx, wea_sl, wea_call, wea_prim, wea_meth, wea_isi, wea_comp, slotD_z, slotD_s, slotA_z, slotA_s, newTup0, newTup1, newTup2, newTup3, newTup4, tr_non, tr_bl, tr_int, tr_tup, len_tup, atI0, atI1, idx_tup, it_tup, un_tup, int_of, lt_int, le_int, gt_int, ge_int, cmp_eq, cmp_ne, cmp_is, cmp_isnot, eqD_int, eqD_bl, lt_tup, List.set_cons_succ, List.set_cons_zero, startD, List.map_cons, List.map_nil, List.length_cons, List.length_nil, Nat.zero_add, Nat.reduceAdd, Nat.reduceSub, Nat.sub_self, List.replicate_succ, List.replicate_zero, List.cons_append, List.nil_append, Option.map_some, Kst.d, if_true, if_false, Bool.false_eq_true, wp_add_int, wp_sub_int, isiA, calA, z1]
                refine ih _ inner _ (by omega) hi ?_
                try simp -implicitDefEqProofs only [wpS_sbnd, we_k, we_g, we_gf, we_v, wea_v, we_tup, we_lst, we_bin, we_neg, we_not, we_cmp, we_chain, we_and, we_or, we_ite, we_idx, we_sl, wt_no, wt_v, wt_k, wt_bin, wt_neg, wt_idx, we_callG, we_prim, we_meth, we_isi, we_comp, wea_gf, wea_lam0, wea_lam1, we_lam0, we_hcall, wa_nil, wa_cons, waa_nil, waa_cons, wg_tn, wg_tt, wg_tsub, wgs_nil, wgs_cons, gsNil_nil, wi_iv, wi_ir1, wi_ir2, wi_ien, wi_izip, wi_izl, ws_asg, ws_par, ws_ex, ws_ret, ws_retN, ws_pass, ws_brk, ws_iff, ws_forr, ws_raise, wss_nil, wss_cons, wtru_eq, wp_ok, wp_exc, wp_oth_some, wea_k, wea_g, wea_tup, wea_lst, wea_bin, wea_neg, wea_not, wea_cmp, wea_chain, wea_and, wea_or, wea_ite, wea_idx, wea_sl, wea_call, wea_prim, wea_meth, wea_isi, wea_comp, slotD_z, slotD_s, slotA_z, slotA_s, newTup0, newTup1, newTup2, newTup3, newTup4, tr_non, tr_bl, tr_int, tr_tup, len_tup, atI0, atI1, idx_tup, it_tup, un_tup, int_of, lt_int, le_int, gt_int, ge_int, cmp_eq, cmp_ne, cmp_is, cmp_isnot, eqD_int, eqD_bl, lt_tup, List.set_cons_succ, List.set_cons_zero, startD, List.map_cons, List.map_nil, List.length_cons, List.length_nil, Nat.zero_add, Nat.reduceAdd, Nat.reduceSub, Nat.sub_self, List.replicate_succ, List.replicate_zero, List.cons_append, List.nil_append, Option.map_some, Kst.d, if_true, if_false, Bool.false_eq_true, wp_add_int, wp_sub_int, isiA, calA]
                simp only [foldN, hw, if_true] at e4
                cases hsh : nb stands deep inner with
                | none =>
                  rw [hsh] at e4
                  simp -implicitDefEqProofs only [optI, isD, wpS_sbnd, we_k, we_g, we_gf, we_v, wea_v, we_tup, we_lst, we_bin, we_neg, we_not, we_cmp, we_chain, we_and, we_or, we_ite, we_idx, we_sl, wt_no, wt_v, wt_k, wt_bin, wt_neg, wt_idx, we_callG, we_prim, we_meth, we_isi, we_comp, wea_gf, wea_lam0, wea_lam1, we_lam0, we_hcall, wa_nil, wa_cons, waa_nil, waa_cons, wg_tn, wg_tt, wg_tsub, wgs_nil, wgs_cons, gsNil_nil, wi_iv, wi_ir1, wi_ir2, wi_ien, wi_izip, wi_izl, ws_asg, ws_par, ws_ex, ws_ret, ws_retN, ws_pass, ws_brk, ws_iff, ws_forr, ws_raise, wss_nil, wss_cons, wtru_eq, wp_ok, wp_exc, wp_oth_some, wea_k, wea_g, wea_tup, wea_lst, wea_bin, wea_neg, wea_not, wea_cmp, wea_chain, wea_and, wea_or, wea_ite, wea_idx, wea_sl, wea_call, wea_prim, wea_meth, wea_isi, wea_comp, slotD_z, slotD_s, slotA_z, slotA_s, newTup0, newTup1, newTup2, newTup3, newTup4, tr_non, tr_bl, tr_int, tr_tup, len_tup, atI0, atI1, idx_tup, it_tup, un_tup, int_of, lt_int, le_int, gt_int, ge_int, cmp_eq, cmp_ne, cmp_is, cmp_isnot, eqD_int, eqD_bl, lt_tup, List.set_cons_succ, List.set_cons_zero, startD, List.map_cons, List.map_nil, List.length_cons, List.length_nil, Nat.zero_add, Nat.reduceAdd, Nat.reduceSub, Nat.sub_self, List.replicate_succ, List.replicate_zero, List.cons_append, List.nil_append, Option.map_some, Kst.d, if_true, if_false, Bool.false_eq_true, wp_add_int, wp_sub_int, isiA, calA]
                  rw [e4] at h
                  exact h
                | some c =>
                  rw [hsh] at e4
                  simp -implicitDefEqProofs only [optI, isD, wpS_sbnd, we_k, we_g, we_gf, we_v, wea_v, we_tup, we_lst, we_bin, we_neg, we_not, we_cmp, we_chain, we_and, we_or, we_ite, we_idx, we_sl, wt_no, wt_v, wt_k, wt_bin, wt_neg, wt_idx, we_callG, we_prim, we_meth, we_isi, we_comp, wea_gf, wea_lam0, wea_lam1, we_lam0, we_hcall, wa_nil, wa_cons, waa_nil, waa_cons, wg_tn, wg_tt, wg_tsub, wgs_nil, wgs_cons, gsNil_nil, wi_iv, wi_ir1, wi_ir2, wi_ien, wi_izip, wi_izl, ws_asg, ws_par, ws_ex, ws_ret, ws_retN, ws_pass, ws_brk, ws_iff, ws_forr, ws_raise, wss_nil, wss_cons, wtru_eq, wp_ok, wp_exc, wp_oth_some, wea_k, wea_g, wea_tup, wea_lst, wea_bin, wea_neg, wea_not, wea_cmp, wea_chain, wea_and, wea_or, wea_ite, wea_idx, wea_sl, wea_call, wea_prim, wea_meth, wea_isi, wea_comp, slotD_z, slotD_s, slotA_z, slotA_s, newTup0, newTup1, newTup2, newTup3, newTup4, tr_non, tr_bl, tr_int, tr_tup, len_tup, atI0, atI1, idx_tup, it_tup, un_tup, int_of, lt_int, le_int, gt_int, ge_int, cmp_eq, cmp_ne, cmp_is, cmp_isnot, eqD_int, eqD_bl, lt_tup, List.set_cons_succ, List.set_cons_zero, startD, List.map_cons, List.map_nil, List.length_cons, List.length_nil, Nat.zero_add, Nat.reduceAdd, Nat.reduceSub, Nat.sub_self, List.replicate_succ, List.replicate_zero, List.cons_append, List.nil_append, Option.map_some, Kst.d, if_true, if_false, Bool.false_eq_true, wp_add_int, wp_sub_int, isiA, calA, eqD_nil hi.1]
                  have nx : (st' = st' ∧ (∀ d ∈ r, Val k m st' d) ∧ ∃ many' b i, ([some (.d (.int stands)), some (.d (.tup ds)), some (.d (.int ((deep + 1 : Nat) : Int))), some (.d (.int (many + 1 + c))), some (.d (.tup [s, inner])), some (.d (.int c))] : Env) = [some (.d (.int stands)), some (.d (.tup ds)), some (.d (.int ((deep + 1 : Nat) : Int))), some (.d (.int many')), b, i] ∧ nb stands (deep + 1) (.tup ds) = foldN (nb stands deep) stands many' r) := ⟨rfl, fun d hd => e2 d (List.mem_cons_of_mem _ hd), _, _, _, rfl, e4⟩
                  cases hz : isNilD inner with
                  | true => simpa -implicitDefEqProofs only [Bool.not_true, Bool.false_eq_true, if_false, wpS_sbnd, we_k, we_g, we_gf, we_v, wea_v, we_tup, we_lst, we_bin, we_neg, we_not, we_cmp, we_chain, we_and, we_or, we_ite, we_idx, we_sl, wt_no, wt_v, wt_k, wt_bin, wt_neg, wt_idx, we_callG, we_prim, we_meth, we_isi, we_comp, wea_gf, wea_lam0, wea_lam1, we_lam0, we_hcall, wa_nil, wa_cons, waa_nil, waa_cons, wg_tn, wg_tt, wg_tsub, wgs_nil, wgs_cons, gsNil_nil, wi_iv, wi_ir1, wi_ir2, wi_ien, wi_izip, wi_izl, ws_asg, ws_par, ws_ex, ws_ret, ws_retN, ws_pass, ws_brk, ws_iff, ws_forr, ws_raise, wss_nil, wss_cons, wtru_eq, wp_ok, wp_exc, wp_oth_some, wea_k, wea_g, wea_tup, wea_lst, wea_bin, wea_neg, wea_not, wea_cmp, wea_chain, wea_and, wea_or, wea_ite, wea_idx, wea_sl, wea_call, wea_prim, wea_meth, wea_isi, wea_comp, slotD_z, slotD_s, slotA_z, slotA_s, newTup0, newTup1, newTup2, newTup3, newTup4, tr_non, tr_bl, tr_int, tr_tup, len_tup, atI0, atI1, idx_tup, it_tup, un_tup, int_of, lt_int, le_int, gt_int, ge_int, cmp_eq, cmp_ne, cmp_is, cmp_isnot, eqD_int, eqD_bl, lt_tup, List.set_cons_succ, List.set_cons_zero, startD, List.map_cons, List.map_nil, List.length_cons, List.length_nil, Nat.zero_add, Nat.reduceAdd, Nat.reduceSub, Nat.sub_self, List.replicate_succ, List.replicate_zero, List.cons_append, List.nil_append, Option.map_some, Kst.d, if_true, if_false, Bool.false_eq_true, wp_add_int, wp_sub_int, isiA, calA] using nx
                  | false =>
                    have hd2 : decide (((deep + 1 : Nat) : Int) < 2) = false := by
                      rw [decide_eq_false_iff_not]
                      intro z
                      have : deep = 0 := by omega
                      subst this
                      rw [nil_of (deep := 0) hsh] at hz
                      cases hz
                    simpa -implicitDefEqProofs only [Bool.not_false, if_true, wpS_sbnd, we_k, we_g, we_gf, we_v, wea_v, we_tup, we_lst, we_bin, we_neg, we_not, we_cmp, we_chain, we_and, we_or, we_ite, we_idx, we_sl, wt_no, wt_v, wt_k, wt_bin, wt_neg, wt_idx, we_callG, we_prim, we_meth, we_isi, we_comp, wea_gf, wea_lam0, wea_lam1, we_lam0, we_hcall, wa_nil, wa_cons, waa_nil, waa_cons, wg_tn, wg_tt, wg_tsub, wgs_nil, wgs_cons, gsNil_nil, wi_iv, wi_ir1, wi_ir2, wi_ien, wi_izip, wi_izl, ws_asg, ws_par, ws_ex, ws_ret, ws_retN, ws_pass, ws_brk, ws_iff, ws_forr, ws_raise, wss_nil, wss_cons, wtru_eq, wp_ok, wp_exc, wp_oth_some, wea_k, wea_g, wea_tup, wea_lst, wea_bin, wea_neg, wea_not, wea_cmp, wea_chain, wea_and, wea_or, wea_ite, wea_idx, wea_sl, wea_call, wea_prim, wea_meth, wea_isi, wea_comp, slotD_z, slotD_s, slotA_z, slotA_s, newTup0, newTup1, newTup2, newTup3, newTup4, tr_non, tr_bl, tr_int, tr_tup, len_tup, atI0, atI1, idx_tup, it_tup, un_tup, int_of, lt_int, le_int, gt_int, ge_int, cmp_eq, cmp_ne, cmp_is, cmp_isnot, eqD_int, eqD_bl, lt_tup, List.set_cons_succ, List.set_cons_zero, startD, List.map_cons, List.map_nil, List.length_cons, List.length_nil, Nat.zero_add, Nat.reduceAdd, Nat.reduceSub, Nat.sub_self, List.replicate_succ, List.replicate_zero, List.cons_append, List.nil_append, Option.map_some, Kst.d, if_true, if_false, Bool.false_eq_true, wp_add_int, wp_sub_int, isiA, calA, hd2, Bool.false_eq_true, if_false] using nx
          · have l2 : ((bs.length : Int) == 2) = false := by
              rw [beq_eq_false_iff_ne]
              omega
            simp only [l2, Bool.not_false, if_true]
            have : foldN (nb stands deep) stands many (D.tup bs :: r) = none := by
              match bs, hl with
              | [], _ => rfl
              | [_], _ => rfl
              | _ :: _ :: _ :: _, _ => rfl
            rw [e4, this] at h
            exact h
        | rol => cases hd.1
        | fn => cases hd.1
        | lam => cases hd.1
        | _ =>
          rw [e4] at h
          simpa -implicitDefEqProofs only [isiD, wpS_sbnd, we_k, we_g, we_gf, we_v, wea_v, we_tup, we_lst, we_bin, we_neg, we_not, we_cmp, we_chain, we_and, we_or, we_ite, we_idx, we_sl, wt_no, wt_v, wt_k, wt_bin, wt_neg, wt_idx, we_callG, we_prim, we_meth, we_isi, we_comp, wea_gf, wea_lam0, wea_lam1, we_lam0, we_hcall, wa_nil, wa_cons, waa_nil, waa_cons, wg_tn, wg_tt, wg_tsub, wgs_nil, wgs_cons, gsNil_nil, wi_iv, wi_ir1, wi_ir2, wi_ien, wi_izip, wi_izl, ws_asg, ws_par, ws_ex, ws_ret, ws_retN, ws_pass, ws_brk, ws_iff, ws_forr, ws_raise, wss_nil, wss_cons, wtru_eq, wp_ok, wp_exc, wp_oth_some, wea_k, wea_g, wea_tup, wea_lst, wea_bin, wea_neg, wea_not, wea_cmp, wea_chain, wea_and, wea_or, wea_ite, wea_idx, wea_sl, wea_call, wea_prim, wea_meth, wea_isi, wea_comp, slotD_z, slotD_s, slotA_z, slotA_s, newTup0, newTup1, newTup2, newTup3, newTup4, tr_non, tr_bl, tr_int, tr_tup, len_tup, atI0, atI1, idx_tup, it_tup, un_tup, int_of, lt_int, le_int, gt_int, ge_int, cmp_eq, cmp_ne, cmp_is, cmp_isnot, eqD_int, eqD_bl, lt_tup, List.set_cons_succ, List.set_cons_zero, startD, List.map_cons, List.map_nil, List.length_cons, List.length_nil, Nat.zero_add, Nat.reduceAdd, Nat.reduceSub, Nat.sub_self, List.replicate_succ, List.replicate_zero, List.cons_append, List.nil_append, Option.map_some, Kst.d, if_true, if_false, Bool.false_eq_true, wp_add_int, wp_sub_int, isiA, calA, Bool.not_false, Bool.not_true, foldN, optI] using h
      · subst e1 e3
        rw [e4] at h
        simpa -implicitDefEqProofs only [wpS_sbnd, we_k, we_g, we_gf, we_v, wea_v, we_tup, we_lst, we_bin, we_neg, we_not, we_cmp, we_chain, we_and, we_or, we_ite, we_idx, we_sl, wt_no, wt_v, wt_k, wt_bin, wt_neg, wt_idx, we_callG, we_prim, we_meth, we_isi, we_comp, wea_gf, wea_lam0, wea_lam1, we_lam0, we_hcall, wa_nil, wa_cons, waa_nil, waa_cons, wg_tn, wg_tt, wg_tsub, wgs_nil, wgs_cons, gsNil_nil, wi_iv, wi_ir1, wi_ir2, wi_ien, wi_izip, wi_izl, ws_asg, ws_par, ws_ex, ws_ret, ws_retN, ws_pass, ws_brk, ws_iff, ws_forr, ws_raise, wss_nil, wss_cons, wtru_eq, wp_ok, wp_exc, wp_oth_some, wea_k, wea_g, wea_tup, wea_lst, wea_bin, wea_neg, wea_not, wea_cmp, wea_chain, wea_and, wea_or, wea_ite, wea_idx, wea_sl, wea_call, wea_prim, wea_meth, wea_isi, wea_comp, slotD_z, slotD_s, slotA_z, slotA_s, newTup0, newTup1, newTup2, newTup3, newTup4, tr_non, tr_bl, tr_int, tr_tup, len_tup, atI0, atI1, idx_tup, it_tup, un_tup, int_of, lt_int, le_int, gt_int, ge_int, cmp_eq, cmp_ne, cmp_is, cmp_isnot, eqD_int, eqD_bl, lt_tup, List.set_cons_succ, List.set_cons_zero, startD, List.map_cons, List.map_nil, List.length_cons, List.length_nil, Nat.zero_add, Nat.reduceAdd, Nat.reduceSub, Nat.sub_self, List.replicate_succ, List.replicate_zero, List.cons_append, List.nil_append, Option.map_some, Kst.d, if_true, if_false, Bool.false_eq_true, wp_add_int, wp_sub_int, isiA, calA, foldN, optI] using h
    | rol => cases hv.1
    | fn => cases hv.1
    | lam => cases hv.1
    | _ => simpa -implicitDefEqProofs only [isiD, wpS_sbnd, we_k, we_g, we_gf, we_v, wea_v, we_tup, we_lst, we_bin, we_neg, we_not, we_cmp, we_chain, we_and, we_or, we_ite, we_idx, we_sl, wt_no, wt_v, wt_k, wt_bin, wt_neg, wt_idx, we_callG, we_prim, we_meth, we_isi, we_comp, wea_gf, wea_lam0, wea_lam1, we_lam0, we_hcall, wa_nil, wa_cons, waa_nil, waa_cons, wg_tn, wg_tt, wg_tsub, wgs_nil, wgs_cons, gsNil_nil, wi_iv, wi_ir1, wi_ir2, wi_ien, wi_izip, wi_izl, ws_asg, ws_par, ws_ex, ws_ret, ws_retN, ws_pass, ws_brk, ws_iff, ws_forr, ws_raise, wss_nil, wss_cons, wtru_eq, wp_ok, wp_exc, wp_oth_some, wea_k, wea_g, wea_tup, wea_lst, wea_bin, wea_neg, wea_not, wea_cmp, wea_chain, wea_and, wea_or, wea_ite, wea_idx, wea_sl, wea_call, wea_prim, wea_meth, wea_isi, wea_comp, slotD_z, slotD_s, slotA_z, slotA_s, newTup0, newTup1, newTup2, newTup3, newTup4, tr_non, tr_bl, tr_int, tr_tup, len_tup, atI0, atI1, idx_tup, it_tup, un_tup, int_of, lt_int, le_int, gt_int, ge_int, cmp_eq, cmp_ne, cmp_is, cmp_isnot, eqD_int, eqD_bl, lt_tup, List.set_cons_succ, List.set_cons_zero, startD, List.map_cons, List.map_nil, List.length_cons, List.length_nil, Nat.zero_add, Nat.reduceAdd, Nat.reduceSub, Nat.sub_self, List.replicate_succ, List.replicate_zero, List.cons_append, List.nil_append, Option.map_some, Kst.d, if_true, if_false, Bool.false_eq_true, wp_add_int, wp_sub_int, isiA, calA, Bool.not_false, Bool.not_true, nb, optI] using h
end
/-! ### both say the same -/
def le60 : Option Int → Option Int
  | some i => if i ≤ 60 then some i else none
  | none => none
theorem box_cases (d : D) : (∃ s i, d = .tup [s, i]) ∨ ((∀ f st t r, foldS f st t (d :: r) = none) ∧ ∀ f st t r, foldN f st t (d :: r) = none) := by
  cases d with
  | tup ds =>
    match ds with
    | [] => exact .inr ⟨fun _ _ _ _ => rfl, fun _ _ _ _ => rfl⟩
    | [_] => exact .inr ⟨fun _ _ _ _ => rfl, fun _ _ _ _ => rfl⟩
    | [s, i] => exact .inl ⟨s, i, rfl⟩
    | _ :: _ :: _ :: _ => exact .inr ⟨fun _ _ _ _ => rfl, fun _ _ _ _ => rfl⟩
  | _ => exact .inr ⟨fun _ _ _ _ => rfl, fun _ _ _ _ => rfl⟩
theorem foldN_ge {f : D → Option Int} {stands : Int} (hf : ∀ v c, f v = some c → 0 ≤ c) : ∀ (ds : List D) (t c : Int), foldN f stands t ds = some c → t ≤ c
  | [], t, c, h => by simp only [foldN, Option.some.injEq] at h; omega
  | d :: r, t, c, h => by
    rcases box_cases d with ⟨s, i, rfl⟩ | ⟨_, h2⟩
    · simp only [foldN] at h
      split at h
      · cases hk : f i with
        | none => rw [hk] at h; cases h
        | some k =>
          rw [hk] at h
          have a := foldN_ge hf r _ c h
          have b := hf _ _ hk
          omega
      · cases h
    · rw [h2] at h
      cases h
theorem nb_ge {stands : Int} : ∀ (deep : Nat) (v : D) (c : Int), nb stands deep v = some c → 0 ≤ c
  | 0, v, c, h => by
    cases v with
    | tup ds => cases ds with
      | nil => simp only [nb, Option.some.injEq] at h; omega
      | cons d ds => simp only [nb] at h; cases h
    | _ => simp only [nb] at h; cases h
  | deep + 1, v, c, h => by
    cases v with
    | tup ds => exact foldN_ge (nb_ge deep) _ _ _ h
    | _ => simp only [nb] at h; cases h
theorem fold_eq {f g : D → Option Int} {stands : Int} (hg : ∀ v c, g v = some c → 0 ≤ c) (hf : ∀ v, f v = le60 (g v)) : ∀ (ds : List D) (t : Int), 0 ≤ t → t ≤ 60 → foldS f stands t ds = le60 (foldN g stands t ds)
  | [], t, h0, ht => by simp [foldS, foldN, le60, ht]
  | d :: r, t, h0, ht => by
    rcases box_cases d with ⟨s, inner, rfl⟩ | ⟨h1, h2⟩
    · simp only [foldS, foldN]
      cases hw : whole s 0 (stands - 1) with
      | false => simp [le60]
      | true =>
        simp only [if_true]
        rw [hf inner]
        cases hi : g inner with
        | none => simp [le60]
        | some c =>
          have hc := hg _ _ hi
          have big : ∀ x, foldN g stands (t + 1 + c) r = some x → t + 1 + c ≤ x := fun x hx => foldN_ge hg r _ x hx
          by_cases h1 : c ≤ 60
          · by_cases h2 : t + c + 1 > 60
            · simp only [le60, h1, h2, if_true]
              cases hx : foldN g stands (t + 1 + c) r with
              | none => rfl
              | some x =>
                have := big x hx
                show none = if x ≤ 60 then some x else none
                rw [if_neg (by omega)]
            · simp only [le60, h1, h2, if_true, if_false]
              have := fold_eq (stands := stands) hg hf r (t + c + 1) (by omega) (by omega)
              rw [this, show t + c + 1 = t + 1 + c by omega]
              rfl
          · simp only [le60, h1, if_false]
            cases hx : foldN g stands (t + 1 + c) r with
            | none => rfl
            | some x =>
              have := big x hx
              show none = if x ≤ 60 then some x else none
              rw [if_neg (by omega)]
    · rw [h1, h2]
      rfl
theorem shape_eq {stands : Int} : ∀ (deep : Nat) (v : D), shape stands deep v = le60 (nb stands deep v)
  | 0, v => by
    cases v with
    | tup ds => cases ds <;> simp [shape, nb, le60]
    | _ => simp [shape, nb, le60]
  | deep + 1, v => by
    cases v with
    | tup ds =>
      simp only [shape, nb]
      exact fold_eq (nb_ge deep) (shape_eq deep) ds 0 (by omega) (by omega)
    | _ => simp [shape, nb, le60]
/-- a nesting -/
def isN (stands : Int) (v : D) : Bool := (shape stands 12 v).isSome
end K01

set_option Elab.async false
set_option linter.all false
set_option maxRecDepth 100000
/-! law k01: nestings recognized; what is refused. -/
namespace K01
open PF
section
variable {W n k m : Nat} {Q : D → Store → Prop} {E : Xn → Store → Prop} {st : Store} {stands : Int} {v : D}
theorem w_has_nesting (hW : m < W) (hn : 15 ≤ n) (hv : Val k m st v) (h : Q (.bl (isN stands v)) st) : wp (callN prog W n (.d (.fn 2)) [.d (.int stands), .d v] st) Q E := by
  obtain ⟨n, rfl⟩ : ∃ m, n = m + 1 := ⟨n - 1, by omega⟩
  rw [wp_fn (d := ⟨2, 2, c_has_nesting⟩) rfl rfl]
  simp -implicitDefEqProofs only [c_has_nesting, wpS_sbnd, we_k, we_g, we_gf, we_v, wea_v, we_tup, we_lst, we_bin, we_neg, we_not, we_cmp, we_chain, we_and, we_or, we_ite, we_idx, we_sl, wt_no, wt_v, wt_k, wt_bin, wt_neg, wt_idx, we_callG, we_prim, we_meth, we_isi, we_comp, wea_gf, wea_lam0, wea_lam1, we_lam0, we_hcall, wa_nil, wa_cons, waa_nil, waa_cons, wg_tn, wg_tt, wg_tsub, wgs_nil, wgs_cons, gsNil_nil, wi_iv, wi_ir1, wi_ir2, wi_ien, wi_izip, wi_izl, ws_asg, ws_par, ws_ex, ws_ret, ws_retN, ws_pass, ws_brk, ws_iff, ws_forr, ws_raise, wss_nil, wss_cons, wtru_eq, wp_ok, wp_exc, wp_oth_some, wea_k, wea_g, wea_tup, wea_lst, wea_bin, wea_neg, wea_not, wea_cmp, wea_chain, wea_and, wea_or, wea_ite, wea_idx, wea_sl, wea_call, wea_prim, wea_meth, wea_isi, wea_comp, slotD_z, slotD_s, slotA_z, slotA_s, newTup0, newTup1, newTup2, newTup3, newTup4, tr_non, tr_bl, tr_int, tr_tup, len_tup, atI0, atI1, idx_tup, it_tup, un_tup, int_of, lt_int, le_int, gt_int, ge_int, cmp_eq, cmp_ne, cmp_is, cmp_isnot, eqD_int, eqD_bl, lt_tup, List.set_cons_succ, List.set_cons_zero, startD, List.map_cons, List.map_nil, List.length_cons, List.length_nil, Nat.zero_add, Nat.reduceAdd, Nat.reduceSub, Nat.sub_self, List.replicate_succ, List.replicate_zero, List.cons_append, List.nil_append, Option.map_some, Kst.d, if_true, if_false, Bool.false_eq_true, wp_add_int, wp_sub_int, isiA, calA]
  refine w_shape_of hW 12 n v _ (by omega) hv ?_
  unfold isN at h
  cases e : shape stands 12 v with
  | none =>
    rw [e] at h
    simpa -implicitDefEqProofs only [optI, isD, wpS_sbnd, we_k, we_g, we_gf, we_v, wea_v, we_tup, we_lst, we_bin, we_neg, we_not, we_cmp, we_chain, we_and, we_or, we_ite, we_idx, we_sl, wt_no, wt_v, wt_k, wt_bin, wt_neg, wt_idx, we_callG, we_prim, we_meth, we_isi, we_comp, wea_gf, wea_lam0, wea_lam1, we_lam0, we_hcall, wa_nil, wa_cons, waa_nil, waa_cons, wg_tn, wg_tt, wg_tsub, wgs_nil, wgs_cons, gsNil_nil, wi_iv, wi_ir1, wi_ir2, wi_ien, wi_izip, wi_izl, ws_asg, ws_par, ws_ex, ws_ret, ws_retN, ws_pass, ws_brk, ws_iff, ws_forr, ws_raise, wss_nil, wss_cons, wtru_eq, wp_ok, wp_exc, wp_oth_some, wea_k, wea_g, wea_tup, wea_lst, wea_bin, wea_neg, wea_not, wea_cmp, wea_chain, wea_and, wea_or, wea_ite, wea_idx, wea_sl, wea_call, wea_prim, wea_meth, wea_isi, wea_comp, slotD_z, slotD_s, slotA_z, slotA_s, newTup0, newTup1, newTup2, newTup3, newTup4, tr_non, tr_bl, tr_int, tr_tup, len_tup, atI0, atI1, idx_tup, it_tup, un_tup, int_of, lt_int, le_int, gt_int, ge_int, cmp_eq, cmp_ne, cmp_is, cmp_isnot, eqD_int, eqD_bl, lt_tup, List.set_cons_succ, List.set_cons_zero, startD, List.map_cons, List.map_nil, List.length_cons, List.length_nil, Nat.zero_add, Nat.reduceAdd, Nat.reduceSub, Nat.sub_self, List.replicate_succ, List.replicate_zero, List.cons_append, List.nil_append, Option.map_some, Kst.d, if_true, if_false, Bool.false_eq_true, wp_add_int, wp_sub_int, isiA, calA, Bool.not_true, Option.isSome_none] using h
  | some c =>
    rw [e] at h
    simpa -implicitDefEqProofs only [optI, isD, wpS_sbnd, we_k, we_g, we_gf, we_v, wea_v, we_tup, we_lst, we_bin, we_neg, we_not, we_cmp, we_chain, we_and, we_or, we_ite, we_idx, we_sl, wt_no, wt_v, wt_k, wt_bin, wt_neg, wt_idx, we_callG, we_prim, we_meth, we_isi, we_comp, wea_gf, wea_lam0, wea_lam1, we_lam0, we_hcall, wa_nil, wa_cons, waa_nil, waa_cons, wg_tn, wg_tt, wg_tsub, wgs_nil, wgs_cons, gsNil_nil, wi_iv, wi_ir1, wi_ir2, wi_ien, wi_izip, wi_izl, ws_asg, ws_par, ws_ex, ws_ret, ws_retN, ws_pass, ws_brk, ws_iff, ws_forr, ws_raise, wss_nil, wss_cons, wtru_eq, wp_ok, wp_exc, wp_oth_some, wea_k, wea_g, wea_tup, wea_lst, wea_bin, wea_neg, wea_not, wea_cmp, wea_chain, wea_and, wea_or, wea_ite, wea_idx, wea_sl, wea_call, wea_prim, wea_meth, wea_isi, wea_comp, slotD_z, slotD_s, slotA_z, slotA_s, newTup0, newTup1, newTup2, newTup3, newTup4, tr_non, tr_bl, tr_int, tr_tup, len_tup, atI0, atI1, idx_tup, it_tup, un_tup, int_of, lt_int, le_int, gt_int, ge_int, cmp_eq, cmp_ne, cmp_is, cmp_isnot, eqD_int, eqD_bl, lt_tup, List.set_cons_succ, List.set_cons_zero, startD, List.map_cons, List.map_nil, List.length_cons, List.length_nil, Nat.zero_add, Nat.reduceAdd, Nat.reduceSub, Nat.sub_self, List.replicate_succ, List.replicate_zero, List.cons_append, List.nil_append, Option.map_some, Kst.d, if_true, if_false, Bool.false_eq_true, wp_add_int, wp_sub_int, isiA, calA, Bool.not_false, Option.isSome_some] using h
theorem w_need_stands (hn : 2 ≤ n) (hv : Dat k st v) (h : if whole v 2 3 = true then Q .non st else E ⟨5, []⟩ st) : wp (callN prog W n (.d (.fn 6)) [.d v] st) Q E := by
  obtain ⟨n, rfl⟩ : ∃ m, n = m + 2 := ⟨n - 2, by omega⟩
  rw [wp_fn (d := ⟨1, 1, c_need_stands⟩) rfl rfl]
  simp -implicitDefEqProofs only [c_need_stands, wpS_sbnd, we_k, we_g, we_gf, we_v, wea_v, we_tup, we_lst, we_bin, we_neg, we_not, we_cmp, we_chain, we_and, we_or, we_ite, we_idx, we_sl, wt_no, wt_v, wt_k, wt_bin, wt_neg, wt_idx, we_callG, we_prim, we_meth, we_isi, we_comp, wea_gf, wea_lam0, wea_lam1, we_lam0, we_hcall, wa_nil, wa_cons, waa_nil, waa_cons, wg_tn, wg_tt, wg_tsub, wgs_nil, wgs_cons, gsNil_nil, wi_iv, wi_ir1, wi_ir2, wi_ien, wi_izip, wi_izl, ws_asg, ws_par, ws_ex, ws_ret, ws_retN, ws_pass, ws_brk, ws_iff, ws_forr, ws_raise, wss_nil, wss_cons, wtru_eq, wp_ok, wp_exc, wp_oth_some, wea_k, wea_g, wea_tup, wea_lst, wea_bin, wea_neg, wea_not, wea_cmp, wea_chain, wea_and, wea_or, wea_ite, wea_idx, wea_sl, wea_call, wea_prim, wea_meth, wea_isi, wea_comp, slotD_z, slotD_s, slotA_z, slotA_s, newTup0, newTup1, newTup2, newTup3, newTup4, tr_non, tr_bl, tr_int, tr_tup, len_tup, atI0, atI1, idx_tup, it_tup, un_tup, int_of, lt_int, le_int, gt_int, ge_int, cmp_eq, cmp_ne, cmp_is, cmp_isnot, eqD_int, eqD_bl, lt_tup, List.set_cons_succ, List.set_cons_zero, startD, List.map_cons, List.map_nil, List.length_cons, List.length_nil, Nat.zero_add, Nat.reduceAdd, Nat.reduceSub, Nat.sub_self, List.replicate_succ, List.replicate_zero, List.cons_append, List.nil_append, Option.map_some, Kst.d, if_true, if_false, Bool.false_eq_true, wp_add_int, wp_sub_int, isiA, calA]
  refine w_is_whole hv ?_
  cases e : whole v 2 3 with
  | true =>
    rw [e] at h
    simpa -implicitDefEqProofs only [wpS_sbnd, we_k, we_g, we_gf, we_v, wea_v, we_tup, we_lst, we_bin, we_neg, we_not, we_cmp, we_chain, we_and, we_or, we_ite, we_idx, we_sl, wt_no, wt_v, wt_k, wt_bin, wt_neg, wt_idx, we_callG, we_prim, we_meth, we_isi, we_comp, wea_gf, wea_lam0, wea_lam1, we_lam0, we_hcall, wa_nil, wa_cons, waa_nil, waa_cons, wg_tn, wg_tt, wg_tsub, wgs_nil, wgs_cons, gsNil_nil, wi_iv, wi_ir1, wi_ir2, wi_ien, wi_izip, wi_izl, ws_asg, ws_par, ws_ex, ws_ret, ws_retN, ws_pass, ws_brk, ws_iff, ws_forr, ws_raise, wss_nil, wss_cons, wtru_eq, wp_ok, wp_exc, wp_oth_some, wea_k, wea_g, wea_tup, wea_lst, wea_bin, wea_neg, wea_not, wea_cmp, wea_chain, wea_and, wea_or, wea_ite, wea_idx, wea_sl, wea_call, wea_prim, wea_meth, wea_isi, wea_comp, slotD_z, slotD_s, slotA_z, slotA_s, newTup0, newTup1, newTup2, newTup3, newTup4, tr_non, tr_bl, tr_int, tr_tup, len_tup, atI0, atI1, idx_tup, it_tup, un_tup, int_of, lt_int, le_int, gt_int, ge_int, cmp_eq, cmp_ne, cmp_is, cmp_isnot, eqD_int, eqD_bl, lt_tup, List.set_cons_succ, List.set_cons_zero, startD, List.map_cons, List.map_nil, List.length_cons, List.length_nil, Nat.zero_add, Nat.reduceAdd, Nat.reduceSub, Nat.sub_self, List.replicate_succ, List.replicate_zero, List.cons_append, List.nil_append, Option.map_some, Kst.d, if_true, if_false, Bool.false_eq_true, wp_add_int, wp_sub_int, isiA, calA, Bool.not_true] using h
  | false =>
    rw [e] at h
    simpa -implicitDefEqProofs only [wpS_sbnd, we_k, we_g, we_gf, we_v, wea_v, we_tup, we_lst, we_bin, we_neg, we_not, we_cmp, we_chain, we_and, we_or, we_ite, we_idx, we_sl, wt_no, wt_v, wt_k, wt_bin, wt_neg, wt_idx, we_callG, we_prim, we_meth, we_isi, we_comp, wea_gf, wea_lam0, wea_lam1, we_lam0, we_hcall, wa_nil, wa_cons, waa_nil, waa_cons, wg_tn, wg_tt, wg_tsub, wgs_nil, wgs_cons, gsNil_nil, wi_iv, wi_ir1, wi_ir2, wi_ien, wi_izip, wi_izl, ws_asg, ws_par, ws_ex, ws_ret, ws_retN, ws_pass, ws_brk, ws_iff, ws_forr, ws_raise, wss_nil, wss_cons, wtru_eq, wp_ok, wp_exc, wp_oth_some, wea_k, wea_g, wea_tup, wea_lst, wea_bin, wea_neg, wea_not, wea_cmp, wea_chain, wea_and, wea_or, wea_ite, wea_idx, wea_sl, wea_call, wea_prim, wea_meth, wea_isi, wea_comp, slotD_z, slotD_s, slotA_z, slotA_s, newTup0, newTup1, newTup2, newTup3, newTup4, tr_non, tr_bl, tr_int, tr_tup, len_tup, atI0, atI1, idx_tup, it_tup, un_tup, int_of, lt_int, le_int, gt_int, ge_int, cmp_eq, cmp_ne, cmp_is, cmp_isnot, eqD_int, eqD_bl, lt_tup, List.set_cons_succ, List.set_cons_zero, startD, List.map_cons, List.map_nil, List.length_cons, List.length_nil, Nat.zero_add, Nat.reduceAdd, Nat.reduceSub, Nat.sub_self, List.replicate_succ, List.replicate_zero, List.cons_append, List.nil_append, Option.map_some, Kst.d, if_true, if_false, Bool.false_eq_true, wp_add_int, wp_sub_int, isiA, calA, Bool.not_false] using h
theorem w_need_nesting (hW : m < W) (hn : 16 ≤ n) (hv : Val k m st v) (h : if isN stands v = true then Q .non st else E ⟨1, []⟩ st) : wp (callN prog W n (.d (.fn 7)) [.d (.int stands), .d v] st) Q E := by
  obtain ⟨n, rfl⟩ : ∃ m, n = m + 1 := ⟨n - 1, by omega⟩
  rw [wp_fn (d := ⟨2, 2, c_need_nesting⟩) rfl rfl]
  simp -implicitDefEqProofs only [c_need_nesting, wpS_sbnd, we_k, we_g, we_gf, we_v, wea_v, we_tup, we_lst, we_bin, we_neg, we_not, we_cmp, we_chain, we_and, we_or, we_ite, we_idx, we_sl, wt_no, wt_v, wt_k, wt_bin, wt_neg, wt_idx, we_callG, we_prim, we_meth, we_isi, we_comp, wea_gf, wea_lam0, wea_lam1, we_lam0, we_hcall, wa_nil, wa_cons, waa_nil, waa_cons, wg_tn, wg_tt, wg_tsub, wgs_nil, wgs_cons, gsNil_nil, wi_iv, wi_ir1, wi_ir2, wi_ien, wi_izip, wi_izl, ws_asg, ws_par, ws_ex, ws_ret, ws_retN, ws_pass, ws_brk, ws_iff, ws_forr, ws_raise, wss_nil, wss_cons, wtru_eq, wp_ok, wp_exc, wp_oth_some, wea_k, wea_g, wea_tup, wea_lst, wea_bin, wea_neg, wea_not, wea_cmp, wea_chain, wea_and, wea_or, wea_ite, wea_idx, wea_sl, wea_call, wea_prim, wea_meth, wea_isi, wea_comp, slotD_z, slotD_s, slotA_z, slotA_s, newTup0, newTup1, newTup2, newTup3, newTup4, tr_non, tr_bl, tr_int, tr_tup, len_tup, atI0, atI1, idx_tup, it_tup, un_tup, int_of, lt_int, le_int, gt_int, ge_int, cmp_eq, cmp_ne, cmp_is, cmp_isnot, eqD_int, eqD_bl, lt_tup, List.set_cons_succ, List.set_cons_zero, startD, List.map_cons, List.map_nil, List.length_cons, List.length_nil, Nat.zero_add, Nat.reduceAdd, Nat.reduceSub, Nat.sub_self, List.replicate_succ, List.replicate_zero, List.cons_append, List.nil_append, Option.map_some, Kst.d, if_true, if_false, Bool.false_eq_true, wp_add_int, wp_sub_int, isiA, calA]
  refine w_has_nesting hW (by omega) hv ?_
  cases e : isN stands v with
  | true =>
    rw [e] at h
    simpa -implicitDefEqProofs only [wpS_sbnd, we_k, we_g, we_gf, we_v, wea_v, we_tup, we_lst, we_bin, we_neg, we_not, we_cmp, we_chain, we_and, we_or, we_ite, we_idx, we_sl, wt_no, wt_v, wt_k, wt_bin, wt_neg, wt_idx, we_callG, we_prim, we_meth, we_isi, we_comp, wea_gf, wea_lam0, wea_lam1, we_lam0, we_hcall, wa_nil, wa_cons, waa_nil, waa_cons, wg_tn, wg_tt, wg_tsub, wgs_nil, wgs_cons, gsNil_nil, wi_iv, wi_ir1, wi_ir2, wi_ien, wi_izip, wi_izl, ws_asg, ws_par, ws_ex, ws_ret, ws_retN, ws_pass, ws_brk, ws_iff, ws_forr, ws_raise, wss_nil, wss_cons, wtru_eq, wp_ok, wp_exc, wp_oth_some, wea_k, wea_g, wea_tup, wea_lst, wea_bin, wea_neg, wea_not, wea_cmp, wea_chain, wea_and, wea_or, wea_ite, wea_idx, wea_sl, wea_call, wea_prim, wea_meth, wea_isi, wea_comp, slotD_z, slotD_s, slotA_z, slotA_s, newTup0, newTup1, newTup2, newTup3, newTup4, tr_non, tr_bl, tr_int, tr_tup, len_tup, atI0, atI1, idx_tup, it_tup, un_tup, int_of, lt_int, le_int, gt_int, ge_int, cmp_eq, cmp_ne, cmp_is, cmp_isnot, eqD_int, eqD_bl, lt_tup, List.set_cons_succ, List.set_cons_zero, startD, List.map_cons, List.map_nil, List.length_cons, List.length_nil, Nat.zero_add, Nat.reduceAdd, Nat.reduceSub, Nat.sub_self, List.replicate_succ, List.replicate_zero, List.cons_append, List.nil_append, Option.map_some, Kst.d, if_true, if_false, Bool.false_eq_true, wp_add_int, wp_sub_int, isiA, calA, Bool.not_true] using h
  | false =>
    rw [e] at h
    simpa -implicitDefEqProofs only [wpS_sbnd, we_k, we_g, we_gf, we_v, wea_v, we_tup, we_lst, we_bin, we_neg, we_not, we_cmp, we_chain, we_and, we_or, we_ite, we_idx, we_sl, wt_no, wt_v, wt_k, wt_bin, wt_neg, wt_idx, we_callG, we_prim, we_meth, we_isi, we_comp, wea_gf, wea_lam0, wea_lam1, we_lam0, we_hcall, wa_nil, wa_cons, waa_nil, waa_cons, wg_tn, wg_tt, wg_tsub, wgs_nil, wgs_cons, gsNil_nil, wi_iv, wi_ir1, wi_ir2, wi_ien, wi_izip, wi_izl, ws_asg, ws_par, ws_ex, ws_ret, ws_retN, ws_pass, ws_brk, ws_iff, ws_forr, ws_raise, wss_nil, wss_cons, wtru_eq, wp_ok, wp_exc, wp_oth_some, wea_k, wea_g, wea_tup, wea_lst, wea_bin, wea_neg, wea_not, wea_cmp, wea_chain, wea_and, wea_or, wea_ite, wea_idx, wea_sl, wea_call, wea_prim, wea_meth, wea_isi, wea_comp, slotD_z, slotD_s, slotA_z, slotA_s, newTup0, newTup1, newTup2, newTup3, newTup4, tr_non, tr_bl, tr_int, tr_tup, len_tup, atI0, atI1, idx_tup, it_tup, un_tup, int_of, lt_int, le_int, gt_int, ge_int, cmp_eq, cmp_ne, cmp_is, cmp_isnot, eqD_int, eqD_bl, lt_tup, List.set_cons_succ, List.set_cons_zero, startD, List.map_cons, List.map_nil, List.length_cons, List.length_nil, Nat.zero_add, Nat.reduceAdd, Nat.reduceSub, Nat.sub_self, List.replicate_succ, List.replicate_zero, List.cons_append, List.nil_append, Option.map_some, Kst.d, if_true, if_false, Bool.false_eq_true, wp_add_int, wp_sub_int, isiA, calA, Bool.not_false] using h
theorem w_is_nesting (hW : m < W) (hn : 17 ≤ n) (hs : whole (.int stands) 2 3 = true) (hv : Val k m st v) (h : Q (.bl (isN stands v)) st) : wp (callN prog W n (.d (.fn 8)) [.d (.int stands), .d v] st) Q E := by
  obtain ⟨n, rfl⟩ : ∃ m, n = m + 1 := ⟨n - 1, by omega⟩
  rw [wp_fn (d := ⟨2, 2, c_is_nesting⟩) rfl rfl]
  simp -implicitDefEqProofs only [c_is_nesting, wpS_sbnd, we_k, we_g, we_gf, we_v, wea_v, we_tup, we_lst, we_bin, we_neg, we_not, we_cmp, we_chain, we_and, we_or, we_ite, we_idx, we_sl, wt_no, wt_v, wt_k, wt_bin, wt_neg, wt_idx, we_callG, we_prim, we_meth, we_isi, we_comp, wea_gf, wea_lam0, wea_lam1, we_lam0, we_hcall, wa_nil, wa_cons, waa_nil, waa_cons, wg_tn, wg_tt, wg_tsub, wgs_nil, wgs_cons, gsNil_nil, wi_iv, wi_ir1, wi_ir2, wi_ien, wi_izip, wi_izl, ws_asg, ws_par, ws_ex, ws_ret, ws_retN, ws_pass, ws_brk, ws_iff, ws_forr, ws_raise, wss_nil, wss_cons, wtru_eq, wp_ok, wp_exc, wp_oth_some, wea_k, wea_g, wea_tup, wea_lst, wea_bin, wea_neg, wea_not, wea_cmp, wea_chain, wea_and, wea_or, wea_ite, wea_idx, wea_sl, wea_call, wea_prim, wea_meth, wea_isi, wea_comp, slotD_z, slotD_s, slotA_z, slotA_s, newTup0, newTup1, newTup2, newTup3, newTup4, tr_non, tr_bl, tr_int, tr_tup, len_tup, atI0, atI1, idx_tup, it_tup, un_tup, int_of, lt_int, le_int, gt_int, ge_int, cmp_eq, cmp_ne, cmp_is, cmp_isnot, eqD_int, eqD_bl, lt_tup, List.set_cons_succ, List.set_cons_zero, startD, List.map_cons, List.map_nil, List.length_cons, List.length_nil, Nat.zero_add, Nat.reduceAdd, Nat.reduceSub, Nat.sub_self, List.replicate_succ, List.replicate_zero, List.cons_append, List.nil_append, Option.map_some, Kst.d, if_true, if_false, Bool.false_eq_true, wp_add_int, wp_sub_int, isiA, calA]
  refine w_need_stands (k := k) (by omega) rfl ?_
  rw [if_pos hs]
  exact w_has_nesting hW (by omega) hv h
theorem w_law_is_nesting (hW : m < W) (hn : 17 ≤ n) (hv : Val k m st v) (h : Q (.bl (isN stands v)) st) : wp (callN prog W n (.d (.fn 28)) [.d (.int stands), .d v] st) Q E := by
  obtain ⟨n, rfl⟩ : ∃ m, n = m + 1 := ⟨n - 1, by omega⟩
  rw [wp_fn (d := ⟨2, 3, c__law_is_nesting⟩) rfl rfl]
  simp -implicitDefEqProofs only [c__law_is_nesting, wpS_sbnd, we_k, we_g, we_gf, we_v, wea_v, we_tup, we_lst, we_bin, we_neg, we_not, we_cmp, we_chain, we_and, we_or, we_ite, we_idx, we_sl, wt_no, wt_v, wt_k, wt_bin, wt_neg, wt_idx, we_callG, we_prim, we_meth, we_isi, we_comp, wea_gf, wea_lam0, wea_lam1, we_lam0, we_hcall, wa_nil, wa_cons, waa_nil, waa_cons, wg_tn, wg_tt, wg_tsub, wgs_nil, wgs_cons, gsNil_nil, wi_iv, wi_ir1, wi_ir2, wi_ien, wi_izip, wi_izl, ws_asg, ws_par, ws_ex, ws_ret, ws_retN, ws_pass, ws_brk, ws_iff, ws_forr, ws_raise, wss_nil, wss_cons, wtru_eq, wp_ok, wp_exc, wp_oth_some, wea_k, wea_g, wea_tup, wea_lst, wea_bin, wea_neg, wea_not, wea_cmp, wea_chain, wea_and, wea_or, wea_ite, wea_idx, wea_sl, wea_call, wea_prim, wea_meth, wea_isi, wea_comp, slotD_z, slotD_s, slotA_z, slotA_s, newTup0, newTup1, newTup2, newTup3, newTup4, tr_non, tr_bl, tr_int, tr_tup, len_tup, atI0, atI1, idx_tup, it_tup, un_tup, int_of, lt_int, le_int, gt_int, ge_int, cmp_eq, cmp_ne, cmp_is, cmp_isnot, eqD_int, eqD_bl, lt_tup, List.set_cons_succ, List.set_cons_zero, startD, List.map_cons, List.map_nil, List.length_cons, List.length_nil, Nat.zero_add, Nat.reduceAdd, Nat.reduceSub, Nat.sub_self, List.replicate_succ, List.replicate_zero, List.cons_append, List.nil_append, Option.map_some, Kst.d, if_true, if_false, Bool.false_eq_true, wp_add_int, wp_sub_int, isiA, calA]
  refine w_good hW 12 n v _ (by omega) hv ?_
  unfold isN at h
  rw [shape_eq] at h
  cases e : nb stands 12 v with
  | none =>
    rw [e] at h
    simpa -implicitDefEqProofs only [optI, isD, wpS_sbnd, we_k, we_g, we_gf, we_v, wea_v, we_tup, we_lst, we_bin, we_neg, we_not, we_cmp, we_chain, we_and, we_or, we_ite, we_idx, we_sl, wt_no, wt_v, wt_k, wt_bin, wt_neg, wt_idx, we_callG, we_prim, we_meth, we_isi, we_comp, wea_gf, wea_lam0, wea_lam1, we_lam0, we_hcall, wa_nil, wa_cons, waa_nil, waa_cons, wg_tn, wg_tt, wg_tsub, wgs_nil, wgs_cons, gsNil_nil, wi_iv, wi_ir1, wi_ir2, wi_ien, wi_izip, wi_izl, ws_asg, ws_par, ws_ex, ws_ret, ws_retN, ws_pass, ws_brk, ws_iff, ws_forr, ws_raise, wss_nil, wss_cons, wtru_eq, wp_ok, wp_exc, wp_oth_some, wea_k, wea_g, wea_tup, wea_lst, wea_bin, wea_neg, wea_not, wea_cmp, wea_chain, wea_and, wea_or, wea_ite, wea_idx, wea_sl, wea_call, wea_prim, wea_meth, wea_isi, wea_comp, slotD_z, slotD_s, slotA_z, slotA_s, newTup0, newTup1, newTup2, newTup3, newTup4, tr_non, tr_bl, tr_int, tr_tup, len_tup, atI0, atI1, idx_tup, it_tup, un_tup, int_of, lt_int, le_int, gt_int, ge_int, cmp_eq, cmp_ne, cmp_is, cmp_isnot, eqD_int, eqD_bl, lt_tup, List.set_cons_succ, List.set_cons_zero, startD, List.map_cons, List.map_nil, List.length_cons, List.length_nil, Nat.zero_add, Nat.reduceAdd, Nat.reduceSub, Nat.sub_self, List.replicate_succ, List.replicate_zero, List.cons_append, List.nil_append, Option.map_some, Kst.d, if_true, if_false, Bool.false_eq_true, wp_add_int, wp_sub_int, isiA, calA, Bool.not_true, Option.isSome_none, le60] using h
  | some c =>
    rw [e] at h
    simp -implicitDefEqProofs only [optI, isD, wpS_sbnd, we_k, we_g, we_gf, we_v, wea_v, we_tup, we_lst, we_bin, we_neg, we_not, we_cmp, we_chain, we_and, we_or, we_ite, we_idx, we_sl, wt_no, wt_v, wt_k, wt_bin, wt_neg, wt_idx, we_callG, we_prim, we_meth, we_isi, we_comp, wea_gf, wea_lam0, wea_lam1, we_lam0, we_hcall, wa_nil, wa_cons, waa_nil, waa_cons, wg_tn, wg_tt, wg_tsub, wgs_nil, wgs_cons, gsNil_nil, wi_iv, wi_ir1, wi_ir2, wi_ien, wi_izip, wi_izl, ws_asg, ws_par, ws_ex, ws_ret, ws_retN, ws_pass, ws_brk, ws_iff, ws_forr, ws_raise, wss_nil, wss_cons, wtru_eq, wp_ok, wp_exc, wp_oth_some, wea_k, wea_g, wea_tup, wea_lst, wea_bin, wea_neg, wea_not, wea_cmp, wea_chain, wea_and, wea_or, wea_ite, wea_idx, wea_sl, wea_call, wea_prim, wea_meth, wea_isi, wea_comp, slotD_z, slotD_s, slotA_z, slotA_s, newTup0, newTup1, newTup2, newTup3, newTup4, tr_non, tr_bl, tr_int, tr_tup, len_tup, atI0, atI1, idx_tup, it_tup, un_tup, int_of, lt_int, le_int, gt_int, ge_int, cmp_eq, cmp_ne, cmp_is, cmp_isnot, eqD_int, eqD_bl, lt_tup, List.set_cons_succ, List.set_cons_zero, startD, List.map_cons, List.map_nil, List.length_cons, List.length_nil, Nat.zero_add, Nat.reduceAdd, Nat.reduceSub, Nat.sub_self, List.replicate_succ, List.replicate_zero, List.cons_append, List.nil_append, Option.map_some, Kst.d, if_true, if_false, Bool.false_eq_true, wp_add_int, wp_sub_int, isiA, calA, Bool.not_false]
    by_cases h1 : c ≤ 60
    · simpa only [le60, h1, if_true, Option.isSome_some, decide_true] using h
    · simpa only [le60, h1, if_false, Option.isSome_none, decide_false] using h
theorem w_truly {a b : Bool} (h : Q (.bl (a == b)) st) : wp (callN prog W (n + 1) (.d (.fn 16)) [.d (.bl a), .d (.bl b)] st) Q E := by
  rw [wp_fn (d := ⟨2, 2, c__law_truly⟩) rfl rfl]
  simp -implicitDefEqProofs only [c__law_truly, wpS_sbnd, we_k, we_g, we_gf, we_v, wea_v, we_tup, we_lst, we_bin, we_neg, we_not, we_cmp, we_chain, we_and, we_or, we_ite, we_idx, we_sl, wt_no, wt_v, wt_k, wt_bin, wt_neg, wt_idx, we_callG, we_prim, we_meth, we_isi, we_comp, wea_gf, wea_lam0, wea_lam1, we_lam0, we_hcall, wa_nil, wa_cons, waa_nil, waa_cons, wg_tn, wg_tt, wg_tsub, wgs_nil, wgs_cons, gsNil_nil, wi_iv, wi_ir1, wi_ir2, wi_ien, wi_izip, wi_izl, ws_asg, ws_par, ws_ex, ws_ret, ws_retN, ws_pass, ws_brk, ws_iff, ws_forr, ws_raise, wss_nil, wss_cons, wtru_eq, wp_ok, wp_exc, wp_oth_some, wea_k, wea_g, wea_tup, wea_lst, wea_bin, wea_neg, wea_not, wea_cmp, wea_chain, wea_and, wea_or, wea_ite, wea_idx, wea_sl, wea_call, wea_prim, wea_meth, wea_isi, wea_comp, slotD_z, slotD_s, slotA_z, slotA_s, newTup0, newTup1, newTup2, newTup3, newTup4, tr_non, tr_bl, tr_int, tr_tup, len_tup, atI0, atI1, idx_tup, it_tup, un_tup, int_of, lt_int, le_int, gt_int, ge_int, cmp_eq, cmp_ne, cmp_is, cmp_isnot, eqD_int, eqD_bl, lt_tup, List.set_cons_succ, List.set_cons_zero, startD, List.map_cons, List.map_nil, List.length_cons, List.length_nil, Nat.zero_add, Nat.reduceAdd, Nat.reduceSub, Nat.sub_self, List.replicate_succ, List.replicate_zero, List.cons_append, List.nil_append, Option.map_some, Kst.d, if_true, if_false, Bool.false_eq_true, wp_add_int, wp_sub_int, isiA, calA, isiD]
  exact h
end
end K01

set_option Elab.async false
set_option linter.all false
set_option maxRecDepth 100000
/-! law k01: nestings as rows. -/
namespace K01
open PF
/-- rows: a box (its stand, what is within), then the rest -/
inductive Rw where
  | nil
  | cons (s : Int) (i r : Rw)
def rowDs : Rw → List D
  | .nil => []
  | .cons s i r => .tup [.int s, .tup (rowDs i)] :: rowDs r
abbrev rowD (r : Rw) : D := .tup (rowDs r)
def sz : Rw → Nat
  | .nil => 0
  | .cons _ i r => 1 + sz i + sz r
def dp : Rw → Nat
  | .nil => 0
  | .cons _ i r => max (1 + dp i) (dp r)
def ok (stands : Int) : Rw → Prop
  | .nil => True
  | .cons s i r => 0 ≤ s ∧ s < stands ∧ ok stands i ∧ ok stands r
theorem row_len : ∀ r : Rw, (rowDs r).length ≤ sz r
  | .nil => Nat.le_refl _
  | .cons _ i r => by
    have := row_len r
    simp only [rowDs, List.length_cons, sz]
    omega
theorem row_nil {r : Rw} (h : rowDs r = []) : r = .nil := by cases r <;> first | rfl | cases h
theorem row_cons {r : Rw} {d : D} {ds : List D} (h : rowDs r = d :: ds) : ∃ s i r', r = .cons s i r' ∧ d = .tup [.int s, rowD i] ∧ ds = rowDs r' := by
  cases r with
  | nil => cases h
  | cons s i r' => cases h; exact ⟨s, i, r', rfl, rfl, rfl⟩
theorem dp_zero {r : Rw} (h : dp r ≤ 0) : r = .nil := by
  cases r with
  | nil => rfl
  | cons s i r => simp only [dp] at h; omega
theorem val_row {k m : Nat} {st : Store} : ∀ {r : Rw}, sz r ≤ m → 2 ≤ m → Val k m st (rowD r)
  | .nil, _, _ => ⟨rfl, by simp [sm, sms, rowDs]⟩
  | .cons s i r, h, h2 => by
    have hl := row_len (.cons s i r)
    simp only [sz] at h hl
    have h1 := val_row (k := k) (st := st) (m := m) (r := i) (by omega) h2
    have h3 := val_tup.mp (val_row (k := k) (st := st) (m := m) (r := r) (by omega) h2)
    refine val_tup.mpr ⟨by omega, fun d hd => ?_⟩
    simp only [rowDs, List.mem_cons] at hd
    rcases hd with e | e
    · subst e
      refine val_tup.mpr ⟨by simpa using h2, fun d hd => ?_⟩
      simp only [List.mem_cons, List.not_mem_nil, or_false] at hd
      rcases hd with e | e
      · subst e; exact ⟨rfl, rfl⟩
      · subst e; exact h1
    · exact h3.2 d e
theorem nb_row {stands : Int} : ∀ (deep : Nat) (r : Rw), dp r ≤ deep → ok stands r → nb stands deep (rowD r) = some ((sz r : Nat) : Int)
  | 0, r, h, _ => by
    rw [dp_zero h]
    rfl
  | deep + 1, r, h, ho => by
    have go : ∀ (r : Rw) (t : Int), dp r ≤ deep + 1 → ok stands r → foldN (nb stands deep) stands t (rowDs r) = some (t + ((sz r : Nat) : Int)) := by
      intro r
      induction r with
      | nil => intro t _ _; simp [rowDs, foldN, sz]
      | cons s i r _ ih2 =>
        intro t h ho
        simp only [dp] at h
        obtain ⟨o1, o2, o3, o4⟩ := ho
        have hw : whole (.int s) 0 (stands - 1) = true := by
          simp only [whole, Bool.and_eq_true, decide_eq_true_eq]
          omega
        simp only [rowDs, foldN, hw, if_true]
        rw [nb_row deep i (by omega) o3]
        show foldN (nb stands deep) stands (t + 1 + ((sz i : Nat) : Int)) (rowDs r) = _
        rw [ih2 _ (by omega) o4]
        simp only [sz]
        congr 1
        omega
    have := go r 0 h ho
    simp only [nb]
    rw [this]
    simp
theorem isN_row {stands : Int} {r : Rw} (h1 : sz r ≤ 60) (h2 : dp r ≤ 12) (h3 : ok stands r) : isN stands (rowD r) = true := by
  unfold isN
  rw [shape_eq, nb_row 12 r h2 h3]
  simp only [le60]
  rw [if_pos (by omega)]
  rfl
/-! ### more of the store -/
/-- all lists stay -/
def Ex (st st' : Store) : Prop := st.length ≤ st'.length ∧ ∀ i ds, listAt st i = some ds → listAt st' i = some ds
theorem Ex.refl (st : Store) : Ex st st := ⟨Nat.le_refl _, fun _ _ h => h⟩
theorem Ex.trans {a b c : Store} (h1 : Ex a b) (h2 : Ex b c) : Ex a c := ⟨Nat.le_trans h1.1 h2.1, fun i ds h => h2.2 i ds (h1.2 i ds h)⟩
theorem Ex.app (st r : Store) : Ex st (st ++ r) := ⟨by simp, fun i ds h => listAt_app h⟩
theorem Ex.fr {st st' : Store} (h : Ex st st') (k : Nat) : Fr k st st' := ⟨h.1, fun i ds _ e => h.2 i ds e⟩
theorem intsOf_map : ∀ is : List Int, intsOf (is.map D.int) = some is
  | [] => rfl
  | i :: is => by simp [intsOf, intsOf_map is]
theorem sum_lst {st : Store} {n : Nat} {is : List Int} (h : listAt st n = some (is.map D.int)) : primD st .sumL [.loc n] = .ok (.int is.sum) st := by
  simp only [primD, p1, intLs, h, Option.bind_some, intsOf_map, Option.map_some]
  rfl
theorem max_lst {st : Store} {n : Nat} {a : Int} {is : List Int} (h : listAt st n = some ((a :: is).map D.int)) : primD st .maxL [.loc n] = .ok (.int (maxI (a :: is))) st := by
  simp only [primD, p1, intLs, h, Option.bind_some, intsOf_map, some1, Option.map_some]
  rfl
theorem lim_le {a : Nat} (h : a ≤ 100000) : a ≤ LIM := Nat.le_trans h (by decide)
theorem wp_maxL {st : Store} {n : Nat} {a : Int} {is : List Int} {Q : D → Store → Prop} {E : Xn → Store → Prop} (h : listAt st n = some ((a :: is).map D.int)) (q : Q (.int (maxI (a :: is))) st) : wp (primD st .maxL [.loc n]) Q E := by
  rw [max_lst h]
  exact q
section
variable {W k m : Nat}
theorem w_boxes_in (hW : 1000 < W) : ∀ (d n : Nat) (r : Rw) (st : Store) (Q : D → Store → Prop) (E : Xn → Store → Prop), dp r ≤ d → sz r ≤ 1000 → d + 1 ≤ n → (∀ st', Ex st st' → Q (.int (sz r)) st') → wp (callN prog W n (.d (.fn 3)) [.d (rowD r)] st) Q E := by
  intro d
  induction d with
  | zero =>
    intro n r st Q E hd hz hn h
    obtain ⟨n, rfl⟩ : ∃ m, n = m + 1 := ⟨n - 1, by omega⟩
    rw [dp_zero hd] at h ⊢
    rw [wp_fn (d := ⟨1, 3, c_boxes_in⟩) rfl rfl]
    simp -implicitDefEqProofs only [c_boxes_in, wpS_sbnd, we_k, we_g, we_gf, we_v, wea_v, we_tup, we_lst, we_bin, we_neg, we_not, we_cmp, we_chain, we_and, we_or, we_ite, we_idx, we_sl, wt_no, wt_v, wt_k, wt_bin, wt_neg, wt_idx, we_callG, we_prim, we_meth, we_isi, we_comp, wea_gf, wea_lam0, wea_lam1, we_lam0, we_hcall, wa_nil, wa_cons, waa_nil, waa_cons, wg_tn, wg_tt, wg_tsub, wgs_nil, wgs_cons, gsNil_nil, wi_iv, wi_ir1, wi_ir2, wi_ien, wi_izip, wi_izl, ws_asg, ws_par, ws_ex, ws_ret, ws_retN, ws_pass, ws_brk, ws_iff, ws_forr, ws_raise, wss_nil, wss_cons, wtru_eq, wp_ok, wp_exc, wp_oth_some, wea_k, wea_g, wea_tup, wea_lst, wea_bin, wea_neg, wea_not, wea_cmp, wea_chain, wea_and, wea_or, wea_ite, wea_idx, wea_sl, wea_call, wea_prim, wea_meth, wea_isi, wea_comp, slotD_z, slotD_s, slotA_z, slotA_s, newTup0, newTup1, newTup2, newTup3, newTup4, tr_non, tr_bl, tr_int, tr_tup, len_tup, atI0, atI1, idx_tup, it_tup, un_tup, int_of, lt_int, le_int, gt_int, ge_int, cmp_eq, cmp_ne, cmp_is, cmp_isnot, eqD_int, eqD_bl, lt_tup, List.set_cons_succ, List.set_cons_zero, startD, List.map_cons, List.map_nil, List.length_cons, List.length_nil, Nat.zero_add, Nat.reduceAdd, Nat.reduceSub, Nat.sub_self, List.replicate_succ, List.replicate_zero, List.cons_append, List.nil_append, Option.map_some, Kst.d, if_true, if_false, Bool.false_eq_true, wp_add_int, wp_sub_int, isiA, calA]
    refine comp_tup (fun rem acc st' => rem = [] ∧ acc = [] ∧ st' = st) (by show 0 < W; omega) ⟨rfl, rfl, rfl⟩ (fun d r acc st' ⟨e, _⟩ => by cases e) fun out st' ⟨_, e1, e2⟩ => ?_
    subst e1 e2
    refine wp_newList (lim_le (by decide)) ?_
    rw [sum_lst (is := []) (listAt_new st' [])]
    exact h _ (Ex.app _ _)
  | succ d ih =>
    intro n r st Q E hd hz hn h
    obtain ⟨n, rfl⟩ : ∃ m, n = m + 1 := ⟨n - 1, by omega⟩
    rw [wp_fn (d := ⟨1, 3, c_boxes_in⟩) rfl rfl]
    simp -implicitDefEqProofs only [c_boxes_in, wpS_sbnd, we_k, we_g, we_gf, we_v, wea_v, we_tup, we_lst, we_bin, we_neg, we_not, we_cmp, we_chain, we_and, we_or, we_ite, we_idx, we_sl, wt_no, wt_v, wt_k, wt_bin, wt_neg, wt_idx, we_callG, we_prim, we_meth, we_isi, we_comp, wea_gf, wea_lam0, wea_lam1, we_lam0, we_hcall, wa_nil, wa_cons, waa_nil, waa_cons, wg_tn, wg_tt, wg_tsub, wgs_nil, wgs_cons, gsNil_nil, wi_iv, wi_ir1, wi_ir2, wi_ien, wi_izip, wi_izl, ws_asg, ws_par, ws_ex, ws_ret, ws_retN, ws_pass, ws_brk, ws_iff, ws_forr, ws_raise, wss_nil, wss_cons, wtru_eq, wp_ok, wp_exc, wp_oth_some, wea_k, wea_g, wea_tup, wea_lst, wea_bin, wea_neg, wea_not, wea_cmp, wea_chain, wea_and, wea_or, wea_ite, wea_idx, wea_sl, wea_call, wea_prim, wea_meth, wea_isi, wea_comp, slotD_z, slotD_s, slotA_z, slotA_s, newTup0, newTup1, newTup2, newTup3, newTup4, tr_non, tr_bl, tr_int, tr_tup, len_tup, atI0, atI1, idx_tup, it_tup, un_tup, int_of, lt_int, le_int, gt_int, ge_int, cmp_eq, cmp_ne, cmp_is, cmp_isnot, eqD_int, eqD_bl, lt_tup, List.set_cons_succ, List.set_cons_zero, startD, List.map_cons, List.map_nil, List.length_cons, List.length_nil, Nat.zero_add, Nat.reduceAdd, Nat.reduceSub, Nat.sub_self, List.replicate_succ, List.replicate_zero, List.cons_append, List.nil_append, Option.map_some, Kst.d, if_true, if_false, Bool.false_eq_true, wp_add_int, wp_sub_int, isiA, calA]
    have hl := row_len r
    refine comp_tup (fun rem acc st' => ∃ r' is, rem = rowDs r' ∧ Ex st st' ∧ dp r' ≤ d + 1 ∧ sz r' ≤ 1000 ∧ acc = is.map D.int ∧ is.sum + ((sz r' : Nat) : Int) = ((sz r : Nat) : Int) ∧ is.length + rem.length = (rowDs r).length) (by omega) ⟨r, [], rfl, Ex.refl _, hd, hz, rfl, by simp, by simp⟩ (fun x rem acc st' ⟨r', is, e1, e2, e3, e4, e5, e6, e7⟩ => ?_) fun out st' ⟨r', is, e1, e2, e3, e4, e5, e6, e7⟩ => ?_
    · obtain ⟨s, i, r2, rfl, rfl, rfl⟩ := row_cons e1.symm
      simp only [dp, sz] at e3 e4 e6
      simp -implicitDefEqProofs only [wp_turn, wpS_sbnd, we_k, we_g, we_gf, we_v, wea_v, we_tup, we_lst, we_bin, we_neg, we_not, we_cmp, we_chain, we_and, we_or, we_ite, we_idx, we_sl, wt_no, wt_v, wt_k, wt_bin, wt_neg, wt_idx, we_callG, we_prim, we_meth, we_isi, we_comp, wea_gf, wea_lam0, wea_lam1, we_lam0, we_hcall, wa_nil, wa_cons, waa_nil, waa_cons, wg_tn, wg_tt, wg_tsub, wgs_nil, wgs_cons, gsNil_nil, wi_iv, wi_ir1, wi_ir2, wi_ien, wi_izip, wi_izl, ws_asg, ws_par, ws_ex, ws_ret, ws_retN, ws_pass, ws_brk, ws_iff, ws_forr, ws_raise, wss_nil, wss_cons, wtru_eq, wp_ok, wp_exc, wp_oth_some, wea_k, wea_g, wea_tup, wea_lst, wea_bin, wea_neg, wea_not, wea_cmp, wea_chain, wea_and, wea_or, wea_ite, wea_idx, wea_sl, wea_call, wea_prim, wea_meth, wea_isi, wea_comp, slotD_z, slotD_s, slotA_z, slotA_s, newTup0, newTup1, newTup2, newTup3, newTup4, tr_non, tr_bl, tr_int, tr_tup, len_tup, atI0, atI1, idx_tup, it_tup, un_tup, int_of, lt_int, le_int, gt_int, ge_int, cmp_eq, cmp_ne, cmp_is, cmp_isnot, eqD_int, eqD_bl, lt_tup, List.set_cons_succ, List.set_cons_zero, startD, List.map_cons, List.map_nil, List.length_cons, List.length_nil, Nat.zero_add, Nat.reduceAdd, Nat.reduceSub, Nat.sub_self, List.replicate_succ, List.replicate_zero, List.cons_append, List.nil_append, Option.map_some, Kst.d, if_true, if_false, Bool.false_eq_true, wp_add_int, wp_sub_int, isiA, calA, wipe]
      refine ih n i st' _ _ (by omega) (by omega) (by omega) fun st2 x2 => ?_
      simp -implicitDefEqProofs only [wpS_sbnd, we_k, we_g, we_gf, we_v, wea_v, we_tup, we_lst, we_bin, we_neg, we_not, we_cmp, we_chain, we_and, we_or, we_ite, we_idx, we_sl, wt_no, wt_v, wt_k, wt_bin, wt_neg, wt_idx, we_callG, we_prim, we_meth, we_isi, we_comp, wea_gf, wea_lam0, wea_lam1, we_lam0, we_hcall, wa_nil, wa_cons, waa_nil, waa_cons, wg_tn, wg_tt, wg_tsub, wgs_nil, wgs_cons, gsNil_nil, wi_iv, wi_ir1, wi_ir2, wi_ien, wi_izip, wi_izl, ws_asg, ws_par, ws_ex, ws_ret, ws_retN, ws_pass, ws_brk, ws_iff, ws_forr, ws_raise, wss_nil, wss_cons, wtru_eq, wp_ok, wp_exc, wp_oth_some, wea_k, wea_g, wea_tup, wea_lst, wea_bin, wea_neg, wea_not, wea_cmp, wea_chain, wea_and, wea_or, wea_ite, wea_idx, wea_sl, wea_call, wea_prim, wea_meth, wea_isi, wea_comp, slotD_z, slotD_s, slotA_z, slotA_s, newTup0, newTup1, newTup2, newTup3, newTup4, tr_non, tr_bl, tr_int, tr_tup, len_tup, atI0, atI1, idx_tup, it_tup, un_tup, int_of, lt_int, le_int, gt_int, ge_int, cmp_eq, cmp_ne, cmp_is, cmp_isnot, eqD_int, eqD_bl, lt_tup, List.set_cons_succ, List.set_cons_zero, startD, List.map_cons, List.map_nil, List.length_cons, List.length_nil, Nat.zero_add, Nat.reduceAdd, Nat.reduceSub, Nat.sub_self, List.replicate_succ, List.replicate_zero, List.cons_append, List.nil_append, Option.map_some, Kst.d, if_true, if_false, Bool.false_eq_true, wp_add_int, wp_sub_int, isiA, calA]
      refine ⟨r2, is ++ [1 + (sz i : Int)], rfl, e2.trans x2, by omega, by omega, by simp [e5], ?_, ?_⟩
      · simp only [List.sum_append, List.sum_cons, List.sum_nil]
        omega
      · simp only [List.length_append, List.length_cons, List.length_nil] at e7 ⊢
        omega
    · have := row_nil e1.symm
      subst this
      subst e5
      refine wp_newList (lim_le (by simp at e7 ⊢; omega)) ?_
      rw [sum_lst (listAt_new _ _)]
      simp only [sz] at e6
      have e6 : is.sum = sz r := by omega
      rw [e6]
      exact h _ (e2.trans (Ex.app _ _))
theorem w_depth_of (hW : 1000 < W) : ∀ (d n : Nat) (r : Rw) (st : Store) (Q : D → Store → Prop) (E : Xn → Store → Prop), dp r ≤ d → sz r ≤ 1000 → d + 1 ≤ n → (∀ st', Ex st st' → Q (.int (dp r)) st') → wp (callN prog W n (.d (.fn 4)) [.d (rowD r)] st) Q E := by
  intro d
  induction d with
  | zero =>
    intro n r st Q E hd hz hn h
    obtain ⟨n, rfl⟩ : ∃ m, n = m + 1 := ⟨n - 1, by omega⟩
    rw [dp_zero hd] at h ⊢
    rw [wp_fn (d := ⟨1, 3, c_depth_of⟩) rfl rfl]
    simp -implicitDefEqProofs only [c_depth_of, wpS_sbnd, we_k, we_g, we_gf, we_v, wea_v, we_tup, we_lst, we_bin, we_neg, we_not, we_cmp, we_chain, we_and, we_or, we_ite, we_idx, we_sl, wt_no, wt_v, wt_k, wt_bin, wt_neg, wt_idx, we_callG, we_prim, we_meth, we_isi, we_comp, wea_gf, wea_lam0, wea_lam1, we_lam0, we_hcall, wa_nil, wa_cons, waa_nil, waa_cons, wg_tn, wg_tt, wg_tsub, wgs_nil, wgs_cons, gsNil_nil, wi_iv, wi_ir1, wi_ir2, wi_ien, wi_izip, wi_izl, ws_asg, ws_par, ws_ex, ws_ret, ws_retN, ws_pass, ws_brk, ws_iff, ws_forr, ws_raise, wss_nil, wss_cons, wtru_eq, wp_ok, wp_exc, wp_oth_some, wea_k, wea_g, wea_tup, wea_lst, wea_bin, wea_neg, wea_not, wea_cmp, wea_chain, wea_and, wea_or, wea_ite, wea_idx, wea_sl, wea_call, wea_prim, wea_meth, wea_isi, wea_comp, slotD_z, slotD_s, slotA_z, slotA_s, newTup0, newTup1, newTup2, newTup3, newTup4, tr_non, tr_bl, tr_int, tr_tup, len_tup, atI0, atI1, idx_tup, it_tup, un_tup, int_of, lt_int, le_int, gt_int, ge_int, cmp_eq, cmp_ne, cmp_is, cmp_isnot, eqD_int, eqD_bl, lt_tup, List.set_cons_succ, List.set_cons_zero, startD, List.map_cons, List.map_nil, List.length_cons, List.length_nil, Nat.zero_add, Nat.reduceAdd, Nat.reduceSub, Nat.sub_self, List.replicate_succ, List.replicate_zero, List.cons_append, List.nil_append, Option.map_some, Kst.d, if_true, if_false, Bool.false_eq_true, wp_add_int, wp_sub_int, isiA, calA]
    refine wp_newList (lim_le (by decide)) ?_
    refine comp_tup (fun rem acc st' => rem = [] ∧ acc = [] ∧ st' = st ++ [.lst [.int 0]]) (by show 0 < W; omega) ⟨rfl, rfl, rfl⟩ (fun d r acc st' ⟨e, _⟩ => by cases e) fun out st' ⟨_, e1, e2⟩ => ?_
    subst e1 e2
    refine wp_newList (lim_le (by decide)) ?_
    refine wp_add_lst (listAt_app (listAt_new _ _)) (listAt_new _ _) (lim_le (by decide)) ?_
    refine wp_maxL (a := 0) (is := []) (listAt_new _ _) ?_
    exact h _ (((Ex.app _ _).trans (Ex.app _ _)).trans (Ex.app _ _))
  | succ d ih =>
    intro n r st Q E hd hz hn h
    obtain ⟨n, rfl⟩ : ∃ m, n = m + 1 := ⟨n - 1, by omega⟩
    rw [wp_fn (d := ⟨1, 3, c_depth_of⟩) rfl rfl]
    simp -implicitDefEqProofs only [c_depth_of, wpS_sbnd, we_k, we_g, we_gf, we_v, wea_v, we_tup, we_lst, we_bin, we_neg, we_not, we_cmp, we_chain, we_and, we_or, we_ite, we_idx, we_sl, wt_no, wt_v, wt_k, wt_bin, wt_neg, wt_idx, we_callG, we_prim, we_meth, we_isi, we_comp, wea_gf, wea_lam0, wea_lam1, we_lam0, we_hcall, wa_nil, wa_cons, waa_nil, waa_cons, wg_tn, wg_tt, wg_tsub, wgs_nil, wgs_cons, gsNil_nil, wi_iv, wi_ir1, wi_ir2, wi_ien, wi_izip, wi_izl, ws_asg, ws_par, ws_ex, ws_ret, ws_retN, ws_pass, ws_brk, ws_iff, ws_forr, ws_raise, wss_nil, wss_cons, wtru_eq, wp_ok, wp_exc, wp_oth_some, wea_k, wea_g, wea_tup, wea_lst, wea_bin, wea_neg, wea_not, wea_cmp, wea_chain, wea_and, wea_or, wea_ite, wea_idx, wea_sl, wea_call, wea_prim, wea_meth, wea_isi, wea_comp, slotD_z, slotD_s, slotA_z, slotA_s, newTup0, newTup1, newTup2, newTup3, newTup4, tr_non, tr_bl, tr_int, tr_tup, len_tup, atI0, atI1, idx_tup, it_tup, un_tup, int_of, lt_int, le_int, gt_int, ge_int, cmp_eq, cmp_ne, cmp_is, cmp_isnot, eqD_int, eqD_bl, lt_tup, List.set_cons_succ, List.set_cons_zero, startD, List.map_cons, List.map_nil, List.length_cons, List.length_nil, Nat.zero_add, Nat.reduceAdd, Nat.reduceSub, Nat.sub_self, List.replicate_succ, List.replicate_zero, List.cons_append, List.nil_append, Option.map_some, Kst.d, if_true, if_false, Bool.false_eq_true, wp_add_int, wp_sub_int, isiA, calA]
    have hl := row_len r
    refine wp_newList (lim_le (by decide)) ?_
    refine comp_tup (fun rem acc st' => ∃ r' is, rem = rowDs r' ∧ Ex (st ++ [.lst [.int 0]]) st' ∧ dp r' ≤ dp r ∧ sz r' ≤ 1000 ∧ acc = is.map D.int ∧ (∀ x ∈ is, x ≤ ((dp r : Nat) : Int)) ∧ (dp r = 0 ∨ ((dp r : Nat) : Int) ∈ is ∨ dp r = dp r') ∧ is.length + rem.length = (rowDs r).length) (by omega) ⟨r, [], rfl, Ex.refl _, Nat.le_refl _, hz, rfl, by simp, .inr (.inr rfl), by simp⟩ (fun x rem acc st' ⟨r', is, e1, e2, e3, e4, e5, e6, e8, e7⟩ => ?_) fun out st' ⟨r', is, e1, e2, e3, e4, e5, e6, e8, e7⟩ => ?_
    · obtain ⟨s, i, r2, rfl, rfl, rfl⟩ := row_cons e1.symm
      simp only [dp, sz] at e3 e4 e8
      simp -implicitDefEqProofs only [wp_turn, wpS_sbnd, we_k, we_g, we_gf, we_v, wea_v, we_tup, we_lst, we_bin, we_neg, we_not, we_cmp, we_chain, we_and, we_or, we_ite, we_idx, we_sl, wt_no, wt_v, wt_k, wt_bin, wt_neg, wt_idx, we_callG, we_prim, we_meth, we_isi, we_comp, wea_gf, wea_lam0, wea_lam1, we_lam0, we_hcall, wa_nil, wa_cons, waa_nil, waa_cons, wg_tn, wg_tt, wg_tsub, wgs_nil, wgs_cons, gsNil_nil, wi_iv, wi_ir1, wi_ir2, wi_ien, wi_izip, wi_izl, ws_asg, ws_par, ws_ex, ws_ret, ws_retN, ws_pass, ws_brk, ws_iff, ws_forr, ws_raise, wss_nil, wss_cons, wtru_eq, wp_ok, wp_exc, wp_oth_some, wea_k, wea_g, wea_tup, wea_lst, wea_bin, wea_neg, wea_not, wea_cmp, wea_chain, wea_and, wea_or, wea_ite, wea_idx, wea_sl, wea_call, wea_prim, wea_meth, wea_isi, wea_comp, slotD_z, slotD_s, slotA_z, slotA_s, newTup0, newTup1, newTup2, newTup3, newTup4, tr_non, tr_bl, tr_int, tr_tup, len_tup, atI0, atI1, idx_tup, it_tup, un_tup, int_of, lt_int, le_int, gt_int, ge_int, cmp_eq, cmp_ne, cmp_is, cmp_isnot, eqD_int, eqD_bl, lt_tup, List.set_cons_succ, List.set_cons_zero, startD, List.map_cons, List.map_nil, List.length_cons, List.length_nil, Nat.zero_add, Nat.reduceAdd, Nat.reduceSub, Nat.sub_self, List.replicate_succ, List.replicate_zero, List.cons_append, List.nil_append, Option.map_some, Kst.d, if_true, if_false, Bool.false_eq_true, wp_add_int, wp_sub_int, isiA, calA, wipe]
      refine ih n i st' _ _ (by omega) (by omega) (by omega) fun st2 x2 => ?_
      simp -implicitDefEqProofs only [wpS_sbnd, we_k, we_g, we_gf, we_v, wea_v, we_tup, we_lst, we_bin, we_neg, we_not, we_cmp, we_chain, we_and, we_or, we_ite, we_idx, we_sl, wt_no, wt_v, wt_k, wt_bin, wt_neg, wt_idx, we_callG, we_prim, we_meth, we_isi, we_comp, wea_gf, wea_lam0, wea_lam1, we_lam0, we_hcall, wa_nil, wa_cons, waa_nil, waa_cons, wg_tn, wg_tt, wg_tsub, wgs_nil, wgs_cons, gsNil_nil, wi_iv, wi_ir1, wi_ir2, wi_ien, wi_izip, wi_izl, ws_asg, ws_par, ws_ex, ws_ret, ws_retN, ws_pass, ws_brk, ws_iff, ws_forr, ws_raise, wss_nil, wss_cons, wtru_eq, wp_ok, wp_exc, wp_oth_some, wea_k, wea_g, wea_tup, wea_lst, wea_bin, wea_neg, wea_not, wea_cmp, wea_chain, wea_and, wea_or, wea_ite, wea_idx, wea_sl, wea_call, wea_prim, wea_meth, wea_isi, wea_comp, slotD_z, slotD_s, slotA_z, slotA_s, newTup0, newTup1, newTup2, newTup3, newTup4, tr_non, tr_bl, tr_int, tr_tup, len_tup, atI0, atI1, idx_tup, it_tup, un_tup, int_of, lt_int, le_int, gt_int, ge_int, cmp_eq, cmp_ne, cmp_is, cmp_isnot, eqD_int, eqD_bl, lt_tup, List.set_cons_succ, List.set_cons_zero, startD, List.map_cons, List.map_nil, List.length_cons, List.length_nil, Nat.zero_add, Nat.reduceAdd, Nat.reduceSub, Nat.sub_self, List.replicate_succ, List.replicate_zero, List.cons_append, List.nil_append, Option.map_some, Kst.d, if_true, if_false, Bool.false_eq_true, wp_add_int, wp_sub_int, isiA, calA]
      refine ⟨r2, is ++ [1 + (dp i : Int)], rfl, e2.trans x2, by omega, by omega, by simp [e5], ?_, ?_, ?_⟩
      · intro x hx
        rcases List.mem_append.mp hx with z | z
        · exact e6 x z
        · simp only [List.mem_cons, List.not_mem_nil, or_false] at z
          omega
      · rcases e8 with z | z | z
        · exact .inl z
        · exact .inr (.inl (List.mem_append_left _ z))
        · by_cases q : dp r = dp r2
          · exact .inr (.inr q)
          · refine .inr (.inl (List.mem_append_right _ ?_))
            simp only [List.mem_cons, List.not_mem_nil, or_false]
            omega
      · simp only [List.length_append, List.length_cons, List.length_nil] at e7 ⊢
        omega
    · have := row_nil e1.symm
      subst this
      subst e5
      refine wp_newList (lim_le (by simp at e7 ⊢; omega)) ?_
      refine wp_add_lst (x := [.int 0]) (y := is.map D.int) (listAt_app (e2.2 _ _ (listAt_new _ _))) (listAt_new _ _) (lim_le (by simp at e7 ⊢; omega)) ?_
      refine wp_maxL (a := 0) (is := is) (listAt_new _ _) ?_
      have hm : maxI (0 :: is) = ((dp r : Nat) : Int) := by
        have a := maxI_mem 0 is
        have b := maxI_ge (0 :: is)
        have c : maxI (0 :: is) ≤ ((dp r : Nat) : Int) := by
          rcases List.mem_cons.mp a with z | z
          · omega
          · exact e6 _ z
        have d : ((dp r : Nat) : Int) ≤ maxI (0 :: is) := by
          rcases e8 with z | z | z
          · have := b 0 List.mem_cons_self
            omega
          · exact b _ (List.mem_cons_of_mem _ z)
          · have := b 0 List.mem_cons_self
            simp only [dp] at z
            omega
        omega
      rw [hm]
      exact h _ ((((Ex.app _ _).trans e2).trans (Ex.app _ _)).trans (Ex.app _ _))
theorem w_law_size (hW : 1000 < W) : ∀ (d n : Nat) (r : Rw) (st : Store) (Q : D → Store → Prop) (E : Xn → Store → Prop), dp r ≤ d → sz r ≤ 1000 → d + 1 ≤ n → Q (.int (sz r)) st → wp (callN prog W n (.d (.fn 20)) [.d (rowD r)] st) Q E := by
  intro d
  induction d with
  | zero =>
    intro n r st Q E hd hz hn h
    obtain ⟨n, rfl⟩ : ∃ m, n = m + 1 := ⟨n - 1, by omega⟩
    rw [dp_zero hd] at h ⊢
    rw [wp_fn (d := ⟨1, 4, c__law_size⟩) rfl rfl]
    simp -implicitDefEqProofs only [c__law_size, wpS_sbnd, we_k, we_g, we_gf, we_v, wea_v, we_tup, we_lst, we_bin, we_neg, we_not, we_cmp, we_chain, we_and, we_or, we_ite, we_idx, we_sl, wt_no, wt_v, wt_k, wt_bin, wt_neg, wt_idx, we_callG, we_prim, we_meth, we_isi, we_comp, wea_gf, wea_lam0, wea_lam1, we_lam0, we_hcall, wa_nil, wa_cons, waa_nil, waa_cons, wg_tn, wg_tt, wg_tsub, wgs_nil, wgs_cons, gsNil_nil, wi_iv, wi_ir1, wi_ir2, wi_ien, wi_izip, wi_izl, ws_asg, ws_par, ws_ex, ws_ret, ws_retN, ws_pass, ws_brk, ws_iff, ws_forr, ws_raise, wss_nil, wss_cons, wtru_eq, wp_ok, wp_exc, wp_oth_some, wea_k, wea_g, wea_tup, wea_lst, wea_bin, wea_neg, wea_not, wea_cmp, wea_chain, wea_and, wea_or, wea_ite, wea_idx, wea_sl, wea_call, wea_prim, wea_meth, wea_isi, wea_comp, slotD_z, slotD_s, slotA_z, slotA_s, newTup0, newTup1, newTup2, newTup3, newTup4, tr_non, tr_bl, tr_int, tr_tup, len_tup, atI0, atI1, idx_tup, it_tup, un_tup, int_of, lt_int, le_int, gt_int, ge_int, cmp_eq, cmp_ne, cmp_is, cmp_isnot, eqD_int, eqD_bl, lt_tup, List.set_cons_succ, List.set_cons_zero, startD, List.map_cons, List.map_nil, List.length_cons, List.length_nil, Nat.zero_add, Nat.reduceAdd, Nat.reduceSub, Nat.sub_self, List.replicate_succ, List.replicate_zero, List.cons_append, List.nil_append, Option.map_some, Kst.d, if_true, if_false, Bool.false_eq_true, wp_add_int, wp_sub_int, isiA, calA]
    refine loop_tup (fun rem ρ st' => rem = [] ∧ ρ = [some (.d (rowD .nil)), some (.d (.int 0)), none, none] ∧ st' = st) (by show 0 < W; omega) ⟨rfl, rfl, rfl⟩ (fun d r acc st' ⟨e, _⟩ => by cases e) fun out st' ⟨_, e1, e2⟩ => ?_
    subst e1 e2
    have h : Q (.int 0) st' := h
    simpa -implicitDefEqProofs only [wpS_sbnd, we_k, we_g, we_gf, we_v, wea_v, we_tup, we_lst, we_bin, we_neg, we_not, we_cmp, we_chain, we_and, we_or, we_ite, we_idx, we_sl, wt_no, wt_v, wt_k, wt_bin, wt_neg, wt_idx, we_callG, we_prim, we_meth, we_isi, we_comp, wea_gf, wea_lam0, wea_lam1, we_lam0, we_hcall, wa_nil, wa_cons, waa_nil, waa_cons, wg_tn, wg_tt, wg_tsub, wgs_nil, wgs_cons, gsNil_nil, wi_iv, wi_ir1, wi_ir2, wi_ien, wi_izip, wi_izl, ws_asg, ws_par, ws_ex, ws_ret, ws_retN, ws_pass, ws_brk, ws_iff, ws_forr, ws_raise, wss_nil, wss_cons, wtru_eq, wp_ok, wp_exc, wp_oth_some, wea_k, wea_g, wea_tup, wea_lst, wea_bin, wea_neg, wea_not, wea_cmp, wea_chain, wea_and, wea_or, wea_ite, wea_idx, wea_sl, wea_call, wea_prim, wea_meth, wea_isi, wea_comp, slotD_z, slotD_s, slotA_z, slotA_s, newTup0, newTup1, newTup2, newTup3, newTup4, tr_non, tr_bl, tr_int, tr_tup, len_tup, atI0, atI1, idx_tup, it_tup, un_tup, int_of, lt_int, le_int, gt_int, ge_int, cmp_eq, cmp_ne, cmp_is, cmp_isnot, eqD_int, eqD_bl, lt_tup, List.set_cons_succ, List.set_cons_zero, startD, List.map_cons, List.map_nil, List.length_cons, List.length_nil, Nat.zero_add, Nat.reduceAdd, Nat.reduceSub, Nat.sub_self, List.replicate_succ, List.replicate_zero, List.cons_append, List.nil_append, Option.map_some, Kst.d, if_true, if_false, Bool.false_eq_true, wp_add_int, wp_sub_int, isiA, calA] using h
  | succ d ih =>
    intro n r st Q E hd hz hn h
    obtain ⟨n, rfl⟩ : ∃ m, n = m + 1 := ⟨n - 1, by omega⟩
    rw [wp_fn (d := ⟨1, 4, c__law_size⟩) rfl rfl]
    simp -implicitDefEqProofs only [c__law_size, wpS_sbnd, we_k, we_g, we_gf, we_v, wea_v, we_tup, we_lst, we_bin, we_neg, we_not, we_cmp, we_chain, we_and, we_or, we_ite, we_idx, we_sl, wt_no, wt_v, wt_k, wt_bin, wt_neg, wt_idx, we_callG, we_prim, we_meth, we_isi, we_comp, wea_gf, wea_lam0, wea_lam1, we_lam0, we_hcall, wa_nil, wa_cons, waa_nil, waa_cons, wg_tn, wg_tt, wg_tsub, wgs_nil, wgs_cons, gsNil_nil, wi_iv, wi_ir1, wi_ir2, wi_ien, wi_izip, wi_izl, ws_asg, ws_par, ws_ex, ws_ret, ws_retN, ws_pass, ws_brk, ws_iff, ws_forr, ws_raise, wss_nil, wss_cons, wtru_eq, wp_ok, wp_exc, wp_oth_some, wea_k, wea_g, wea_tup, wea_lst, wea_bin, wea_neg, wea_not, wea_cmp, wea_chain, wea_and, wea_or, wea_ite, wea_idx, wea_sl, wea_call, wea_prim, wea_meth, wea_isi, wea_comp, slotD_z, slotD_s, slotA_z, slotA_s, newTup0, newTup1, newTup2, newTup3, newTup4, tr_non, tr_bl, tr_int, tr_tup, len_tup, atI0, atI1, idx_tup, it_tup, un_tup, int_of, lt_int, le_int, gt_int, ge_int, cmp_eq, cmp_ne, cmp_is, cmp_isnot, eqD_int, eqD_bl, lt_tup, List.set_cons_succ, List.set_cons_zero, startD, List.map_cons, List.map_nil, List.length_cons, List.length_nil, Nat.zero_add, Nat.reduceAdd, Nat.reduceSub, Nat.sub_self, List.replicate_succ, List.replicate_zero, List.cons_append, List.nil_append, Option.map_some, Kst.d, if_true, if_false, Bool.false_eq_true, wp_add_int, wp_sub_int, isiA, calA]
    have hl := row_len r
    refine loop_tup (fun rem ρ st' => st' = st ∧ ∃ r' t a b, rem = rowDs r' ∧ dp r' ≤ d + 1 ∧ sz r' ≤ 1000 ∧ ρ = [some (.d (rowD r)), some (.d (.int t)), a, b] ∧ t + ((sz r' : Nat) : Int) = ((sz r : Nat) : Int)) (by omega) ⟨rfl, r, 0, none, none, rfl, hd, hz, rfl, by simp⟩ (fun x rem ρ st' ⟨e0, r', t, a, b, e1, e3, e4, e5, e6⟩ => ?_) fun ρ st' ⟨e0, r', t, a, b, e1, e3, e4, e5, e6⟩ => ?_
    · subst e0 e5
      obtain ⟨s, i, r2, rfl, rfl, rfl⟩ := row_cons e1.symm
      simp only [dp, sz] at e3 e4 e6
      simp -implicitDefEqProofs only [wpS_sbnd, we_k, we_g, we_gf, we_v, wea_v, we_tup, we_lst, we_bin, we_neg, we_not, we_cmp, we_chain, we_and, we_or, we_ite, we_idx, we_sl, wt_no, wt_v, wt_k, wt_bin, wt_neg, wt_idx, we_callG, we_prim, we_meth, we_isi, we_comp, wea_gf, wea_lam0, wea_lam1, we_lam0, we_hcall, wa_nil, wa_cons, waa_nil, waa_cons, wg_tn, wg_tt, wg_tsub, wgs_nil, wgs_cons, gsNil_nil, wi_iv, wi_ir1, wi_ir2, wi_ien, wi_izip, wi_izl, ws_asg, ws_par, ws_ex, ws_ret, ws_retN, ws_pass, ws_brk, ws_iff, ws_forr, ws_raise, wss_nil, wss_cons, wtru_eq, wp_ok, wp_exc, wp_oth_some, wea_k, wea_g, wea_tup, wea_lst, wea_bin, wea_neg, wea_not, wea_cmp, wea_chain, wea_and, wea_or, wea_ite, wea_idx, wea_sl, wea_call, wea_prim, wea_meth, wea_isi, wea_comp, slotD_z, slotD_s, slotA_z, slotA_s, newTup0, newTup1, newTup2, newTup3, newTup4, tr_non, tr_bl, tr_int, tr_tup, len_tup, atI0, atI1, idx_tup, it_tup, un_tup, int_of, lt_int, le_int, gt_int, ge_int, cmp_eq, cmp_ne, cmp_is, cmp_isnot, eqD_int, eqD_bl, lt_tup, List.set_cons_succ, List.set_cons_zero, startD, List.map_cons, List.map_nil, List.length_cons, List.length_nil, Nat.zero_add, Nat.reduceAdd, Nat.reduceSub, Nat.sub_self, List.replicate_succ, List.replicate_zero, List.cons_append, List.nil_append, Option.map_some, Kst.d, if_true, if_false, Bool.false_eq_true, wp_add_int, wp_sub_int, isiA, calA]
      refine ih n i st' _ _ (by omega) (by omega) (by omega) ?_
      simp -implicitDefEqProofs only [wpS_sbnd, we_k, we_g, we_gf, we_v, wea_v, we_tup, we_lst, we_bin, we_neg, we_not, we_cmp, we_chain, we_and, we_or, we_ite, we_idx, we_sl, wt_no, wt_v, wt_k, wt_bin, wt_neg, wt_idx, we_callG, we_prim, we_meth, we_isi, we_comp, wea_gf, wea_lam0, wea_lam1, we_lam0, we_hcall, wa_nil, wa_cons, waa_nil, waa_cons, wg_tn, wg_tt, wg_tsub, wgs_nil, wgs_cons, gsNil_nil, wi_iv, wi_ir1, wi_ir2, wi_ien, wi_izip, wi_izl, ws_asg, ws_par, ws_ex, ws_ret, ws_retN, ws_pass, ws_brk, ws_iff, ws_forr, ws_raise, wss_nil, wss_cons, wtru_eq, wp_ok, wp_exc, wp_oth_some, wea_k, wea_g, wea_tup, wea_lst, wea_bin, wea_neg, wea_not, wea_cmp, wea_chain, wea_and, wea_or, wea_ite, wea_idx, wea_sl, wea_call, wea_prim, wea_meth, wea_isi, wea_comp, slotD_z, slotD_s, slotA_z, slotA_s, newTup0, newTup1, newTup2, newTup3, newTup4, tr_non, tr_bl, tr_int, tr_tup, len_tup, atI0, atI1, idx_tup, it_tup, un_tup, int_of, lt_int, le_int, gt_int, ge_int, cmp_eq, cmp_ne, cmp_is, cmp_isnot, eqD_int, eqD_bl, lt_tup, List.set_cons_succ, List.set_cons_zero, startD, List.map_cons, List.map_nil, List.length_cons, List.length_nil, Nat.zero_add, Nat.reduceAdd, Nat.reduceSub, Nat.sub_self, List.replicate_succ, List.replicate_zero, List.cons_append, List.nil_append, Option.map_some, Kst.d, if_true, if_false, Bool.false_eq_true, wp_add_int, wp_sub_int, isiA, calA]
      exact ⟨by trivial, r2, _, _, _, rfl, by omega, by omega, rfl, by omega⟩
    · subst e0 e5
      have := row_nil e1.symm
      subst this
      simp only [sz] at e6
      have e6 : t = ((sz r : Nat) : Int) := by omega
      subst e6
      simpa -implicitDefEqProofs only [wpS_sbnd, we_k, we_g, we_gf, we_v, wea_v, we_tup, we_lst, we_bin, we_neg, we_not, we_cmp, we_chain, we_and, we_or, we_ite, we_idx, we_sl, wt_no, wt_v, wt_k, wt_bin, wt_neg, wt_idx, we_callG, we_prim, we_meth, we_isi, we_comp, wea_gf, wea_lam0, wea_lam1, we_lam0, we_hcall, wa_nil, wa_cons, waa_nil, waa_cons, wg_tn, wg_tt, wg_tsub, wgs_nil, wgs_cons, gsNil_nil, wi_iv, wi_ir1, wi_ir2, wi_ien, wi_izip, wi_izl, ws_asg, ws_par, ws_ex, ws_ret, ws_retN, ws_pass, ws_brk, ws_iff, ws_forr, ws_raise, wss_nil, wss_cons, wtru_eq, wp_ok, wp_exc, wp_oth_some, wea_k, wea_g, wea_tup, wea_lst, wea_bin, wea_neg, wea_not, wea_cmp, wea_chain, wea_and, wea_or, wea_ite, wea_idx, wea_sl, wea_call, wea_prim, wea_meth, wea_isi, wea_comp, slotD_z, slotD_s, slotA_z, slotA_s, newTup0, newTup1, newTup2, newTup3, newTup4, tr_non, tr_bl, tr_int, tr_tup, len_tup, atI0, atI1, idx_tup, it_tup, un_tup, int_of, lt_int, le_int, gt_int, ge_int, cmp_eq, cmp_ne, cmp_is, cmp_isnot, eqD_int, eqD_bl, lt_tup, List.set_cons_succ, List.set_cons_zero, startD, List.map_cons, List.map_nil, List.length_cons, List.length_nil, Nat.zero_add, Nat.reduceAdd, Nat.reduceSub, Nat.sub_self, List.replicate_succ, List.replicate_zero, List.cons_append, List.nil_append, Option.map_some, Kst.d, if_true, if_false, Bool.false_eq_true, wp_add_int, wp_sub_int, isiA, calA] using h
theorem w_law_deep (hW : 1000 < W) : ∀ (d n : Nat) (r : Rw) (st : Store) (Q : D → Store → Prop) (E : Xn → Store → Prop), dp r ≤ d → sz r ≤ 1000 → d + 1 ≤ n → (∀ st', Ex st st' → Q (.int (dp r)) st') → wp (callN prog W n (.d (.fn 21)) [.d (rowD r)] st) Q E := by
  intro d
  induction d with
  | zero =>
    intro n r st Q E hd hz hn h
    obtain ⟨n, rfl⟩ : ∃ m, n = m + 1 := ⟨n - 1, by omega⟩
    rw [dp_zero hd] at h ⊢
    rw [wp_fn (d := ⟨1, 3, c__law_deep⟩) rfl rfl]
    simp -implicitDefEqProofs only [c__law_deep, wpS_sbnd, we_k, we_g, we_gf, we_v, wea_v, we_tup, we_lst, we_bin, we_neg, we_not, we_cmp, we_chain, we_and, we_or, we_ite, we_idx, we_sl, wt_no, wt_v, wt_k, wt_bin, wt_neg, wt_idx, we_callG, we_prim, we_meth, we_isi, we_comp, wea_gf, wea_lam0, wea_lam1, we_lam0, we_hcall, wa_nil, wa_cons, waa_nil, waa_cons, wg_tn, wg_tt, wg_tsub, wgs_nil, wgs_cons, gsNil_nil, wi_iv, wi_ir1, wi_ir2, wi_ien, wi_izip, wi_izl, ws_asg, ws_par, ws_ex, ws_ret, ws_retN, ws_pass, ws_brk, ws_iff, ws_forr, ws_raise, wss_nil, wss_cons, wtru_eq, wp_ok, wp_exc, wp_oth_some, wea_k, wea_g, wea_tup, wea_lst, wea_bin, wea_neg, wea_not, wea_cmp, wea_chain, wea_and, wea_or, wea_ite, wea_idx, wea_sl, wea_call, wea_prim, wea_meth, wea_isi, wea_comp, slotD_z, slotD_s, slotA_z, slotA_s, newTup0, newTup1, newTup2, newTup3, newTup4, tr_non, tr_bl, tr_int, tr_tup, len_tup, atI0, atI1, idx_tup, it_tup, un_tup, int_of, lt_int, le_int, gt_int, ge_int, cmp_eq, cmp_ne, cmp_is, cmp_isnot, eqD_int, eqD_bl, lt_tup, List.set_cons_succ, List.set_cons_zero, startD, List.map_cons, List.map_nil, List.length_cons, List.length_nil, Nat.zero_add, Nat.reduceAdd, Nat.reduceSub, Nat.sub_self, List.replicate_succ, List.replicate_zero, List.cons_append, List.nil_append, Option.map_some, Kst.d, if_true, if_false, Bool.false_eq_true, wp_add_int, wp_sub_int, isiA, calA]
    refine wp_newList (lim_le (by decide)) ?_
    refine comp_tup (fun rem acc st' => rem = [] ∧ acc = [] ∧ st' = st ++ [.lst [.int 0]]) (by show 0 < W; omega) ⟨rfl, rfl, rfl⟩ (fun d r acc st' ⟨e, _⟩ => by cases e) fun out st' ⟨_, e1, e2⟩ => ?_
    subst e1 e2
    refine wp_newList (lim_le (by decide)) ?_
    refine wp_add_lst (listAt_app (listAt_new _ _)) (listAt_new _ _) (lim_le (by decide)) ?_
    refine wp_maxL (a := 0) (is := []) (listAt_new _ _) ?_
    exact h _ (((Ex.app _ _).trans (Ex.app _ _)).trans (Ex.app _ _))
  | succ d ih =>
    intro n r st Q E hd hz hn h
    obtain ⟨n, rfl⟩ : ∃ m, n = m + 1 := ⟨n - 1, by omega⟩
    rw [wp_fn (d := ⟨1, 3, c__law_deep⟩) rfl rfl]
    simp -implicitDefEqProofs only [c__law_deep, wpS_sbnd, we_k, we_g, we_gf, we_v, wea_v, we_tup, we_lst, we_bin, we_neg, we_not, we_cmp, we_chain, we_and, we_or, we_ite, we_idx, we_sl, wt_no, wt_v, wt_k, wt_bin, wt_neg, wt_idx, we_callG, we_prim, we_meth, we_isi, we_comp, wea_gf, wea_lam0, wea_lam1, we_lam0, we_hcall, wa_nil, wa_cons, waa_nil, waa_cons, wg_tn, wg_tt, wg_tsub, wgs_nil, wgs_cons, gsNil_nil, wi_iv, wi_ir1, wi_ir2, wi_ien, wi_izip, wi_izl, ws_asg, ws_par, ws_ex, ws_ret, ws_retN, ws_pass, ws_brk, ws_iff, ws_forr, ws_raise, wss_nil, wss_cons, wtru_eq, wp_ok, wp_exc, wp_oth_some, wea_k, wea_g, wea_tup, wea_lst, wea_bin, wea_neg, wea_not, wea_cmp, wea_chain, wea_and, wea_or, wea_ite, wea_idx, wea_sl, wea_call, wea_prim, wea_meth, wea_isi, wea_comp, slotD_z, slotD_s, slotA_z, slotA_s, newTup0, newTup1, newTup2, newTup3, newTup4, tr_non, tr_bl, tr_int, tr_tup, len_tup, atI0, atI1, idx_tup, it_tup, un_tup, int_of, lt_int, le_int, gt_int, ge_int, cmp_eq, cmp_ne, cmp_is, cmp_isnot, eqD_int, eqD_bl, lt_tup, List.set_cons_succ, List.set_cons_zero, startD, List.map_cons, List.map_nil, List.length_cons, List.length_nil, Nat.zero_add, Nat.reduceAdd, Nat.reduceSub, Nat.sub_self, List.replicate_succ, List.replicate_zero, List.cons_append, List.nil_append, Option.map_some, Kst.d, if_true, if_false, Bool.false_eq_true, wp_add_int, wp_sub_int, isiA, calA]
    have hl := row_len r
    refine wp_newList (lim_le (by decide)) ?_
    refine comp_tup (fun rem acc st' => ∃ r' is, rem = rowDs r' ∧ Ex (st ++ [.lst [.int 0]]) st' ∧ dp r' ≤ dp r ∧ sz r' ≤ 1000 ∧ acc = is.map D.int ∧ (∀ x ∈ is, x ≤ ((dp r : Nat) : Int)) ∧ (dp r = 0 ∨ ((dp r : Nat) : Int) ∈ is ∨ dp r = dp r') ∧ is.length + rem.length = (rowDs r).length) (by omega) ⟨r, [], rfl, Ex.refl _, Nat.le_refl _, hz, rfl, by simp, .inr (.inr rfl), by simp⟩ (fun x rem acc st' ⟨r', is, e1, e2, e3, e4, e5, e6, e8, e7⟩ => ?_) fun out st' ⟨r', is, e1, e2, e3, e4, e5, e6, e8, e7⟩ => ?_
    · obtain ⟨s, i, r2, rfl, rfl, rfl⟩ := row_cons e1.symm
      simp only [dp, sz] at e3 e4 e8
      simp -implicitDefEqProofs only [wp_turn, wpS_sbnd, we_k, we_g, we_gf, we_v, wea_v, we_tup, we_lst, we_bin, we_neg, we_not, we_cmp, we_chain, we_and, we_or, we_ite, we_idx, we_sl, wt_no, wt_v, wt_k, wt_bin, wt_neg, wt_idx, we_callG, we_prim, we_meth, we_isi, we_comp, wea_gf, wea_lam0, wea_lam1, we_lam0, we_hcall, wa_nil, wa_cons, waa_nil, waa_cons, wg_tn, wg_tt, wg_tsub, wgs_nil, wgs_cons, gsNil_nil, wi_iv, wi_ir1, wi_ir2, wi_ien, wi_izip, wi_izl, ws_asg, ws_par, ws_ex, ws_ret, ws_retN, ws_pass, ws_brk, ws_iff, ws_forr, ws_raise, wss_nil, wss_cons, wtru_eq, wp_ok, wp_exc, wp_oth_some, wea_k, wea_g, wea_tup, wea_lst, wea_bin, wea_neg, wea_not, wea_cmp, wea_chain, wea_and, wea_or, wea_ite, wea_idx, wea_sl, wea_call, wea_prim, wea_meth, wea_isi, wea_comp, slotD_z, slotD_s, slotA_z, slotA_s, newTup0, newTup1, newTup2, newTup3, newTup4, tr_non, tr_bl, tr_int, tr_tup, len_tup, atI0, atI1, idx_tup, it_tup, un_tup, int_of, lt_int, le_int, gt_int, ge_int, cmp_eq, cmp_ne, cmp_is, cmp_isnot, eqD_int, eqD_bl, lt_tup, List.set_cons_succ, List.set_cons_zero, startD, List.map_cons, List.map_nil, List.length_cons, List.length_nil, Nat.zero_add, Nat.reduceAdd, Nat.reduceSub, Nat.sub_self, List.replicate_succ, List.replicate_zero, List.cons_append, List.nil_append, Option.map_some, Kst.d, if_true, if_false, Bool.false_eq_true, wp_add_int, wp_sub_int, isiA, calA, wipe]
      refine ih n i st' _ _ (by omega) (by omega) (by omega) fun st2 x2 => ?_
      simp -implicitDefEqProofs only [wpS_sbnd, we_k, we_g, we_gf, we_v, wea_v, we_tup, we_lst, we_bin, we_neg, we_not, we_cmp, we_chain, we_and, we_or, we_ite, we_idx, we_sl, wt_no, wt_v, wt_k, wt_bin, wt_neg, wt_idx, we_callG, we_prim, we_meth, we_isi, we_comp, wea_gf, wea_lam0, wea_lam1, we_lam0, we_hcall, wa_nil, wa_cons, waa_nil, waa_cons, wg_tn, wg_tt, wg_tsub, wgs_nil, wgs_cons, gsNil_nil, wi_iv, wi_ir1, wi_ir2, wi_ien, wi_izip, wi_izl, ws_asg, ws_par, ws_ex, ws_ret, ws_retN, ws_pass, ws_brk, ws_iff, ws_forr, ws_raise, wss_nil, wss_cons, wtru_eq, wp_ok, wp_exc, wp_oth_some, wea_k, wea_g, wea_tup, wea_lst, wea_bin, wea_neg, wea_not, wea_cmp, wea_chain, wea_and, wea_or, wea_ite, wea_idx, wea_sl, wea_call, wea_prim, wea_meth, wea_isi, wea_comp, slotD_z, slotD_s, slotA_z, slotA_s, newTup0, newTup1, newTup2, newTup3, newTup4, tr_non, tr_bl, tr_int, tr_tup, len_tup, atI0, atI1, idx_tup, it_tup, un_tup, int_of, lt_int, le_int, gt_int, ge_int, cmp_eq, cmp_ne, cmp_is, cmp_isnot, eqD_int, eqD_bl, lt_tup, List.set_cons_succ, List.set_cons_zero, startD, List.map_cons, List.map_nil, List.length_cons, List.length_nil, Nat.zero_add, Nat.reduceAdd, Nat.reduceSub, Nat.sub_self, List.replicate_succ, List.replicate_zero, List.cons_append, List.nil_append, Option.map_some, Kst.d, if_true, if_false, Bool.false_eq_true, wp_add_int, wp_sub_int, isiA, calA]
      refine ⟨r2, is ++ [1 + (dp i : Int)], rfl, e2.trans x2, by omega, by omega, by simp [e5], ?_, ?_, ?_⟩
      · intro x hx
        rcases List.mem_append.mp hx with z | z
        · exact e6 x z
        · simp only [List.mem_cons, List.not_mem_nil, or_false] at z
          omega
      · rcases e8 with z | z | z
        · exact .inl z
        · exact .inr (.inl (List.mem_append_left _ z))
        · by_cases q : dp r = dp r2
          · exact .inr (.inr q)
          · refine .inr (.inl (List.mem_append_right _ ?_))
            simp only [List.mem_cons, List.not_mem_nil, or_false]
            omega
      · simp only [List.length_append, List.length_cons, List.length_nil] at e7 ⊢
        omega
    · have := row_nil e1.symm
      subst this
      subst e5
      refine wp_newList (lim_le (by simp at e7 ⊢; omega)) ?_
      refine wp_add_lst (x := [.int 0]) (y := is.map D.int) (listAt_app (e2.2 _ _ (listAt_new _ _))) (listAt_new _ _) (lim_le (by simp at e7 ⊢; omega)) ?_
      refine wp_maxL (a := 0) (is := is) (listAt_new _ _) ?_
      have hm : maxI (0 :: is) = ((dp r : Nat) : Int) := by
        have a := maxI_mem 0 is
        have b := maxI_ge (0 :: is)
        have c : maxI (0 :: is) ≤ ((dp r : Nat) : Int) := by
          rcases List.mem_cons.mp a with z | z
          · omega
          · exact e6 _ z
        have d : ((dp r : Nat) : Int) ≤ maxI (0 :: is) := by
          rcases e8 with z | z | z
          · have := b 0 List.mem_cons_self
            omega
          · exact b _ (List.mem_cons_of_mem _ z)
          · have := b 0 List.mem_cons_self
            simp only [dp] at z
            omega
        omega
      rw [hm]
      exact h _ ((((Ex.app _ _).trans e2).trans (Ex.app _ _)).trans (Ex.app _ _))
end
end K01

set_option Elab.async false
set_option linter.all false
set_option maxRecDepth 100000
/-! law k01: boxes, depth, ahead. -/
namespace K01
open PF
theorem alike_rows : ∀ r q : Rw, alikesW (rowDs r) (rowDs q) = true
  | .nil, q => by simp [rowDs, alikesW]
  | .cons s i r, .nil => by simp [rowDs, alikesW]
  | .cons s i r, .cons s' i' r' => by
    have h1 := alike_rows i i'
    have h2 := alike_rows r r'
    simp [rowDs, alikesW, alikeW, h1, h2]
theorem data_rows : ∀ r : Rw, datasW (fun _ => false) (rowDs r) = true
  | .nil => rfl
  | .cons s i r => by
    have h1 := data_rows i
    have h2 := data_rows r
    simp [rowDs, datasW, dataW, h1, h2]
theorem dep_rows : ∀ r : Rw, depsW (fun _ => 0) (rowDs r) ≤ 2 * dp r
  | .nil => by simp [rowDs, depsW]
  | .cons s i r => by
    have h1 := dep_rows i
    have h2 := dep_rows r
    simp only [rowDs, depsW, depW, dp]
    omega
def keyD (r : Rw) : D := .tup [.int (sz r), rowD r]
theorem lt_keys {r q : Rw} (h : dp r ≤ 20) : ltD (keyD r) (keyD q) = some (ltW (keyD r) (keyD q)) := by
  have a1 : alikeW (keyD r) (keyD q) = true := by simp [keyD, alikeW, alikesW, alike_rows]
  have a2 : ∀ r : Rw, dataW (fun _ => false) (keyD r) = true := fun r => by simp [keyD, dataW, datasW, data_rows]
  have a3 : depW (fun _ => 0) (keyD r) ≤ 64 := by
    have h3 := dep_rows r
    simp only [keyD, depW, depsW]
    omega
  unfold ltD
  rw [a1, a2, a2, if_pos]
  simp only [Bool.and_true, Bool.true_and, decide_eq_true_eq]
  omega
theorem eq_rows : ∀ r : Rw, eqsW (fun _ _ => false) (rowDs r) (rowDs r) = true
  | .nil => rfl
  | .cons s i r => by
    have h1 := eq_rows i
    have h2 := eq_rows r
    simp [rowDs, eqsW, eqW, h1, h2]
theorem lt_rows : ∀ r : Rw, ltsW (rowDs r) (rowDs r) = false
  | .nil => rfl
  | .cons s i r => by
    have h1 := eq_rows i
    have h2 := lt_rows r
    simp [rowDs, ltsW, eqsW, eqW, h1, h2]
theorem lt_self (r : Rw) : ltW (keyD r) (keyD r) = false := by
  have h1 := lt_rows r
  have h2 := eq_rows r
  simp [keyD, ltW, ltsW, eqW, h1, h2]
section
variable {W k m n : Nat} {Q : D → Store → Prop} {E : Xn → Store → Prop} {st : Store} {stands : Int} {v : D}
/-- a nesting of so many stands -/
structure Nst (stands : Int) (r : Rw) : Prop where
  s : sz r ≤ 60
  d : dp r ≤ 12
  o : ok stands r
theorem Nst.isN {r : Rw} (h : Nst stands r) : isN stands (rowD r) = true := isN_row h.s h.d h.o
theorem w_key_of {r : Rw} (hW : 1000 < W) (hz : sz r ≤ 60) (hd : dp r ≤ 12) (hn : 14 ≤ n) (h : ∀ st', Ex st st' → Q (keyD r) st') : wp (callN prog W n (.d (.fn 5)) [.d (rowD r)] st) Q E := by
  obtain ⟨n, rfl⟩ : ∃ m, n = m + 1 := ⟨n - 1, by omega⟩
  rw [wp_fn (d := ⟨1, 1, c_key_of⟩) rfl rfl]
  simp -implicitDefEqProofs only [c_key_of, wpS_sbnd, we_k, we_g, we_gf, we_v, wea_v, we_tup, we_lst, we_bin, we_neg, we_not, we_cmp, we_chain, we_and, we_or, we_ite, we_idx, we_sl, wt_no, wt_v, wt_k, wt_bin, wt_neg, wt_idx, we_callG, we_prim, we_meth, we_isi, we_comp, wea_gf, wea_lam0, wea_lam1, we_lam0, we_hcall, wa_nil, wa_cons, waa_nil, waa_cons, wg_tn, wg_tt, wg_tsub, wgs_nil, wgs_cons, gsNil_nil, wi_iv, wi_ir1, wi_ir2, wi_ien, wi_izip, wi_izl, ws_asg, ws_par, ws_ex, ws_ret, ws_retN, ws_pass, ws_brk, ws_iff, ws_forr, ws_raise, wss_nil, wss_cons, wtru_eq, wp_ok, wp_exc, wp_oth_some, wea_k, wea_g, wea_tup, wea_lst, wea_bin, wea_neg, wea_not, wea_cmp, wea_chain, wea_and, wea_or, wea_ite, wea_idx, wea_sl, wea_call, wea_prim, wea_meth, wea_isi, wea_comp, slotD_z, slotD_s, slotA_z, slotA_s, newTup0, newTup1, newTup2, newTup3, newTup4, tr_non, tr_bl, tr_int, tr_tup, len_tup, atI0, atI1, idx_tup, it_tup, un_tup, int_of, lt_int, le_int, gt_int, ge_int, cmp_eq, cmp_ne, cmp_is, cmp_isnot, eqD_int, eqD_bl, lt_tup, List.set_cons_succ, List.set_cons_zero, startD, List.map_cons, List.map_nil, List.length_cons, List.length_nil, Nat.zero_add, Nat.reduceAdd, Nat.reduceSub, Nat.sub_self, List.replicate_succ, List.replicate_zero, List.cons_append, List.nil_append, Option.map_some, Kst.d, if_true, if_false, Bool.false_eq_true, wp_add_int, wp_sub_int, isiA, calA]
  exact w_boxes_in hW 12 n r st _ _ hd (by omega) (by omega) fun st' x => h st' x
theorem w_law_key {r : Rw} (hW : 1000 < W) (hz : sz r ≤ 60) (hd : dp r ≤ 12) (hn : 14 ≤ n) (h : Q (keyD r) st) : wp (callN prog W n (.d (.fn 25)) [.d (rowD r)] st) Q E := by
  obtain ⟨n, rfl⟩ : ∃ m, n = m + 1 := ⟨n - 1, by omega⟩
  rw [wp_fn (d := ⟨1, 1, c__law_key⟩) rfl rfl]
  simp -implicitDefEqProofs only [c__law_key, wpS_sbnd, we_k, we_g, we_gf, we_v, wea_v, we_tup, we_lst, we_bin, we_neg, we_not, we_cmp, we_chain, we_and, we_or, we_ite, we_idx, we_sl, wt_no, wt_v, wt_k, wt_bin, wt_neg, wt_idx, we_callG, we_prim, we_meth, we_isi, we_comp, wea_gf, wea_lam0, wea_lam1, we_lam0, we_hcall, wa_nil, wa_cons, waa_nil, waa_cons, wg_tn, wg_tt, wg_tsub, wgs_nil, wgs_cons, gsNil_nil, wi_iv, wi_ir1, wi_ir2, wi_ien, wi_izip, wi_izl, ws_asg, ws_par, ws_ex, ws_ret, ws_retN, ws_pass, ws_brk, ws_iff, ws_forr, ws_raise, wss_nil, wss_cons, wtru_eq, wp_ok, wp_exc, wp_oth_some, wea_k, wea_g, wea_tup, wea_lst, wea_bin, wea_neg, wea_not, wea_cmp, wea_chain, wea_and, wea_or, wea_ite, wea_idx, wea_sl, wea_call, wea_prim, wea_meth, wea_isi, wea_comp, slotD_z, slotD_s, slotA_z, slotA_s, newTup0, newTup1, newTup2, newTup3, newTup4, tr_non, tr_bl, tr_int, tr_tup, len_tup, atI0, atI1, idx_tup, it_tup, un_tup, int_of, lt_int, le_int, gt_int, ge_int, cmp_eq, cmp_ne, cmp_is, cmp_isnot, eqD_int, eqD_bl, lt_tup, List.set_cons_succ, List.set_cons_zero, startD, List.map_cons, List.map_nil, List.length_cons, List.length_nil, Nat.zero_add, Nat.reduceAdd, Nat.reduceSub, Nat.sub_self, List.replicate_succ, List.replicate_zero, List.cons_append, List.nil_append, Option.map_some, Kst.d, if_true, if_false, Bool.false_eq_true, wp_add_int, wp_sub_int, isiA, calA]
  exact w_law_size hW 12 n r st _ _ hd (by omega) (by omega) h
theorem w_boxes {r : Rw} (hW : 1000 < W) (hn : 18 ≤ n) (hs : whole (.int stands) 2 3 = true) (hr : Nst stands r) (h : ∀ st', Ex st st' → Q (.int (sz r)) st') : wp (callN prog W n (.d (.fn 9)) [.d (.int stands), .d (rowD r)] st) Q E := by
  obtain ⟨n, rfl⟩ : ∃ m, n = m + 1 := ⟨n - 1, by omega⟩
  rw [wp_fn (d := ⟨2, 2, c_boxes⟩) rfl rfl]
  simp -implicitDefEqProofs only [c_boxes, wpS_sbnd, we_k, we_g, we_gf, we_v, wea_v, we_tup, we_lst, we_bin, we_neg, we_not, we_cmp, we_chain, we_and, we_or, we_ite, we_idx, we_sl, wt_no, wt_v, wt_k, wt_bin, wt_neg, wt_idx, we_callG, we_prim, we_meth, we_isi, we_comp, wea_gf, wea_lam0, wea_lam1, we_lam0, we_hcall, wa_nil, wa_cons, waa_nil, waa_cons, wg_tn, wg_tt, wg_tsub, wgs_nil, wgs_cons, gsNil_nil, wi_iv, wi_ir1, wi_ir2, wi_ien, wi_izip, wi_izl, ws_asg, ws_par, ws_ex, ws_ret, ws_retN, ws_pass, ws_brk, ws_iff, ws_forr, ws_raise, wss_nil, wss_cons, wtru_eq, wp_ok, wp_exc, wp_oth_some, wea_k, wea_g, wea_tup, wea_lst, wea_bin, wea_neg, wea_not, wea_cmp, wea_chain, wea_and, wea_or, wea_ite, wea_idx, wea_sl, wea_call, wea_prim, wea_meth, wea_isi, wea_comp, slotD_z, slotD_s, slotA_z, slotA_s, newTup0, newTup1, newTup2, newTup3, newTup4, tr_non, tr_bl, tr_int, tr_tup, len_tup, atI0, atI1, idx_tup, it_tup, un_tup, int_of, lt_int, le_int, gt_int, ge_int, cmp_eq, cmp_ne, cmp_is, cmp_isnot, eqD_int, eqD_bl, lt_tup, List.set_cons_succ, List.set_cons_zero, startD, List.map_cons, List.map_nil, List.length_cons, List.length_nil, Nat.zero_add, Nat.reduceAdd, Nat.reduceSub, Nat.sub_self, List.replicate_succ, List.replicate_zero, List.cons_append, List.nil_append, Option.map_some, Kst.d, if_true, if_false, Bool.false_eq_true, wp_add_int, wp_sub_int, isiA, calA]
  refine w_need_stands (k := 0) (by omega) rfl ?_
  rw [if_pos hs]
  refine w_need_nesting (k := 0) (m := 60) (by omega) (by omega) (val_row hr.s (by omega)) ?_
  rw [if_pos hr.isN]
  exact w_boxes_in hW 12 n r st _ _ hr.d (by have := hr.s; omega) (by omega) h
theorem w_depth {r : Rw} (hW : 1000 < W) (hn : 18 ≤ n) (hs : whole (.int stands) 2 3 = true) (hr : Nst stands r) (h : ∀ st', Ex st st' → Q (.int (dp r)) st') : wp (callN prog W n (.d (.fn 10)) [.d (.int stands), .d (rowD r)] st) Q E := by
  obtain ⟨n, rfl⟩ : ∃ m, n = m + 1 := ⟨n - 1, by omega⟩
  rw [wp_fn (d := ⟨2, 2, c_depth⟩) rfl rfl]
  simp -implicitDefEqProofs only [c_depth, wpS_sbnd, we_k, we_g, we_gf, we_v, wea_v, we_tup, we_lst, we_bin, we_neg, we_not, we_cmp, we_chain, we_and, we_or, we_ite, we_idx, we_sl, wt_no, wt_v, wt_k, wt_bin, wt_neg, wt_idx, we_callG, we_prim, we_meth, we_isi, we_comp, wea_gf, wea_lam0, wea_lam1, we_lam0, we_hcall, wa_nil, wa_cons, waa_nil, waa_cons, wg_tn, wg_tt, wg_tsub, wgs_nil, wgs_cons, gsNil_nil, wi_iv, wi_ir1, wi_ir2, wi_ien, wi_izip, wi_izl, ws_asg, ws_par, ws_ex, ws_ret, ws_retN, ws_pass, ws_brk, ws_iff, ws_forr, ws_raise, wss_nil, wss_cons, wtru_eq, wp_ok, wp_exc, wp_oth_some, wea_k, wea_g, wea_tup, wea_lst, wea_bin, wea_neg, wea_not, wea_cmp, wea_chain, wea_and, wea_or, wea_ite, wea_idx, wea_sl, wea_call, wea_prim, wea_meth, wea_isi, wea_comp, slotD_z, slotD_s, slotA_z, slotA_s, newTup0, newTup1, newTup2, newTup3, newTup4, tr_non, tr_bl, tr_int, tr_tup, len_tup, atI0, atI1, idx_tup, it_tup, un_tup, int_of, lt_int, le_int, gt_int, ge_int, cmp_eq, cmp_ne, cmp_is, cmp_isnot, eqD_int, eqD_bl, lt_tup, List.set_cons_succ, List.set_cons_zero, startD, List.map_cons, List.map_nil, List.length_cons, List.length_nil, Nat.zero_add, Nat.reduceAdd, Nat.reduceSub, Nat.sub_self, List.replicate_succ, List.replicate_zero, List.cons_append, List.nil_append, Option.map_some, Kst.d, if_true, if_false, Bool.false_eq_true, wp_add_int, wp_sub_int, isiA, calA]
  refine w_need_stands (k := 0) (by omega) rfl ?_
  rw [if_pos hs]
  refine w_need_nesting (k := 0) (m := 60) (by omega) (by omega) (val_row hr.s (by omega)) ?_
  rw [if_pos hr.isN]
  exact w_depth_of hW 12 n r st _ _ hr.d (by have := hr.s; omega) (by omega) h
theorem w_ahead {r q : Rw} (hW : 1000 < W) (hn : 18 ≤ n) (hs : whole (.int stands) 2 3 = true) (hr : Nst stands r) (hq : Nst stands q) (h : ∀ st', Ex st st' → Q (.bl (ltW (keyD r) (keyD q))) st') :
    wp (callN prog W n (.d (.fn 11)) [.d (.int stands), .d (rowD r), .d (rowD q)] st) Q E := by
  obtain ⟨n, rfl⟩ : ∃ m, n = m + 1 := ⟨n - 1, by omega⟩
  rw [wp_fn (d := ⟨3, 3, c_ahead⟩) rfl rfl]
  simp -implicitDefEqProofs only [c_ahead, wpS_sbnd, we_k, we_g, we_gf, we_v, wea_v, we_tup, we_lst, we_bin, we_neg, we_not, we_cmp, we_chain, we_and, we_or, we_ite, we_idx, we_sl, wt_no, wt_v, wt_k, wt_bin, wt_neg, wt_idx, we_callG, we_prim, we_meth, we_isi, we_comp, wea_gf, wea_lam0, wea_lam1, we_lam0, we_hcall, wa_nil, wa_cons, waa_nil, waa_cons, wg_tn, wg_tt, wg_tsub, wgs_nil, wgs_cons, gsNil_nil, wi_iv, wi_ir1, wi_ir2, wi_ien, wi_izip, wi_izl, ws_asg, ws_par, ws_ex, ws_ret, ws_retN, ws_pass, ws_brk, ws_iff, ws_forr, ws_raise, wss_nil, wss_cons, wtru_eq, wp_ok, wp_exc, wp_oth_some, wea_k, wea_g, wea_tup, wea_lst, wea_bin, wea_neg, wea_not, wea_cmp, wea_chain, wea_and, wea_or, wea_ite, wea_idx, wea_sl, wea_call, wea_prim, wea_meth, wea_isi, wea_comp, slotD_z, slotD_s, slotA_z, slotA_s, newTup0, newTup1, newTup2, newTup3, newTup4, tr_non, tr_bl, tr_int, tr_tup, len_tup, atI0, atI1, idx_tup, it_tup, un_tup, int_of, lt_int, le_int, gt_int, ge_int, cmp_eq, cmp_ne, cmp_is, cmp_isnot, eqD_int, eqD_bl, lt_tup, List.set_cons_succ, List.set_cons_zero, startD, List.map_cons, List.map_nil, List.length_cons, List.length_nil, Nat.zero_add, Nat.reduceAdd, Nat.reduceSub, Nat.sub_self, List.replicate_succ, List.replicate_zero, List.cons_append, List.nil_append, Option.map_some, Kst.d, if_true, if_false, Bool.false_eq_true, wp_add_int, wp_sub_int, isiA, calA]
  refine w_need_stands (k := 0) (by omega) rfl ?_
  rw [if_pos hs]
  refine w_need_nesting (k := 0) (m := 60) (by omega) (by omega) (val_row hr.s (by omega)) ?_
  rw [if_pos hr.isN]
  refine w_need_nesting (k := 0) (m := 60) (by omega) (by omega) (val_row hq.s (by omega)) ?_
  rw [if_pos hq.isN]
  refine w_key_of hW hr.s hr.d (by omega) fun st1 x1 => ?_
  refine w_key_of hW hq.s hq.d (by omega) fun st2 x2 => ?_
  have e : cmpD st2 .lt (keyD r) (keyD q) = some (ltW (keyD r) (keyD q)) := lt_keys (by have := hr.d; omega)
  rw [e]
  exact h _ (x1.trans x2)
/-! ### errors of these -/
theorem x_boxes {v w : D} (hW : 1000 < W) (hm : m < W) (hn : 18 ≤ n) (hv : Dat k st v) (hw : Val k m st w) (h1 : whole v 2 3 = false → E ⟨5, []⟩ st) (h2 : ∀ s, v = .int s → whole v 2 3 = true → isN s w = false ∧ E ⟨1, []⟩ st) : wp (callN prog W n (.d (.fn 9)) [.d v, .d w] st) Q E := by
  obtain ⟨n, rfl⟩ : ∃ m, n = m + 1 := ⟨n - 1, by omega⟩
  rw [wp_fn (d := ⟨2, 2, c_boxes⟩) rfl rfl]
  simp -implicitDefEqProofs only [c_boxes, wpS_sbnd, we_k, we_g, we_gf, we_v, wea_v, we_tup, we_lst, we_bin, we_neg, we_not, we_cmp, we_chain, we_and, we_or, we_ite, we_idx, we_sl, wt_no, wt_v, wt_k, wt_bin, wt_neg, wt_idx, we_callG, we_prim, we_meth, we_isi, we_comp, wea_gf, wea_lam0, wea_lam1, we_lam0, we_hcall, wa_nil, wa_cons, waa_nil, waa_cons, wg_tn, wg_tt, wg_tsub, wgs_nil, wgs_cons, gsNil_nil, wi_iv, wi_ir1, wi_ir2, wi_ien, wi_izip, wi_izl, ws_asg, ws_par, ws_ex, ws_ret, ws_retN, ws_pass, ws_brk, ws_iff, ws_forr, ws_raise, wss_nil, wss_cons, wtru_eq, wp_ok, wp_exc, wp_oth_some, wea_k, wea_g, wea_tup, wea_lst, wea_bin, wea_neg, wea_not, wea_cmp, wea_chain, wea_and, wea_or, wea_ite, wea_idx, wea_sl, wea_call, wea_prim, wea_meth, wea_isi, wea_comp, slotD_z, slotD_s, slotA_z, slotA_s, newTup0, newTup1, newTup2, newTup3, newTup4, tr_non, tr_bl, tr_int, tr_tup, len_tup, atI0, atI1, idx_tup, it_tup, un_tup, int_of, lt_int, le_int, gt_int, ge_int, cmp_eq, cmp_ne, cmp_is, cmp_isnot, eqD_int, eqD_bl, lt_tup, List.set_cons_succ, List.set_cons_zero, startD, List.map_cons, List.map_nil, List.length_cons, List.length_nil, Nat.zero_add, Nat.reduceAdd, Nat.reduceSub, Nat.sub_self, List.replicate_succ, List.replicate_zero, List.cons_append, List.nil_append, Option.map_some, Kst.d, if_true, if_false, Bool.false_eq_true, wp_add_int, wp_sub_int, isiA, calA]
  refine w_need_stands (by omega) hv ?_
  split
  · rename_i z
    cases v with
    | int s =>
      obtain ⟨a, b⟩ := h2 s rfl z
      refine w_need_nesting hm (by omega) hw ?_
      rw [a]
      exact b
    | _ => cases z
  · rename_i z
    exact h1 (by simpa using z)
theorem x_depth {v w : D} (hW : 1000 < W) (hm : m < W) (hn : 18 ≤ n) (hv : Dat k st v) (hw : Val k m st w) (h1 : whole v 2 3 = false → E ⟨5, []⟩ st) (h2 : ∀ s, v = .int s → whole v 2 3 = true → isN s w = false ∧ E ⟨1, []⟩ st) : wp (callN prog W n (.d (.fn 10)) [.d v, .d w] st) Q E := by
  obtain ⟨n, rfl⟩ : ∃ m, n = m + 1 := ⟨n - 1, by omega⟩
  rw [wp_fn (d := ⟨2, 2, c_depth⟩) rfl rfl]
  simp -implicitDefEqProofs only [c_depth, wpS_sbnd, we_k, we_g, we_gf, we_v, wea_v, we_tup, we_lst, we_bin, we_neg, we_not, we_cmp, we_chain, we_and, we_or, we_ite, we_idx, we_sl, wt_no, wt_v, wt_k, wt_bin, wt_neg, wt_idx, we_callG, we_prim, we_meth, we_isi, we_comp, wea_gf, wea_lam0, wea_lam1, we_lam0, we_hcall, wa_nil, wa_cons, waa_nil, waa_cons, wg_tn, wg_tt, wg_tsub, wgs_nil, wgs_cons, gsNil_nil, wi_iv, wi_ir1, wi_ir2, wi_ien, wi_izip, wi_izl, ws_asg, ws_par, ws_ex, ws_ret, ws_retN, ws_pass, ws_brk, ws_iff, ws_forr, ws_raise, wss_nil, wss_cons, wtru_eq, wp_ok, wp_exc, wp_oth_some, wea_k, wea_g, wea_tup, wea_lst, wea_bin, wea_neg, wea_not, wea_cmp, wea_chain, wea_and, wea_or, wea_ite, wea_idx, wea_sl, wea_call, wea_prim, wea_meth, wea_isi, wea_comp, slotD_z, slotD_s, slotA_z, slotA_s, newTup0, newTup1, newTup2, newTup3, newTup4, tr_non, tr_bl, tr_int, tr_tup, len_tup, atI0, atI1, idx_tup, it_tup, un_tup, int_of, lt_int, le_int, gt_int, ge_int, cmp_eq, cmp_ne, cmp_is, cmp_isnot, eqD_int, eqD_bl, lt_tup, List.set_cons_succ, List.set_cons_zero, startD, List.map_cons, List.map_nil, List.length_cons, List.length_nil, Nat.zero_add, Nat.reduceAdd, Nat.reduceSub, Nat.sub_self, List.replicate_succ, List.replicate_zero, List.cons_append, List.nil_append, Option.map_some, Kst.d, if_true, if_false, Bool.false_eq_true, wp_add_int, wp_sub_int, isiA, calA]
  refine w_need_stands (by omega) hv ?_
  split
  · rename_i z
    cases v with
    | int s =>
      obtain ⟨a, b⟩ := h2 s rfl z
      refine w_need_nesting hm (by omega) hw ?_
      rw [a]
      exact b
    | _ => cases z
  · rename_i z
    exact h1 (by simpa using z)
theorem x_ahead {v w u : D} (hW : 1000 < W) (hm : m < W) (hn : 18 ≤ n) (hv : Dat k st v) (hw : Val k m st w) (h1 : whole v 2 3 = false → E ⟨5, []⟩ st) (h2 : ∀ s, v = .int s → whole v 2 3 = true → isN s w = false ∧ E ⟨1, []⟩ st) : wp (callN prog W n (.d (.fn 11)) [.d v, .d w, .d u] st) Q E := by
  obtain ⟨n, rfl⟩ : ∃ m, n = m + 1 := ⟨n - 1, by omega⟩
  rw [wp_fn (d := ⟨3, 3, c_ahead⟩) rfl rfl]
  simp -implicitDefEqProofs only [c_ahead, wpS_sbnd, we_k, we_g, we_gf, we_v, wea_v, we_tup, we_lst, we_bin, we_neg, we_not, we_cmp, we_chain, we_and, we_or, we_ite, we_idx, we_sl, wt_no, wt_v, wt_k, wt_bin, wt_neg, wt_idx, we_callG, we_prim, we_meth, we_isi, we_comp, wea_gf, wea_lam0, wea_lam1, we_lam0, we_hcall, wa_nil, wa_cons, waa_nil, waa_cons, wg_tn, wg_tt, wg_tsub, wgs_nil, wgs_cons, gsNil_nil, wi_iv, wi_ir1, wi_ir2, wi_ien, wi_izip, wi_izl, ws_asg, ws_par, ws_ex, ws_ret, ws_retN, ws_pass, ws_brk, ws_iff, ws_forr, ws_raise, wss_nil, wss_cons, wtru_eq, wp_ok, wp_exc, wp_oth_some, wea_k, wea_g, wea_tup, wea_lst, wea_bin, wea_neg, wea_not, wea_cmp, wea_chain, wea_and, wea_or, wea_ite, wea_idx, wea_sl, wea_call, wea_prim, wea_meth, wea_isi, wea_comp, slotD_z, slotD_s, slotA_z, slotA_s, newTup0, newTup1, newTup2, newTup3, newTup4, tr_non, tr_bl, tr_int, tr_tup, len_tup, atI0, atI1, idx_tup, it_tup, un_tup, int_of, lt_int, le_int, gt_int, ge_int, cmp_eq, cmp_ne, cmp_is, cmp_isnot, eqD_int, eqD_bl, lt_tup, List.set_cons_succ, List.set_cons_zero, startD, List.map_cons, List.map_nil, List.length_cons, List.length_nil, Nat.zero_add, Nat.reduceAdd, Nat.reduceSub, Nat.sub_self, List.replicate_succ, List.replicate_zero, List.cons_append, List.nil_append, Option.map_some, Kst.d, if_true, if_false, Bool.false_eq_true, wp_add_int, wp_sub_int, isiA, calA]
  refine w_need_stands (by omega) hv ?_
  split
  · rename_i z
    cases v with
    | int s =>
      obtain ⟨a, b⟩ := h2 s rfl z
      refine w_need_nesting hm (by omega) hw ?_
      rw [a]
      exact b
    | _ => cases z
  · rename_i z
    exact h1 (by simpa using z)
theorem x_ahead2 {r : Rw} {w : D} (hW : 1000 < W) (hm : m < W) (hn : 18 ≤ n) (hs : whole (.int stands) 2 3 = true) (hr : Nst stands r) (hw : Val k m st w) (h2 : isN stands w = false) (h : E ⟨1, []⟩ st) : wp (callN prog W n (.d (.fn 11)) [.d (.int stands), .d (rowD r), .d w] st) Q E := by
  obtain ⟨n, rfl⟩ : ∃ m, n = m + 1 := ⟨n - 1, by omega⟩
  rw [wp_fn (d := ⟨3, 3, c_ahead⟩) rfl rfl]
  simp -implicitDefEqProofs only [c_ahead, wpS_sbnd, we_k, we_g, we_gf, we_v, wea_v, we_tup, we_lst, we_bin, we_neg, we_not, we_cmp, we_chain, we_and, we_or, we_ite, we_idx, we_sl, wt_no, wt_v, wt_k, wt_bin, wt_neg, wt_idx, we_callG, we_prim, we_meth, we_isi, we_comp, wea_gf, wea_lam0, wea_lam1, we_lam0, we_hcall, wa_nil, wa_cons, waa_nil, waa_cons, wg_tn, wg_tt, wg_tsub, wgs_nil, wgs_cons, gsNil_nil, wi_iv, wi_ir1, wi_ir2, wi_ien, wi_izip, wi_izl, ws_asg, ws_par, ws_ex, ws_ret, ws_retN, ws_pass, ws_brk, ws_iff, ws_forr, ws_raise, wss_nil, wss_cons, wtru_eq, wp_ok, wp_exc, wp_oth_some, wea_k, wea_g, wea_tup, wea_lst, wea_bin, wea_neg, wea_not, wea_cmp, wea_chain, wea_and, wea_or, wea_ite, wea_idx, wea_sl, wea_call, wea_prim, wea_meth, wea_isi, wea_comp, slotD_z, slotD_s, slotA_z, slotA_s, newTup0, newTup1, newTup2, newTup3, newTup4, tr_non, tr_bl, tr_int, tr_tup, len_tup, atI0, atI1, idx_tup, it_tup, un_tup, int_of, lt_int, le_int, gt_int, ge_int, cmp_eq, cmp_ne, cmp_is, cmp_isnot, eqD_int, eqD_bl, lt_tup, List.set_cons_succ, List.set_cons_zero, startD, List.map_cons, List.map_nil, List.length_cons, List.length_nil, Nat.zero_add, Nat.reduceAdd, Nat.reduceSub, Nat.sub_self, List.replicate_succ, List.replicate_zero, List.cons_append, List.nil_append, Option.map_some, Kst.d, if_true, if_false, Bool.false_eq_true, wp_add_int, wp_sub_int, isiA, calA]
  refine w_need_stands (k := 0) (by omega) rfl ?_
  rw [if_pos hs]
  refine w_need_nesting (k := 0) (m := 60) (by omega) (by omega) (val_row hr.s (by omega)) ?_
  rw [if_pos hr.isN]
  refine w_need_nesting hm (by omega) hw ?_
  rw [h2]
  exact h
end
end K01

set_option Elab.async false
set_option linter.all false
set_option maxRecDepth 100000
/-! law k01: draws. -/
namespace K01
open PF
/-- what draws are taken from -/
def Src (k : Nat) (st : Store) : Prop := ∃ a b : Int, listAt st k = some [.int a, .int b] ∧ 0 ≤ a ∧ 0 ≤ b ∧ b < 2147483179
theorem Src.ex {k : Nat} {st st' : Store} (h : Src k st) (x : Ex st st') : Src k st' := by
  obtain ⟨a, b, h1, h2⟩ := h
  exact ⟨a, b, x.2 _ _ h1, h2⟩
theorem listAt_get {st : Store} {n : Nat} {x : List D} (h : listAt st n = some x) : st[n]? = some (.lst x) := by
  unfold listAt at h
  split at h
  · rename_i e; rw [e]; cases h; rfl
  · cases h
section
variable {W k m n : Nat} {Q : D → Store → Prop} {E : Xn → Store → Prop} {st : Store}
theorem wp_set0 {ρ : Env} {d x y : D} {QE : Env → Store → Prop} (h : listAt st k = some [x, y]) : wp (setD ρ d (.loc k) (.int 0) st) QE E = QE ρ (st.set k (.lst [d, y])) := by
  have e : setItem st (.loc k) (.int 0) d = some (st.set k (.lst [d, y])) := by
    simp only [setItem, listAt_get h]
    rfl
  unfold setD
  rw [e]
  rfl
theorem wp_set1 {ρ : Env} {d x y : D} {QE : Env → Store → Prop} (h : listAt st k = some [x, y]) : wp (setD ρ d (.loc k) (.int 1) st) QE E = QE ρ (st.set k (.lst [x, d])) := by
  have e : setItem st (.loc k) (.int 1) d = some (st.set k (.lst [x, d])) := by
    simp only [setItem, listAt_get h]
    rfl
  unfold setD
  rw [e]
  rfl
theorem prim_int {i : Int} : primD st .int [.int i] = .ok (.int i) st := rfl
theorem prim_abs {i : Int} : primD st .abs [.int i] = .ok (.int (if i < 0 then -i else i)) st := rfl
theorem big_small {i : Int} (h1 : 0 ≤ i) (h2 : i < 4294967296) : big i = true := by
  unfold big
  rw [decide_eq_true_eq]
  omega
theorem w_draw {many : Int} (hs : Src k st) (h1 : 0 < many) (h2 : many < 1073741824) (h : ∀ r st', 0 ≤ r → r < many → Fr k st st' → Src k st' → Q (.int r) st') : wp (callN prog W (n + 1) (.d (.fn 13)) [.d (.loc k), .d (.int many)] st) Q E := by
  obtain ⟨a, b, hl, ha, hb, hb2⟩ := hs
  rw [wp_fn (d := ⟨2, 4, c__law_draw⟩) rfl rfl]
  simp -implicitDefEqProofs only [c__law_draw, wpS_sbnd, we_k, we_g, we_gf, we_v, wea_v, we_tup, we_lst, we_bin, we_neg, we_not, we_cmp, we_chain, we_and, we_or, we_ite, we_idx, we_sl, wt_no, wt_v, wt_k, wt_bin, wt_neg, wt_idx, we_callG, we_prim, we_meth, we_isi, we_comp, wea_gf, wea_lam0, wea_lam1, we_lam0, we_hcall, wa_nil, wa_cons, waa_nil, waa_cons, wg_tn, wg_tt, wg_tsub, wgs_nil, wgs_cons, gsNil_nil, wi_iv, wi_ir1, wi_ir2, wi_ien, wi_izip, wi_izl, ws_asg, ws_par, ws_ex, ws_ret, ws_retN, ws_pass, ws_brk, ws_iff, ws_forr, ws_raise, wss_nil, wss_cons, wtru_eq, wp_ok, wp_exc, wp_oth_some, wea_k, wea_g, wea_tup, wea_lst, wea_bin, wea_neg, wea_not, wea_cmp, wea_chain, wea_and, wea_or, wea_ite, wea_idx, wea_sl, wea_call, wea_prim, wea_meth, wea_isi, wea_comp, slotD_z, slotD_s, slotA_z, slotA_s, newTup0, newTup1, newTup2, newTup3, newTup4, tr_non, tr_bl, tr_int, tr_tup, len_tup, atI0, atI1, idx_tup, it_tup, un_tup, int_of, lt_int, le_int, gt_int, ge_int, cmp_eq, cmp_ne, cmp_is, cmp_isnot, eqD_int, eqD_bl, lt_tup, List.set_cons_succ, List.set_cons_zero, startD, List.map_cons, List.map_nil, List.length_cons, List.length_nil, Nat.zero_add, Nat.reduceAdd, Nat.reduceSub, Nat.sub_self, List.replicate_succ, List.replicate_zero, List.cons_append, List.nil_append, Option.map_some, Kst.d, if_true, if_false, Bool.false_eq_true, wp_add_int, wp_sub_int, isiA, calA, idx_lst hl]
  by_cases h0 : 0 < a
  · simp -implicitDefEqProofs only [h0, decide_true, if_true, wpS_sbnd, we_k, we_g, we_gf, we_v, wea_v, we_tup, we_lst, we_bin, we_neg, we_not, we_cmp, we_chain, we_and, we_or, we_ite, we_idx, we_sl, wt_no, wt_v, wt_k, wt_bin, wt_neg, wt_idx, we_callG, we_prim, we_meth, we_isi, we_comp, wea_gf, wea_lam0, wea_lam1, we_lam0, we_hcall, wa_nil, wa_cons, waa_nil, waa_cons, wg_tn, wg_tt, wg_tsub, wgs_nil, wgs_cons, gsNil_nil, wi_iv, wi_ir1, wi_ir2, wi_ien, wi_izip, wi_izl, ws_asg, ws_par, ws_ex, ws_ret, ws_retN, ws_pass, ws_brk, ws_iff, ws_forr, ws_raise, wss_nil, wss_cons, wtru_eq, wp_ok, wp_exc, wp_oth_some, wea_k, wea_g, wea_tup, wea_lst, wea_bin, wea_neg, wea_not, wea_cmp, wea_chain, wea_and, wea_or, wea_ite, wea_idx, wea_sl, wea_call, wea_prim, wea_meth, wea_isi, wea_comp, slotD_z, slotD_s, slotA_z, slotA_s, newTup0, newTup1, newTup2, newTup3, newTup4, tr_non, tr_bl, tr_int, tr_tup, len_tup, atI0, atI1, idx_tup, it_tup, un_tup, int_of, lt_int, le_int, gt_int, ge_int, cmp_eq, cmp_ne, cmp_is, cmp_isnot, eqD_int, eqD_bl, lt_tup, List.set_cons_succ, List.set_cons_zero, startD, List.map_cons, List.map_nil, List.length_cons, List.length_nil, Nat.zero_add, Nat.reduceAdd, Nat.reduceSub, Nat.sub_self, List.replicate_succ, List.replicate_zero, List.cons_append, List.nil_append, Option.map_some, Kst.d, if_true, if_false, Bool.false_eq_true, wp_add_int, wp_sub_int, isiA, calA, prim_int]
    rw [wp_mod_int h1]
    try simp -implicitDefEqProofs only [wpS_sbnd, we_k, we_g, we_gf, we_v, wea_v, we_tup, we_lst, we_bin, we_neg, we_not, we_cmp, we_chain, we_and, we_or, we_ite, we_idx, we_sl, wt_no, wt_v, wt_k, wt_bin, wt_neg, wt_idx, we_callG, we_prim, we_meth, we_isi, we_comp, wea_gf, wea_lam0, wea_lam1, we_lam0, we_hcall, wa_nil, wa_cons, waa_nil, waa_cons, wg_tn, wg_tt, wg_tsub, wgs_nil, wgs_cons, gsNil_nil, wi_iv, wi_ir1, wi_ir2, wi_ien, wi_izip, wi_izl, ws_asg, ws_par, ws_ex, ws_ret, ws_retN, ws_pass, ws_brk, ws_iff, ws_forr, ws_raise, wss_nil, wss_cons, wtru_eq, wp_ok, wp_exc, wp_oth_some, wea_k, wea_g, wea_tup, wea_lst, wea_bin, wea_neg, wea_not, wea_cmp, wea_chain, wea_and, wea_or, wea_ite, wea_idx, wea_sl, wea_call, wea_prim, wea_meth, wea_isi, wea_comp, slotD_z, slotD_s, slotA_z, slotA_s, newTup0, newTup1, newTup2, newTup3, newTup4, tr_non, tr_bl, tr_int, tr_tup, len_tup, atI0, atI1, idx_tup, it_tup, un_tup, int_of, lt_int, le_int, gt_int, ge_int, cmp_eq, cmp_ne, cmp_is, cmp_isnot, eqD_int, eqD_bl, lt_tup, List.set_cons_succ, List.set_cons_zero, startD, List.map_cons, List.map_nil, List.length_cons, List.length_nil, Nat.zero_add, Nat.reduceAdd, Nat.reduceSub, Nat.sub_self, List.replicate_succ, List.replicate_zero, List.cons_append, List.nil_append, Option.map_some, Kst.d, if_true, if_false, Bool.false_eq_true, wp_add_int, wp_sub_int, isiA, calA, idx_lst hl]
    rw [wp_fdiv_int h1 h2, wp_set0 hl]
    try simp -implicitDefEqProofs only [wpS_sbnd, we_k, we_g, we_gf, we_v, wea_v, we_tup, we_lst, we_bin, we_neg, we_not, we_cmp, we_chain, we_and, we_or, we_ite, we_idx, we_sl, wt_no, wt_v, wt_k, wt_bin, wt_neg, wt_idx, we_callG, we_prim, we_meth, we_isi, we_comp, wea_gf, wea_lam0, wea_lam1, we_lam0, we_hcall, wa_nil, wa_cons, waa_nil, waa_cons, wg_tn, wg_tt, wg_tsub, wgs_nil, wgs_cons, gsNil_nil, wi_iv, wi_ir1, wi_ir2, wi_ien, wi_izip, wi_izl, ws_asg, ws_par, ws_ex, ws_ret, ws_retN, ws_pass, ws_brk, ws_iff, ws_forr, ws_raise, wss_nil, wss_cons, wtru_eq, wp_ok, wp_exc, wp_oth_some, wea_k, wea_g, wea_tup, wea_lst, wea_bin, wea_neg, wea_not, wea_cmp, wea_chain, wea_and, wea_or, wea_ite, wea_idx, wea_sl, wea_call, wea_prim, wea_meth, wea_isi, wea_comp, slotD_z, slotD_s, slotA_z, slotA_s, newTup0, newTup1, newTup2, newTup3, newTup4, tr_non, tr_bl, tr_int, tr_tup, len_tup, atI0, atI1, idx_tup, it_tup, un_tup, int_of, lt_int, le_int, gt_int, ge_int, cmp_eq, cmp_ne, cmp_is, cmp_isnot, eqD_int, eqD_bl, lt_tup, List.set_cons_succ, List.set_cons_zero, startD, List.map_cons, List.map_nil, List.length_cons, List.length_nil, Nat.zero_add, Nat.reduceAdd, Nat.reduceSub, Nat.sub_self, List.replicate_succ, List.replicate_zero, List.cons_append, List.nil_append, Option.map_some, Kst.d, if_true, if_false, Bool.false_eq_true, wp_add_int, wp_sub_int, isiA, calA]
    exact h _ _ (Int.emod_nonneg _ (by omega)) (Int.emod_lt_of_pos _ h1) (Fr.set _ _ _) ⟨_, _, listAt_set hl, Int.ediv_nonneg ha (by omega), hb, hb2⟩
  · simp -implicitDefEqProofs only [h0, decide_false, Bool.false_eq_true, if_false, wpS_sbnd, we_k, we_g, we_gf, we_v, wea_v, we_tup, we_lst, we_bin, we_neg, we_not, we_cmp, we_chain, we_and, we_or, we_ite, we_idx, we_sl, wt_no, wt_v, wt_k, wt_bin, wt_neg, wt_idx, we_callG, we_prim, we_meth, we_isi, we_comp, wea_gf, wea_lam0, wea_lam1, we_lam0, we_hcall, wa_nil, wa_cons, waa_nil, waa_cons, wg_tn, wg_tt, wg_tsub, wgs_nil, wgs_cons, gsNil_nil, wi_iv, wi_ir1, wi_ir2, wi_ien, wi_izip, wi_izl, ws_asg, ws_par, ws_ex, ws_ret, ws_retN, ws_pass, ws_brk, ws_iff, ws_forr, ws_raise, wss_nil, wss_cons, wtru_eq, wp_ok, wp_exc, wp_oth_some, wea_k, wea_g, wea_tup, wea_lst, wea_bin, wea_neg, wea_not, wea_cmp, wea_chain, wea_and, wea_or, wea_ite, wea_idx, wea_sl, wea_call, wea_prim, wea_meth, wea_isi, wea_comp, slotD_z, slotD_s, slotA_z, slotA_s, newTup0, newTup1, newTup2, newTup3, newTup4, tr_non, tr_bl, tr_int, tr_tup, len_tup, atI0, atI1, idx_tup, it_tup, un_tup, int_of, lt_int, le_int, gt_int, ge_int, cmp_eq, cmp_ne, cmp_is, cmp_isnot, eqD_int, eqD_bl, lt_tup, List.set_cons_succ, List.set_cons_zero, startD, List.map_cons, List.map_nil, List.length_cons, List.length_nil, Nat.zero_add, Nat.reduceAdd, Nat.reduceSub, Nat.sub_self, List.replicate_succ, List.replicate_zero, List.cons_append, List.nil_append, Option.map_some, Kst.d, if_true, if_false, Bool.false_eq_true, wp_add_int, wp_sub_int, isiA, calA]
    rw [wp_mul_int (by rw [show big 48271 = true by decide, Bool.or_true])]
    simp -implicitDefEqProofs only [wpS_sbnd, we_k, we_g, we_gf, we_v, wea_v, we_tup, we_lst, we_bin, we_neg, we_not, we_cmp, we_chain, we_and, we_or, we_ite, we_idx, we_sl, wt_no, wt_v, wt_k, wt_bin, wt_neg, wt_idx, we_callG, we_prim, we_meth, we_isi, we_comp, wea_gf, wea_lam0, wea_lam1, we_lam0, we_hcall, wa_nil, wa_cons, waa_nil, waa_cons, wg_tn, wg_tt, wg_tsub, wgs_nil, wgs_cons, gsNil_nil, wi_iv, wi_ir1, wi_ir2, wi_ien, wi_izip, wi_izl, ws_asg, ws_par, ws_ex, ws_ret, ws_retN, ws_pass, ws_brk, ws_iff, ws_forr, ws_raise, wss_nil, wss_cons, wtru_eq, wp_ok, wp_exc, wp_oth_some, wea_k, wea_g, wea_tup, wea_lst, wea_bin, wea_neg, wea_not, wea_cmp, wea_chain, wea_and, wea_or, wea_ite, wea_idx, wea_sl, wea_call, wea_prim, wea_meth, wea_isi, wea_comp, slotD_z, slotD_s, slotA_z, slotA_s, newTup0, newTup1, newTup2, newTup3, newTup4, tr_non, tr_bl, tr_int, tr_tup, len_tup, atI0, atI1, idx_tup, it_tup, un_tup, int_of, lt_int, le_int, gt_int, ge_int, cmp_eq, cmp_ne, cmp_is, cmp_isnot, eqD_int, eqD_bl, lt_tup, List.set_cons_succ, List.set_cons_zero, startD, List.map_cons, List.map_nil, List.length_cons, List.length_nil, Nat.zero_add, Nat.reduceAdd, Nat.reduceSub, Nat.sub_self, List.replicate_succ, List.replicate_zero, List.cons_append, List.nil_append, Option.map_some, Kst.d, if_true, if_false, Bool.false_eq_true, wp_add_int, wp_sub_int, isiA, calA, prim_int]
    rw [wp_mod_int (by decide), wp_set1 hl]
    have c1 : 0 ≤ (b * 48271 + 97) % 2147483179 := Int.emod_nonneg _ (by decide)
    have c2 : (b * 48271 + 97) % 2147483179 < 2147483179 := Int.emod_lt_of_pos _ (by decide)
    generalize (b * 48271 + 97) % 2147483179 = c at c1 c2 ⊢
    have hl2 := listAt_set (ds := [D.int a, D.int c]) hl
    simp -implicitDefEqProofs only [wpS_sbnd, we_k, we_g, we_gf, we_v, wea_v, we_tup, we_lst, we_bin, we_neg, we_not, we_cmp, we_chain, we_and, we_or, we_ite, we_idx, we_sl, wt_no, wt_v, wt_k, wt_bin, wt_neg, wt_idx, we_callG, we_prim, we_meth, we_isi, we_comp, wea_gf, wea_lam0, wea_lam1, we_lam0, we_hcall, wa_nil, wa_cons, waa_nil, waa_cons, wg_tn, wg_tt, wg_tsub, wgs_nil, wgs_cons, gsNil_nil, wi_iv, wi_ir1, wi_ir2, wi_ien, wi_izip, wi_izl, ws_asg, ws_par, ws_ex, ws_ret, ws_retN, ws_pass, ws_brk, ws_iff, ws_forr, ws_raise, wss_nil, wss_cons, wtru_eq, wp_ok, wp_exc, wp_oth_some, wea_k, wea_g, wea_tup, wea_lst, wea_bin, wea_neg, wea_not, wea_cmp, wea_chain, wea_and, wea_or, wea_ite, wea_idx, wea_sl, wea_call, wea_prim, wea_meth, wea_isi, wea_comp, slotD_z, slotD_s, slotA_z, slotA_s, newTup0, newTup1, newTup2, newTup3, newTup4, tr_non, tr_bl, tr_int, tr_tup, len_tup, atI0, atI1, idx_tup, it_tup, un_tup, int_of, lt_int, le_int, gt_int, ge_int, cmp_eq, cmp_ne, cmp_is, cmp_isnot, eqD_int, eqD_bl, lt_tup, List.set_cons_succ, List.set_cons_zero, startD, List.map_cons, List.map_nil, List.length_cons, List.length_nil, Nat.zero_add, Nat.reduceAdd, Nat.reduceSub, Nat.sub_self, List.replicate_succ, List.replicate_zero, List.cons_append, List.nil_append, Option.map_some, Kst.d, if_true, if_false, Bool.false_eq_true, wp_add_int, wp_sub_int, isiA, calA, idx_lst hl2]
    rw [wp_fdiv_int (by decide) (by decide)]
    simp -implicitDefEqProofs only [wpS_sbnd, we_k, we_g, we_gf, we_v, wea_v, we_tup, we_lst, we_bin, we_neg, we_not, we_cmp, we_chain, we_and, we_or, we_ite, we_idx, we_sl, wt_no, wt_v, wt_k, wt_bin, wt_neg, wt_idx, we_callG, we_prim, we_meth, we_isi, we_comp, wea_gf, wea_lam0, wea_lam1, we_lam0, we_hcall, wa_nil, wa_cons, waa_nil, waa_cons, wg_tn, wg_tt, wg_tsub, wgs_nil, wgs_cons, gsNil_nil, wi_iv, wi_ir1, wi_ir2, wi_ien, wi_izip, wi_izl, ws_asg, ws_par, ws_ex, ws_ret, ws_retN, ws_pass, ws_brk, ws_iff, ws_forr, ws_raise, wss_nil, wss_cons, wtru_eq, wp_ok, wp_exc, wp_oth_some, wea_k, wea_g, wea_tup, wea_lst, wea_bin, wea_neg, wea_not, wea_cmp, wea_chain, wea_and, wea_or, wea_ite, wea_idx, wea_sl, wea_call, wea_prim, wea_meth, wea_isi, wea_comp, slotD_z, slotD_s, slotA_z, slotA_s, newTup0, newTup1, newTup2, newTup3, newTup4, tr_non, tr_bl, tr_int, tr_tup, len_tup, atI0, atI1, idx_tup, it_tup, un_tup, int_of, lt_int, le_int, gt_int, ge_int, cmp_eq, cmp_ne, cmp_is, cmp_isnot, eqD_int, eqD_bl, lt_tup, List.set_cons_succ, List.set_cons_zero, startD, List.map_cons, List.map_nil, List.length_cons, List.length_nil, Nat.zero_add, Nat.reduceAdd, Nat.reduceSub, Nat.sub_self, List.replicate_succ, List.replicate_zero, List.cons_append, List.nil_append, Option.map_some, Kst.d, if_true, if_false, Bool.false_eq_true, wp_add_int, wp_sub_int, isiA, calA]
    rw [wp_mul_int (by rw [big_small c1 (by omega), Bool.true_or])]
    simp -implicitDefEqProofs only [wpS_sbnd, we_k, we_g, we_gf, we_v, wea_v, we_tup, we_lst, we_bin, we_neg, we_not, we_cmp, we_chain, we_and, we_or, we_ite, we_idx, we_sl, wt_no, wt_v, wt_k, wt_bin, wt_neg, wt_idx, we_callG, we_prim, we_meth, we_isi, we_comp, wea_gf, wea_lam0, wea_lam1, we_lam0, we_hcall, wa_nil, wa_cons, waa_nil, waa_cons, wg_tn, wg_tt, wg_tsub, wgs_nil, wgs_cons, gsNil_nil, wi_iv, wi_ir1, wi_ir2, wi_ien, wi_izip, wi_izl, ws_asg, ws_par, ws_ex, ws_ret, ws_retN, ws_pass, ws_brk, ws_iff, ws_forr, ws_raise, wss_nil, wss_cons, wtru_eq, wp_ok, wp_exc, wp_oth_some, wea_k, wea_g, wea_tup, wea_lst, wea_bin, wea_neg, wea_not, wea_cmp, wea_chain, wea_and, wea_or, wea_ite, wea_idx, wea_sl, wea_call, wea_prim, wea_meth, wea_isi, wea_comp, slotD_z, slotD_s, slotA_z, slotA_s, newTup0, newTup1, newTup2, newTup3, newTup4, tr_non, tr_bl, tr_int, tr_tup, len_tup, atI0, atI1, idx_tup, it_tup, un_tup, int_of, lt_int, le_int, gt_int, ge_int, cmp_eq, cmp_ne, cmp_is, cmp_isnot, eqD_int, eqD_bl, lt_tup, List.set_cons_succ, List.set_cons_zero, startD, List.map_cons, List.map_nil, List.length_cons, List.length_nil, Nat.zero_add, Nat.reduceAdd, Nat.reduceSub, Nat.sub_self, List.replicate_succ, List.replicate_zero, List.cons_append, List.nil_append, Option.map_some, Kst.d, if_true, if_false, Bool.false_eq_true, wp_add_int, wp_sub_int, isiA, calA, prim_int]
    rw [wp_mod_int (by decide)]
    try simp -implicitDefEqProofs only [wpS_sbnd, we_k, we_g, we_gf, we_v, wea_v, we_tup, we_lst, we_bin, we_neg, we_not, we_cmp, we_chain, we_and, we_or, we_ite, we_idx, we_sl, wt_no, wt_v, wt_k, wt_bin, wt_neg, wt_idx, we_callG, we_prim, we_meth, we_isi, we_comp, wea_gf, wea_lam0, wea_lam1, we_lam0, we_hcall, wa_nil, wa_cons, waa_nil, waa_cons, wg_tn, wg_tt, wg_tsub, wgs_nil, wgs_cons, gsNil_nil, wi_iv, wi_ir1, wi_ir2, wi_ien, wi_izip, wi_izl, ws_asg, ws_par, ws_ex, ws_ret, ws_retN, ws_pass, ws_brk, ws_iff, ws_forr, ws_raise, wss_nil, wss_cons, wtru_eq, wp_ok, wp_exc, wp_oth_some, wea_k, wea_g, wea_tup, wea_lst, wea_bin, wea_neg, wea_not, wea_cmp, wea_chain, wea_and, wea_or, wea_ite, wea_idx, wea_sl, wea_call, wea_prim, wea_meth, wea_isi, wea_comp, slotD_z, slotD_s, slotA_z, slotA_s, newTup0, newTup1, newTup2, newTup3, newTup4, tr_non, tr_bl, tr_int, tr_tup, len_tup, atI0, atI1, idx_tup, it_tup, un_tup, int_of, lt_int, le_int, gt_int, ge_int, cmp_eq, cmp_ne, cmp_is, cmp_isnot, eqD_int, eqD_bl, lt_tup, List.set_cons_succ, List.set_cons_zero, startD, List.map_cons, List.map_nil, List.length_cons, List.length_nil, Nat.zero_add, Nat.reduceAdd, Nat.reduceSub, Nat.sub_self, List.replicate_succ, List.replicate_zero, List.cons_append, List.nil_append, Option.map_some, Kst.d, if_true, if_false, Bool.false_eq_true, wp_add_int, wp_sub_int, isiA, calA]
    rw [wp_fdiv_int (by decide) (by decide)]
    simp -implicitDefEqProofs only [wpS_sbnd, we_k, we_g, we_gf, we_v, wea_v, we_tup, we_lst, we_bin, we_neg, we_not, we_cmp, we_chain, we_and, we_or, we_ite, we_idx, we_sl, wt_no, wt_v, wt_k, wt_bin, wt_neg, wt_idx, we_callG, we_prim, we_meth, we_isi, we_comp, wea_gf, wea_lam0, wea_lam1, we_lam0, we_hcall, wa_nil, wa_cons, waa_nil, waa_cons, wg_tn, wg_tt, wg_tsub, wgs_nil, wgs_cons, gsNil_nil, wi_iv, wi_ir1, wi_ir2, wi_ien, wi_izip, wi_izl, ws_asg, ws_par, ws_ex, ws_ret, ws_retN, ws_pass, ws_brk, ws_iff, ws_forr, ws_raise, wss_nil, wss_cons, wtru_eq, wp_ok, wp_exc, wp_oth_some, wea_k, wea_g, wea_tup, wea_lst, wea_bin, wea_neg, wea_not, wea_cmp, wea_chain, wea_and, wea_or, wea_ite, wea_idx, wea_sl, wea_call, wea_prim, wea_meth, wea_isi, wea_comp, slotD_z, slotD_s, slotA_z, slotA_s, newTup0, newTup1, newTup2, newTup3, newTup4, tr_non, tr_bl, tr_int, tr_tup, len_tup, atI0, atI1, idx_tup, it_tup, un_tup, int_of, lt_int, le_int, gt_int, ge_int, cmp_eq, cmp_ne, cmp_is, cmp_isnot, eqD_int, eqD_bl, lt_tup, List.set_cons_succ, List.set_cons_zero, startD, List.map_cons, List.map_nil, List.length_cons, List.length_nil, Nat.zero_add, Nat.reduceAdd, Nat.reduceSub, Nat.sub_self, List.replicate_succ, List.replicate_zero, List.cons_append, List.nil_append, Option.map_some, Kst.d, if_true, if_false, Bool.false_eq_true, wp_add_int, wp_sub_int, isiA, calA, prim_int]
    rw [wp_mod_int h1]
    exact h _ _ (Int.emod_nonneg _ (by omega)) (Int.emod_lt_of_pos _ h1) (Fr.set _ _ _) ⟨_, _, hl2, ha, c1, c2⟩
theorem atI_nat {α : Type} {ds : List α} {i : Int} (h1 : 0 ≤ i) (h2 : i < ds.length) : ∃ d, atI ds i = some d ∧ ds[i.toNat]? = some d ∧ d ∈ ds := by
  have hi : i.toNat < ds.length := by omega
  refine ⟨ds[i.toNat], ?_, List.getElem?_eq_getElem hi, List.getElem_mem hi⟩
  unfold atI ixN
  rw [if_pos h1, if_pos h2]
  exact List.getElem?_eq_getElem hi
theorem w_choice {j : Nat} {ds : List D} (hn : 2 ≤ n) (hs : Src k st) (hj : listAt st j = some ds) (hne : j ≠ k) (hd : ds ≠ []) (hl : ds.length < 1000) (h : ∀ d st', d ∈ ds → Fr k st st' → Src k st' → Q d st') : wp (callN prog W n (.d (.fn 14)) [.d (.loc k), .d (.loc j)] st) Q E := by
  obtain ⟨n, rfl⟩ : ∃ m, n = m + 2 := ⟨n - 2, by omega⟩
  rw [wp_fn (d := ⟨2, 2, c__law_choice⟩) rfl rfl]
  simp -implicitDefEqProofs only [c__law_choice, wpS_sbnd, we_k, we_g, we_gf, we_v, wea_v, we_tup, we_lst, we_bin, we_neg, we_not, we_cmp, we_chain, we_and, we_or, we_ite, we_idx, we_sl, wt_no, wt_v, wt_k, wt_bin, wt_neg, wt_idx, we_callG, we_prim, we_meth, we_isi, we_comp, wea_gf, wea_lam0, wea_lam1, we_lam0, we_hcall, wa_nil, wa_cons, waa_nil, waa_cons, wg_tn, wg_tt, wg_tsub, wgs_nil, wgs_cons, gsNil_nil, wi_iv, wi_ir1, wi_ir2, wi_ien, wi_izip, wi_izl, ws_asg, ws_par, ws_ex, ws_ret, ws_retN, ws_pass, ws_brk, ws_iff, ws_forr, ws_raise, wss_nil, wss_cons, wtru_eq, wp_ok, wp_exc, wp_oth_some, wea_k, wea_g, wea_tup, wea_lst, wea_bin, wea_neg, wea_not, wea_cmp, wea_chain, wea_and, wea_or, wea_ite, wea_idx, wea_sl, wea_call, wea_prim, wea_meth, wea_isi, wea_comp, slotD_z, slotD_s, slotA_z, slotA_s, newTup0, newTup1, newTup2, newTup3, newTup4, tr_non, tr_bl, tr_int, tr_tup, len_tup, atI0, atI1, idx_tup, it_tup, un_tup, int_of, lt_int, le_int, gt_int, ge_int, cmp_eq, cmp_ne, cmp_is, cmp_isnot, eqD_int, eqD_bl, lt_tup, List.set_cons_succ, List.set_cons_zero, startD, List.map_cons, List.map_nil, List.length_cons, List.length_nil, Nat.zero_add, Nat.reduceAdd, Nat.reduceSub, Nat.sub_self, List.replicate_succ, List.replicate_zero, List.cons_append, List.nil_append, Option.map_some, Kst.d, if_true, if_false, Bool.false_eq_true, wp_add_int, wp_sub_int, isiA, calA, len_lst hj]
  have hp : 0 < ds.length := List.length_pos_iff.mpr hd
  refine w_draw hs (by omega) (by omega) fun r st' r0 r1 f s => ?_
  obtain ⟨d, h1, _, h3⟩ := atI_nat r0 r1
  simp -implicitDefEqProofs only [wpS_sbnd, we_k, we_g, we_gf, we_v, wea_v, we_tup, we_lst, we_bin, we_neg, we_not, we_cmp, we_chain, we_and, we_or, we_ite, we_idx, we_sl, wt_no, wt_v, wt_k, wt_bin, wt_neg, wt_idx, we_callG, we_prim, we_meth, we_isi, we_comp, wea_gf, wea_lam0, wea_lam1, we_lam0, we_hcall, wa_nil, wa_cons, waa_nil, waa_cons, wg_tn, wg_tt, wg_tsub, wgs_nil, wgs_cons, gsNil_nil, wi_iv, wi_ir1, wi_ir2, wi_ien, wi_izip, wi_izl, ws_asg, ws_par, ws_ex, ws_ret, ws_retN, ws_pass, ws_brk, ws_iff, ws_forr, ws_raise, wss_nil, wss_cons, wtru_eq, wp_ok, wp_exc, wp_oth_some, wea_k, wea_g, wea_tup, wea_lst, wea_bin, wea_neg, wea_not, wea_cmp, wea_chain, wea_and, wea_or, wea_ite, wea_idx, wea_sl, wea_call, wea_prim, wea_meth, wea_isi, wea_comp, slotD_z, slotD_s, slotA_z, slotA_s, newTup0, newTup1, newTup2, newTup3, newTup4, tr_non, tr_bl, tr_int, tr_tup, len_tup, atI0, atI1, idx_tup, it_tup, un_tup, int_of, lt_int, le_int, gt_int, ge_int, cmp_eq, cmp_ne, cmp_is, cmp_isnot, eqD_int, eqD_bl, lt_tup, List.set_cons_succ, List.set_cons_zero, startD, List.map_cons, List.map_nil, List.length_cons, List.length_nil, Nat.zero_add, Nat.reduceAdd, Nat.reduceSub, Nat.sub_self, List.replicate_succ, List.replicate_zero, List.cons_append, List.nil_append, Option.map_some, Kst.d, if_true, if_false, Bool.false_eq_true, wp_add_int, wp_sub_int, isiA, calA, idx_lst (f.2 _ _ hne hj), h1]
  exact h d st' h3 f s
/-- the script -/
def IsScr (st : Store) (d : D) (ns : List Int) : Prop := d = .rol (ns.map D.int) ∨ ∃ j, d = .loc j ∧ listAt st j = some (ns.map D.int)
theorem IsScr.ex {st st' : Store} {d : D} {ns : List Int} (h : IsScr st d ns) (x : Ex st st') : IsScr st' d ns := h.imp id fun ⟨j, e, h⟩ => ⟨j, e, x.2 _ _ h⟩
theorem IsScr.len {d : D} {ns : List Int} (h : IsScr st d ns) : primD st .len [d] = .ok (.int ns.length) st := by
  rcases h with e | ⟨j, e, h⟩
  · subst e
    show oth (some (D.int ((ns.map D.int).length : Nat))) st = _
    rw [List.length_map]
    rfl
  · subst e
    rw [len_lst h, List.length_map]
theorem IsScr.idx {d : D} {ns : List Int} {i : Int} (h : IsScr st d ns) (h0 : 0 ≤ i) (h1 : i < ns.length) : ∃ z, idxD st d (.int i) = some (.int z) := by
  obtain ⟨x, e1, _, e3⟩ := atI_nat (ds := ns.map D.int) h0 (by rw [List.length_map]; exact h1)
  obtain ⟨z, _, rfl⟩ := List.mem_map.mp e3
  refine ⟨z, ?_⟩
  rcases h with e | ⟨j, e, h⟩
  · subst e; exact e1
  · subst e; rw [idx_lst h]; exact e1
theorem w_source {d : D} {ns : List Int} {i : Int} (hs : IsScr st d ns) (h0 : 0 ≤ i) (hi : i < 1000) (h : ∀ a b : Int, 0 ≤ a → 0 ≤ b → b < 2147483179 → Q (.loc st.length) (st ++ [.lst [.int a, .int b]])) : wp (callN prog W (n + 1) (.d (.fn 12)) [.d d, .d (.int i)] st) Q E := by
  rw [wp_fn (d := ⟨2, 3, c__law_source⟩) rfl rfl]
  simp -implicitDefEqProofs only [c__law_source, wpS_sbnd, we_k, we_g, we_gf, we_v, wea_v, we_tup, we_lst, we_bin, we_neg, we_not, we_cmp, we_chain, we_and, we_or, we_ite, we_idx, we_sl, wt_no, wt_v, wt_k, wt_bin, wt_neg, wt_idx, we_callG, we_prim, we_meth, we_isi, we_comp, wea_gf, wea_lam0, wea_lam1, we_lam0, we_hcall, wa_nil, wa_cons, waa_nil, waa_cons, wg_tn, wg_tt, wg_tsub, wgs_nil, wgs_cons, gsNil_nil, wi_iv, wi_ir1, wi_ir2, wi_ien, wi_izip, wi_izl, ws_asg, ws_par, ws_ex, ws_ret, ws_retN, ws_pass, ws_brk, ws_iff, ws_forr, ws_raise, wss_nil, wss_cons, wtru_eq, wp_ok, wp_exc, wp_oth_some, wea_k, wea_g, wea_tup, wea_lst, wea_bin, wea_neg, wea_not, wea_cmp, wea_chain, wea_and, wea_or, wea_ite, wea_idx, wea_sl, wea_call, wea_prim, wea_meth, wea_isi, wea_comp, slotD_z, slotD_s, slotA_z, slotA_s, newTup0, newTup1, newTup2, newTup3, newTup4, tr_non, tr_bl, tr_int, tr_tup, len_tup, atI0, atI1, idx_tup, it_tup, un_tup, int_of, lt_int, le_int, gt_int, ge_int, cmp_eq, cmp_ne, cmp_is, cmp_isnot, eqD_int, eqD_bl, lt_tup, List.set_cons_succ, List.set_cons_zero, startD, List.map_cons, List.map_nil, List.length_cons, List.length_nil, Nat.zero_add, Nat.reduceAdd, Nat.reduceSub, Nat.sub_self, List.replicate_succ, List.replicate_zero, List.cons_append, List.nil_append, Option.map_some, Kst.d, if_true, if_false, Bool.false_eq_true, wp_add_int, wp_sub_int, isiA, calA, hs.len]
  have hp : binD st .pow (.int 10) (.int 17) = .ok (.int 100000000000000000) st := by simp [binD, big]
  have b1 : big 16807 = true := by decide
  have b2 : big 10079 = true := by decide
  have b3 : big 139 = true := by decide
  have fin : ∀ c : Int, 0 ≤ c → ∀ x, (x = c ∨ x = 0) → wp (binD st .mul (.int c) (.int 16807)) (fun x1 st1 => wp (binD st1 .mul (.int 10079) (.int i)) (fun y st2 => wp (binD st2 .add x1 y) (fun x2 st1 => wp (binD st1 .add x2 (.int 101)) (fun d2 st1 => wp (primD st1 .int [d2]) (fun x3 st1 => wp (binD st1 .mod x3 (.int 2147483179)) (fun d3 st1 => wp (newList [.int x, d3] st1) (fun d st1 => Q d st1) E) E) E) E) E) E) E := fun c hc x hx => by
    rw [wp_mul_int (by rw [b1, Bool.or_true])]
    try simp -implicitDefEqProofs only [wpS_sbnd, we_k, we_g, we_gf, we_v, wea_v, we_tup, we_lst, we_bin, we_neg, we_not, we_cmp, we_chain, we_and, we_or, we_ite, we_idx, we_sl, wt_no, wt_v, wt_k, wt_bin, wt_neg, wt_idx, we_callG, we_prim, we_meth, we_isi, we_comp, wea_gf, wea_lam0, wea_lam1, we_lam0, we_hcall, wa_nil, wa_cons, waa_nil, waa_cons, wg_tn, wg_tt, wg_tsub, wgs_nil, wgs_cons, gsNil_nil, wi_iv, wi_ir1, wi_ir2, wi_ien, wi_izip, wi_izl, ws_asg, ws_par, ws_ex, ws_ret, ws_retN, ws_pass, ws_brk, ws_iff, ws_forr, ws_raise, wss_nil, wss_cons, wtru_eq, wp_ok, wp_exc, wp_oth_some, wea_k, wea_g, wea_tup, wea_lst, wea_bin, wea_neg, wea_not, wea_cmp, wea_chain, wea_and, wea_or, wea_ite, wea_idx, wea_sl, wea_call, wea_prim, wea_meth, wea_isi, wea_comp, slotD_z, slotD_s, slotA_z, slotA_s, newTup0, newTup1, newTup2, newTup3, newTup4, tr_non, tr_bl, tr_int, tr_tup, len_tup, atI0, atI1, idx_tup, it_tup, un_tup, int_of, lt_int, le_int, gt_int, ge_int, cmp_eq, cmp_ne, cmp_is, cmp_isnot, eqD_int, eqD_bl, lt_tup, List.set_cons_succ, List.set_cons_zero, startD, List.map_cons, List.map_nil, List.length_cons, List.length_nil, Nat.zero_add, Nat.reduceAdd, Nat.reduceSub, Nat.sub_self, List.replicate_succ, List.replicate_zero, List.cons_append, List.nil_append, Option.map_some, Kst.d, if_true, if_false, Bool.false_eq_true, wp_add_int, wp_sub_int, isiA, calA]
    rw [wp_mul_int (by rw [b2, Bool.true_or])]
    try simp -implicitDefEqProofs only [wpS_sbnd, we_k, we_g, we_gf, we_v, wea_v, we_tup, we_lst, we_bin, we_neg, we_not, we_cmp, we_chain, we_and, we_or, we_ite, we_idx, we_sl, wt_no, wt_v, wt_k, wt_bin, wt_neg, wt_idx, we_callG, we_prim, we_meth, we_isi, we_comp, wea_gf, wea_lam0, wea_lam1, we_lam0, we_hcall, wa_nil, wa_cons, waa_nil, waa_cons, wg_tn, wg_tt, wg_tsub, wgs_nil, wgs_cons, gsNil_nil, wi_iv, wi_ir1, wi_ir2, wi_ien, wi_izip, wi_izl, ws_asg, ws_par, ws_ex, ws_ret, ws_retN, ws_pass, ws_brk, ws_iff, ws_forr, ws_raise, wss_nil, wss_cons, wtru_eq, wp_ok, wp_exc, wp_oth_some, wea_k, wea_g, wea_tup, wea_lst, wea_bin, wea_neg, wea_not, wea_cmp, wea_chain, wea_and, wea_or, wea_ite, wea_idx, wea_sl, wea_call, wea_prim, wea_meth, wea_isi, wea_comp, slotD_z, slotD_s, slotA_z, slotA_s, newTup0, newTup1, newTup2, newTup3, newTup4, tr_non, tr_bl, tr_int, tr_tup, len_tup, atI0, atI1, idx_tup, it_tup, un_tup, int_of, lt_int, le_int, gt_int, ge_int, cmp_eq, cmp_ne, cmp_is, cmp_isnot, eqD_int, eqD_bl, lt_tup, List.set_cons_succ, List.set_cons_zero, startD, List.map_cons, List.map_nil, List.length_cons, List.length_nil, Nat.zero_add, Nat.reduceAdd, Nat.reduceSub, Nat.sub_self, List.replicate_succ, List.replicate_zero, List.cons_append, List.nil_append, Option.map_some, Kst.d, if_true, if_false, Bool.false_eq_true, wp_add_int, wp_sub_int, isiA, calA, prim_int]
    rw [wp_mod_int (by decide)]
    refine wp_newList (lim_le (by show 2 ≤ 100000; decide)) ?_
    exact h _ _ (by omega) (Int.emod_nonneg _ (by decide)) (Int.emod_lt_of_pos _ (by decide))
  by_cases hlt : i < (ns.length : Int)
  · simp only [hlt, decide_true, if_true]
    obtain ⟨z, hz⟩ := hs.idx h0 hlt
    simp -implicitDefEqProofs only [hz, wpS_sbnd, we_k, we_g, we_gf, we_v, wea_v, we_tup, we_lst, we_bin, we_neg, we_not, we_cmp, we_chain, we_and, we_or, we_ite, we_idx, we_sl, wt_no, wt_v, wt_k, wt_bin, wt_neg, wt_idx, we_callG, we_prim, we_meth, we_isi, we_comp, wea_gf, wea_lam0, wea_lam1, we_lam0, we_hcall, wa_nil, wa_cons, waa_nil, waa_cons, wg_tn, wg_tt, wg_tsub, wgs_nil, wgs_cons, gsNil_nil, wi_iv, wi_ir1, wi_ir2, wi_ien, wi_izip, wi_izl, ws_asg, ws_par, ws_ex, ws_ret, ws_retN, ws_pass, ws_brk, ws_iff, ws_forr, ws_raise, wss_nil, wss_cons, wtru_eq, wp_ok, wp_exc, wp_oth_some, wea_k, wea_g, wea_tup, wea_lst, wea_bin, wea_neg, wea_not, wea_cmp, wea_chain, wea_and, wea_or, wea_ite, wea_idx, wea_sl, wea_call, wea_prim, wea_meth, wea_isi, wea_comp, slotD_z, slotD_s, slotA_z, slotA_s, newTup0, newTup1, newTup2, newTup3, newTup4, tr_non, tr_bl, tr_int, tr_tup, len_tup, atI0, atI1, idx_tup, it_tup, un_tup, int_of, lt_int, le_int, gt_int, ge_int, cmp_eq, cmp_ne, cmp_is, cmp_isnot, eqD_int, eqD_bl, lt_tup, List.set_cons_succ, List.set_cons_zero, startD, List.map_cons, List.map_nil, List.length_cons, List.length_nil, Nat.zero_add, Nat.reduceAdd, Nat.reduceSub, Nat.sub_self, List.replicate_succ, List.replicate_zero, List.cons_append, List.nil_append, Option.map_some, Kst.d, if_true, if_false, Bool.false_eq_true, wp_add_int, wp_sub_int, isiA, calA, prim_int, prim_abs, hp]
    have hc : 0 ≤ (if z < 0 then -z else z) := by split <;> omega
    generalize (if z < 0 then -z else z) = c at hc ⊢
    by_cases hb : 100000000000000000 < c
    · simp only [hb, decide_true, if_true]
      exact fin c hc c (.inl rfl)
    · simp only [hb, decide_false, Bool.false_eq_true, if_false]
      exact fin c hc 0 (.inr rfl)
  · simp only [hlt, decide_false, Bool.false_eq_true, if_false]
    rw [wp_mul_int (by rw [b3, Bool.true_or])]
    simp -implicitDefEqProofs only [wpS_sbnd, we_k, we_g, we_gf, we_v, wea_v, we_tup, we_lst, we_bin, we_neg, we_not, we_cmp, we_chain, we_and, we_or, we_ite, we_idx, we_sl, wt_no, wt_v, wt_k, wt_bin, wt_neg, wt_idx, we_callG, we_prim, we_meth, we_isi, we_comp, wea_gf, wea_lam0, wea_lam1, we_lam0, we_hcall, wa_nil, wa_cons, waa_nil, waa_cons, wg_tn, wg_tt, wg_tsub, wgs_nil, wgs_cons, gsNil_nil, wi_iv, wi_ir1, wi_ir2, wi_ien, wi_izip, wi_izl, ws_asg, ws_par, ws_ex, ws_ret, ws_retN, ws_pass, ws_brk, ws_iff, ws_forr, ws_raise, wss_nil, wss_cons, wtru_eq, wp_ok, wp_exc, wp_oth_some, wea_k, wea_g, wea_tup, wea_lst, wea_bin, wea_neg, wea_not, wea_cmp, wea_chain, wea_and, wea_or, wea_ite, wea_idx, wea_sl, wea_call, wea_prim, wea_meth, wea_isi, wea_comp, slotD_z, slotD_s, slotA_z, slotA_s, newTup0, newTup1, newTup2, newTup3, newTup4, tr_non, tr_bl, tr_int, tr_tup, len_tup, atI0, atI1, idx_tup, it_tup, un_tup, int_of, lt_int, le_int, gt_int, ge_int, cmp_eq, cmp_ne, cmp_is, cmp_isnot, eqD_int, eqD_bl, lt_tup, List.set_cons_succ, List.set_cons_zero, startD, List.map_cons, List.map_nil, List.length_cons, List.length_nil, Nat.zero_add, Nat.reduceAdd, Nat.reduceSub, Nat.sub_self, List.replicate_succ, List.replicate_zero, List.cons_append, List.nil_append, Option.map_some, Kst.d, if_true, if_false, Bool.false_eq_true, wp_add_int, wp_sub_int, isiA, calA, hp]
    have hb : ¬ 100000000000000000 < 139 * i + 79 := by omega
    simp only [hb, decide_false, Bool.false_eq_true, if_false]
    exact fin _ (by omega) 0 (.inr rfl)
end
end K01

set_option Elab.async false
set_option linter.all false
set_option maxRecDepth 100000
/-! law k01: random nestings. -/
namespace K01
open PF
theorem cut_to {α : Type} {ds : List α} {i : Int} (h0 : 0 ≤ i) : cut ds none (some i) = ds.take i.toNat := by
  unfold cut
  simp only [sIx]
  rw [if_neg (by omega)]
  simp only [List.drop_zero, Nat.sub_zero]
  by_cases h : i.toNat ≤ ds.length
  · rw [Nat.min_eq_left h]
  · rw [Nat.min_eq_right (by omega), List.take_of_length_le (Nat.le_refl _), List.take_of_length_le (by omega)]
theorem cut_from {α : Type} {ds : List α} {i : Int} (h0 : 0 ≤ i) : cut ds (some i) none = ds.drop i.toNat := by
  unfold cut
  simp only [sIx]
  rw [if_neg (by omega)]
  by_cases h : i.toNat ≤ ds.length
  · rw [Nat.min_eq_left h, List.take_of_length_le (by rw [List.length_drop]; omega)]
  · rw [Nat.min_eq_right (by omega), List.drop_of_length_le (Nat.le_refl _), List.drop_of_length_le (by omega)]
    simp
theorem sl_tup {st : Store} {lo hi : Option Int} {ds : List D} : slD st lo hi (.tup ds) = .ok (.tup (cut ds lo hi)) st := rfl
theorem at_row {stands : Int} : ∀ (r : Rw) (i : Nat), i < (rowDs r).length → ∃ a b, (rowDs r)[i]? = some (.tup [.int a, rowD b]) ∧ dp b + 1 ≤ dp r ∧ (ok stands r → ok stands b ∧ 0 ≤ a ∧ a < stands) ∧ sz b + 1 ≤ sz r ∧
    ∀ x, ∃ r', rowDs r' = (rowDs r).take i ++ [.tup [.int a, rowD x]] ++ (rowDs r).drop (i + 1) ∧ sz r' + sz b = sz r + sz x ∧ dp r' ≤ max (dp r) (1 + dp x) ∧ (ok stands r → ok stands x → ok stands r')
  | .nil, i, h => by simp [rowDs] at h
  | .cons a b r, 0, _ => by
    refine ⟨a, b, rfl, by simp only [dp]; omega, fun ⟨o1, o2, o3, o4⟩ => ⟨o3, o1, o2⟩, by simp only [sz]; omega, fun x => ⟨.cons a x r, rfl, by simp only [sz]; omega, by simp only [dp]; omega, fun ⟨o1, o2, o3, o4⟩ ox => ⟨o1, o2, ox, o4⟩⟩⟩
  | .cons a b r, i + 1, h => by
    obtain ⟨a', b', h1, h2, h3, h4, h5⟩ := at_row (stands := stands) r i (by simpa [rowDs] using h)
    refine ⟨a', b', by simpa [rowDs] using h1, by simp only [dp]; omega, fun ⟨o1, o2, o3, o4⟩ => h3 o4, by simp only [sz]; omega, fun x => ?_⟩
    obtain ⟨r', q1, q2, q3, q4⟩ := h5 x
    refine ⟨.cons a b r', by simp [rowDs, q1], by simp only [sz]; omega, by simp only [dp]; omega, fun ⟨o1, o2, o3, o4⟩ ox => ⟨o1, o2, o3, q4 o4 ox⟩⟩
theorem ins_row {stands s : Int} : ∀ (r : Rw) (i : Nat), i ≤ (rowDs r).length → ∃ r', rowDs r' = (rowDs r).take i ++ [.tup [.int s, .tup []]] ++ (rowDs r).drop i ∧ sz r' = sz r + 1 ∧ dp r' ≤ max (dp r) 1 ∧ (ok stands r → 0 ≤ s → s < stands → ok stands r')
  | r, 0, _ => ⟨.cons s .nil r, by simp [rowDs], by simp only [sz]; omega, by simp only [dp]; omega, fun o h1 h2 => ⟨h1, h2, trivial, o⟩⟩
  | .nil, i + 1, h => by simp [rowDs] at h
  | .cons a b r, i + 1, h => by
    obtain ⟨r', q1, q2, q3, q4⟩ := ins_row (stands := stands) (s := s) r i (by simpa [rowDs] using h)
    exact ⟨.cons a b r', by simp [rowDs, q1], by simp only [sz]; omega, by simp only [dp]; omega, fun ⟨o1, o2, o3, o4⟩ h1 h2 => ⟨o1, o2, o3, q4 o4 h1 h2⟩⟩
theorem atI_some {α : Type} {ds : List α} {i : Int} {d : α} (h1 : 0 ≤ i) (h2 : i < ds.length) (h : ds[i.toNat]? = some d) : atI ds i = some d := by
  obtain ⟨d', e1, e2, _⟩ := atI_nat h1 h2
  rw [h] at e2
  cases e2
  exact e1
section
variable {W k : Nat} {stands : Int}
theorem w_put_in {s : Int} (hs0 : 0 ≤ s) (hs1 : s < stands) : ∀ (deep n : Nat) (r : Rw) (st : Store) (Q : D → Store → Prop) (E : Xn → Store → Prop), Src k st → dp r ≤ deep + 1 → sz r ≤ 500 → ok stands r → deep + 2 ≤ n →
    (∀ r' st', sz r' = sz r + 1 → dp r' ≤ deep + 1 → ok stands r' → Fr k st st' → Src k st' → Q (rowD r') st') → wp (callN prog W n (.d (.fn 23)) [.d (.loc k), .d (rowD r), .d (.int s), .d (.int deep)] st) Q E := by
  intro deep
  induction deep with
  | zero =>
    intro n r st Q E hs hd hz ho hn h
    obtain ⟨n, rfl⟩ : ∃ m, n = m + 2 := ⟨n - 2, by omega⟩
    rw [wp_fn (d := ⟨4, 6, c__law_put_in⟩) rfl rfl]
    simp -implicitDefEqProofs only [c__law_put_in, wpS_sbnd, we_k, we_g, we_gf, we_v, wea_v, we_tup, we_lst, we_bin, we_neg, we_not, we_cmp, we_chain, we_and, we_or, we_ite, we_idx, we_sl, wt_no, wt_v, wt_k, wt_bin, wt_neg, wt_idx, we_callG, we_prim, we_meth, we_isi, we_comp, wea_gf, wea_lam0, wea_lam1, we_lam0, we_hcall, wa_nil, wa_cons, waa_nil, waa_cons, wg_tn, wg_tt, wg_tsub, wgs_nil, wgs_cons, gsNil_nil, wi_iv, wi_ir1, wi_ir2, wi_ien, wi_izip, wi_izl, ws_asg, ws_par, ws_ex, ws_ret, ws_retN, ws_pass, ws_brk, ws_iff, ws_forr, ws_raise, wss_nil, wss_cons, wtru_eq, wp_ok, wp_exc, wp_oth_some, wea_k, wea_g, wea_tup, wea_lst, wea_bin, wea_neg, wea_not, wea_cmp, wea_chain, wea_and, wea_or, wea_ite, wea_idx, wea_sl, wea_call, wea_prim, wea_meth, wea_isi, wea_comp, slotD_z, slotD_s, slotA_z, slotA_s, newTup0, newTup1, newTup2, newTup3, newTup4, tr_non, tr_bl, tr_int, tr_tup, len_tup, atI0, atI1, idx_tup, it_tup, un_tup, int_of, lt_int, le_int, gt_int, ge_int, cmp_eq, cmp_ne, cmp_is, cmp_isnot, eqD_int, eqD_bl, lt_tup, List.set_cons_succ, List.set_cons_zero, startD, List.map_cons, List.map_nil, List.length_cons, List.length_nil, Nat.zero_add, Nat.reduceAdd, Nat.reduceSub, Nat.sub_self, List.replicate_succ, List.replicate_zero, List.cons_append, List.nil_append, Option.map_some, Kst.d, if_true, if_false, Bool.false_eq_true, wp_add_int, wp_sub_int, isiA, calA]
    have hl := row_len r
    refine w_draw hs (by omega) (by omega) fun i st1 i0 i1 f1 s1 => ?_
    try simp -implicitDefEqProofs only [wpS_sbnd, we_k, we_g, we_gf, we_v, wea_v, we_tup, we_lst, we_bin, we_neg, we_not, we_cmp, we_chain, we_and, we_or, we_ite, we_idx, we_sl, wt_no, wt_v, wt_k, wt_bin, wt_neg, wt_idx, we_callG, we_prim, we_meth, we_isi, we_comp, wea_gf, wea_lam0, wea_lam1, we_lam0, we_hcall, wa_nil, wa_cons, waa_nil, waa_cons, wg_tn, wg_tt, wg_tsub, wgs_nil, wgs_cons, gsNil_nil, wi_iv, wi_ir1, wi_ir2, wi_ien, wi_izip, wi_izl, ws_asg, ws_par, ws_ex, ws_ret, ws_retN, ws_pass, ws_brk, ws_iff, ws_forr, ws_raise, wss_nil, wss_cons, wtru_eq, wp_ok, wp_exc, wp_oth_some, wea_k, wea_g, wea_tup, wea_lst, wea_bin, wea_neg, wea_not, wea_cmp, wea_chain, wea_and, wea_or, wea_ite, wea_idx, wea_sl, wea_call, wea_prim, wea_meth, wea_isi, wea_comp, slotD_z, slotD_s, slotA_z, slotA_s, newTup0, newTup1, newTup2, newTup3, newTup4, tr_non, tr_bl, tr_int, tr_tup, len_tup, atI0, atI1, idx_tup, it_tup, un_tup, int_of, lt_int, le_int, gt_int, ge_int, cmp_eq, cmp_ne, cmp_is, cmp_isnot, eqD_int, eqD_bl, lt_tup, List.set_cons_succ, List.set_cons_zero, startD, List.map_cons, List.map_nil, List.length_cons, List.length_nil, Nat.zero_add, Nat.reduceAdd, Nat.reduceSub, Nat.sub_self, List.replicate_succ, List.replicate_zero, List.cons_append, List.nil_append, Option.map_some, Kst.d, if_true, if_false, Bool.false_eq_true, wp_add_int, wp_sub_int, isiA, calA]
    have fin : Q (.tup ((rowDs r).take i.toNat ++ [.tup [.int s, .tup []]] ++ (rowDs r).drop i.toNat)) st1 := by
      obtain ⟨r', q1, q2, q3, q4⟩ := ins_row (stands := stands) (s := s) r i.toNat (by omega)
      rw [← q1]
      exact h r' st1 q2 (by omega) (q4 ho hs0 hs1) f1 s1
    have z0 : decide ((0 : Int) < ((0 : Nat) : Int)) = false := by decide
    have go : wp (slD st1 none (some i) (rowD r)) (fun x st1 => wp (binD st1 .add x (.tup [.tup [.int s, .tup []]])) (fun x st1 => wp (slD st1 (some i) none (rowD r)) (fun y st2 => wp (binD st2 .add x y) (fun d st1 => Q d st1) E) E) E) E := by
      have l1 : ((rowDs r).take i.toNat).length ≤ (rowDs r).length := by rw [List.length_take]; omega
      have l2 : ((rowDs r).drop i.toNat).length ≤ (rowDs r).length := by rw [List.length_drop]; omega
      simp -implicitDefEqProofs only [sl_tup, cut_to i0, cut_from i0, wpS_sbnd, we_k, we_g, we_gf, we_v, wea_v, we_tup, we_lst, we_bin, we_neg, we_not, we_cmp, we_chain, we_and, we_or, we_ite, we_idx, we_sl, wt_no, wt_v, wt_k, wt_bin, wt_neg, wt_idx, we_callG, we_prim, we_meth, we_isi, we_comp, wea_gf, wea_lam0, wea_lam1, we_lam0, we_hcall, wa_nil, wa_cons, waa_nil, waa_cons, wg_tn, wg_tt, wg_tsub, wgs_nil, wgs_cons, gsNil_nil, wi_iv, wi_ir1, wi_ir2, wi_ien, wi_izip, wi_izl, ws_asg, ws_par, ws_ex, ws_ret, ws_retN, ws_pass, ws_brk, ws_iff, ws_forr, ws_raise, wss_nil, wss_cons, wtru_eq, wp_ok, wp_exc, wp_oth_some, wea_k, wea_g, wea_tup, wea_lst, wea_bin, wea_neg, wea_not, wea_cmp, wea_chain, wea_and, wea_or, wea_ite, wea_idx, wea_sl, wea_call, wea_prim, wea_meth, wea_isi, wea_comp, slotD_z, slotD_s, slotA_z, slotA_s, newTup0, newTup1, newTup2, newTup3, newTup4, tr_non, tr_bl, tr_int, tr_tup, len_tup, atI0, atI1, idx_tup, it_tup, un_tup, int_of, lt_int, le_int, gt_int, ge_int, cmp_eq, cmp_ne, cmp_is, cmp_isnot, eqD_int, eqD_bl, lt_tup, List.set_cons_succ, List.set_cons_zero, startD, List.map_cons, List.map_nil, List.length_cons, List.length_nil, Nat.zero_add, Nat.reduceAdd, Nat.reduceSub, Nat.sub_self, List.replicate_succ, List.replicate_zero, List.cons_append, List.nil_append, Option.map_some, Kst.d, if_true, if_false, Bool.false_eq_true, wp_add_int, wp_sub_int, isiA, calA]
      rw [wp_add_tup (lim_le (by rw [List.length_append]; simp; omega))]
      rw [wp_add_tup (lim_le (by rw [List.length_append, List.length_append]; simp; omega))]
      exact fin
    by_cases hlt : i < ((rowDs r).length : Int)
    · simpa -implicitDefEqProofs only [hlt, decide_true, if_true, wpS_sbnd, we_k, we_g, we_gf, we_v, wea_v, we_tup, we_lst, we_bin, we_neg, we_not, we_cmp, we_chain, we_and, we_or, we_ite, we_idx, we_sl, wt_no, wt_v, wt_k, wt_bin, wt_neg, wt_idx, we_callG, we_prim, we_meth, we_isi, we_comp, wea_gf, wea_lam0, wea_lam1, we_lam0, we_hcall, wa_nil, wa_cons, waa_nil, waa_cons, wg_tn, wg_tt, wg_tsub, wgs_nil, wgs_cons, gsNil_nil, wi_iv, wi_ir1, wi_ir2, wi_ien, wi_izip, wi_izl, ws_asg, ws_par, ws_ex, ws_ret, ws_retN, ws_pass, ws_brk, ws_iff, ws_forr, ws_raise, wss_nil, wss_cons, wtru_eq, wp_ok, wp_exc, wp_oth_some, wea_k, wea_g, wea_tup, wea_lst, wea_bin, wea_neg, wea_not, wea_cmp, wea_chain, wea_and, wea_or, wea_ite, wea_idx, wea_sl, wea_call, wea_prim, wea_meth, wea_isi, wea_comp, slotD_z, slotD_s, slotA_z, slotA_s, newTup0, newTup1, newTup2, newTup3, newTup4, tr_non, tr_bl, tr_int, tr_tup, len_tup, atI0, atI1, idx_tup, it_tup, un_tup, int_of, lt_int, le_int, gt_int, ge_int, cmp_eq, cmp_ne, cmp_is, cmp_isnot, eqD_int, eqD_bl, lt_tup, List.set_cons_succ, List.set_cons_zero, startD, List.map_cons, List.map_nil, List.length_cons, List.length_nil, Nat.zero_add, Nat.reduceAdd, Nat.reduceSub, Nat.sub_self, List.replicate_succ, List.replicate_zero, List.cons_append, List.nil_append, Option.map_some, Kst.d, if_true, if_false, Bool.false_eq_true, wp_add_int, wp_sub_int, isiA, calA, z0] using go
    · simpa -implicitDefEqProofs only [hlt, decide_false, if_false, wpS_sbnd, we_k, we_g, we_gf, we_v, wea_v, we_tup, we_lst, we_bin, we_neg, we_not, we_cmp, we_chain, we_and, we_or, we_ite, we_idx, we_sl, wt_no, wt_v, wt_k, wt_bin, wt_neg, wt_idx, we_callG, we_prim, we_meth, we_isi, we_comp, wea_gf, wea_lam0, wea_lam1, we_lam0, we_hcall, wa_nil, wa_cons, waa_nil, waa_cons, wg_tn, wg_tt, wg_tsub, wgs_nil, wgs_cons, gsNil_nil, wi_iv, wi_ir1, wi_ir2, wi_ien, wi_izip, wi_izl, ws_asg, ws_par, ws_ex, ws_ret, ws_retN, ws_pass, ws_brk, ws_iff, ws_forr, ws_raise, wss_nil, wss_cons, wtru_eq, wp_ok, wp_exc, wp_oth_some, wea_k, wea_g, wea_tup, wea_lst, wea_bin, wea_neg, wea_not, wea_cmp, wea_chain, wea_and, wea_or, wea_ite, wea_idx, wea_sl, wea_call, wea_prim, wea_meth, wea_isi, wea_comp, slotD_z, slotD_s, slotA_z, slotA_s, newTup0, newTup1, newTup2, newTup3, newTup4, tr_non, tr_bl, tr_int, tr_tup, len_tup, atI0, atI1, idx_tup, it_tup, un_tup, int_of, lt_int, le_int, gt_int, ge_int, cmp_eq, cmp_ne, cmp_is, cmp_isnot, eqD_int, eqD_bl, lt_tup, List.set_cons_succ, List.set_cons_zero, startD, List.map_cons, List.map_nil, List.length_cons, List.length_nil, Nat.zero_add, Nat.reduceAdd, Nat.reduceSub, Nat.sub_self, List.replicate_succ, List.replicate_zero, List.cons_append, List.nil_append, Option.map_some, Kst.d, if_true, if_false, Bool.false_eq_true, wp_add_int, wp_sub_int, isiA, calA] using go
  | succ deep ih =>
    intro n r st Q E hs hd hz ho hn h
    obtain ⟨n, rfl⟩ : ∃ m, n = m + 2 := ⟨n - 2, by omega⟩
    rw [wp_fn (d := ⟨4, 6, c__law_put_in⟩) rfl rfl]
    simp -implicitDefEqProofs only [c__law_put_in, wpS_sbnd, we_k, we_g, we_gf, we_v, wea_v, we_tup, we_lst, we_bin, we_neg, we_not, we_cmp, we_chain, we_and, we_or, we_ite, we_idx, we_sl, wt_no, wt_v, wt_k, wt_bin, wt_neg, wt_idx, we_callG, we_prim, we_meth, we_isi, we_comp, wea_gf, wea_lam0, wea_lam1, we_lam0, we_hcall, wa_nil, wa_cons, waa_nil, waa_cons, wg_tn, wg_tt, wg_tsub, wgs_nil, wgs_cons, gsNil_nil, wi_iv, wi_ir1, wi_ir2, wi_ien, wi_izip, wi_izl, ws_asg, ws_par, ws_ex, ws_ret, ws_retN, ws_pass, ws_brk, ws_iff, ws_forr, ws_raise, wss_nil, wss_cons, wtru_eq, wp_ok, wp_exc, wp_oth_some, wea_k, wea_g, wea_tup, wea_lst, wea_bin, wea_neg, wea_not, wea_cmp, wea_chain, wea_and, wea_or, wea_ite, wea_idx, wea_sl, wea_call, wea_prim, wea_meth, wea_isi, wea_comp, slotD_z, slotD_s, slotA_z, slotA_s, newTup0, newTup1, newTup2, newTup3, newTup4, tr_non, tr_bl, tr_int, tr_tup, len_tup, atI0, atI1, idx_tup, it_tup, un_tup, int_of, lt_int, le_int, gt_int, ge_int, cmp_eq, cmp_ne, cmp_is, cmp_isnot, eqD_int, eqD_bl, lt_tup, List.set_cons_succ, List.set_cons_zero, startD, List.map_cons, List.map_nil, List.length_cons, List.length_nil, Nat.zero_add, Nat.reduceAdd, Nat.reduceSub, Nat.sub_self, List.replicate_succ, List.replicate_zero, List.cons_append, List.nil_append, Option.map_some, Kst.d, if_true, if_false, Bool.false_eq_true, wp_add_int, wp_sub_int, isiA, calA]
    have hl := row_len r
    refine w_draw hs (by omega) (by omega) fun i st1 i0 i1 f1 s1 => ?_
    try simp -implicitDefEqProofs only [wpS_sbnd, we_k, we_g, we_gf, we_v, wea_v, we_tup, we_lst, we_bin, we_neg, we_not, we_cmp, we_chain, we_and, we_or, we_ite, we_idx, we_sl, wt_no, wt_v, wt_k, wt_bin, wt_neg, wt_idx, we_callG, we_prim, we_meth, we_isi, we_comp, wea_gf, wea_lam0, wea_lam1, we_lam0, we_hcall, wa_nil, wa_cons, waa_nil, waa_cons, wg_tn, wg_tt, wg_tsub, wgs_nil, wgs_cons, gsNil_nil, wi_iv, wi_ir1, wi_ir2, wi_ien, wi_izip, wi_izl, ws_asg, ws_par, ws_ex, ws_ret, ws_retN, ws_pass, ws_brk, ws_iff, ws_forr, ws_raise, wss_nil, wss_cons, wtru_eq, wp_ok, wp_exc, wp_oth_some, wea_k, wea_g, wea_tup, wea_lst, wea_bin, wea_neg, wea_not, wea_cmp, wea_chain, wea_and, wea_or, wea_ite, wea_idx, wea_sl, wea_call, wea_prim, wea_meth, wea_isi, wea_comp, slotD_z, slotD_s, slotA_z, slotA_s, newTup0, newTup1, newTup2, newTup3, newTup4, tr_non, tr_bl, tr_int, tr_tup, len_tup, atI0, atI1, idx_tup, it_tup, un_tup, int_of, lt_int, le_int, gt_int, ge_int, cmp_eq, cmp_ne, cmp_is, cmp_isnot, eqD_int, eqD_bl, lt_tup, List.set_cons_succ, List.set_cons_zero, startD, List.map_cons, List.map_nil, List.length_cons, List.length_nil, Nat.zero_add, Nat.reduceAdd, Nat.reduceSub, Nat.sub_self, List.replicate_succ, List.replicate_zero, List.cons_append, List.nil_append, Option.map_some, Kst.d, if_true, if_false, Bool.false_eq_true, wp_add_int, wp_sub_int, isiA, calA]
    have go : ∀ st1, Fr k st st1 → Src k st1 → wp (slD st1 none (some i) (rowD r)) (fun x st1 => wp (binD st1 .add x (.tup [.tup [.int s, .tup []]])) (fun x st1 => wp (slD st1 (some i) none (rowD r)) (fun y st2 => wp (binD st2 .add x y) (fun d st1 => Q d st1) E) E) E) E := fun st1 f1 s1 => by
      have l1 : ((rowDs r).take i.toNat).length ≤ (rowDs r).length := by rw [List.length_take]; omega
      have l2 : ((rowDs r).drop i.toNat).length ≤ (rowDs r).length := by rw [List.length_drop]; omega
      simp -implicitDefEqProofs only [sl_tup, cut_to i0, cut_from i0, wpS_sbnd, we_k, we_g, we_gf, we_v, wea_v, we_tup, we_lst, we_bin, we_neg, we_not, we_cmp, we_chain, we_and, we_or, we_ite, we_idx, we_sl, wt_no, wt_v, wt_k, wt_bin, wt_neg, wt_idx, we_callG, we_prim, we_meth, we_isi, we_comp, wea_gf, wea_lam0, wea_lam1, we_lam0, we_hcall, wa_nil, wa_cons, waa_nil, waa_cons, wg_tn, wg_tt, wg_tsub, wgs_nil, wgs_cons, gsNil_nil, wi_iv, wi_ir1, wi_ir2, wi_ien, wi_izip, wi_izl, ws_asg, ws_par, ws_ex, ws_ret, ws_retN, ws_pass, ws_brk, ws_iff, ws_forr, ws_raise, wss_nil, wss_cons, wtru_eq, wp_ok, wp_exc, wp_oth_some, wea_k, wea_g, wea_tup, wea_lst, wea_bin, wea_neg, wea_not, wea_cmp, wea_chain, wea_and, wea_or, wea_ite, wea_idx, wea_sl, wea_call, wea_prim, wea_meth, wea_isi, wea_comp, slotD_z, slotD_s, slotA_z, slotA_s, newTup0, newTup1, newTup2, newTup3, newTup4, tr_non, tr_bl, tr_int, tr_tup, len_tup, atI0, atI1, idx_tup, it_tup, un_tup, int_of, lt_int, le_int, gt_int, ge_int, cmp_eq, cmp_ne, cmp_is, cmp_isnot, eqD_int, eqD_bl, lt_tup, List.set_cons_succ, List.set_cons_zero, startD, List.map_cons, List.map_nil, List.length_cons, List.length_nil, Nat.zero_add, Nat.reduceAdd, Nat.reduceSub, Nat.sub_self, List.replicate_succ, List.replicate_zero, List.cons_append, List.nil_append, Option.map_some, Kst.d, if_true, if_false, Bool.false_eq_true, wp_add_int, wp_sub_int, isiA, calA]
      rw [wp_add_tup (lim_le (by rw [List.length_append]; simp; omega))]
      rw [wp_add_tup (lim_le (by rw [List.length_append, List.length_append]; simp; omega))]
      obtain ⟨r', q1, q2, q3, q4⟩ := ins_row (stands := stands) (s := s) r i.toNat (by omega)
      rw [← q1]
      exact h r' st1 q2 (by omega) (q4 ho hs0 hs1) f1 s1
    have z0 : decide ((0 : Int) < ((deep + 1 : Nat) : Int)) = true := by rw [decide_eq_true_eq]; omega
    have z1 : ((deep + 1 : Nat) : Int) - 1 = (deep : Int) := by omega
    by_cases hlt : i < ((rowDs r).length : Int)
    · simp -implicitDefEqProofs only [hlt, decide_true, if_true, wpS_sbnd, we_k, we_g, we_gf, we_v, wea_v, we_tup, we_lst, we_bin, we_neg, we_not, we_cmp, we_chain, we_and, we_or, we_ite, we_idx, we_sl, wt_no, wt_v, wt_k, wt_bin, wt_neg, wt_idx, we_callG, we_prim, we_meth, we_isi, we_comp, wea_gf, wea_lam0, wea_lam1, we_lam0, we_hcall, wa_nil, wa_cons, waa_nil, waa_cons, wg_tn, wg_tt, wg_tsub, wgs_nil, wgs_cons, gsNil_nil, wi_iv, wi_ir1, wi_ir2, wi_ien, wi_izip, wi_izl, ws_asg, ws_par, ws_ex, ws_ret, ws_retN, ws_pass, ws_brk, ws_iff, ws_forr, ws_raise, wss_nil, wss_cons, wtru_eq, wp_ok, wp_exc, wp_oth_some, wea_k, wea_g, wea_tup, wea_lst, wea_bin, wea_neg, wea_not, wea_cmp, wea_chain, wea_and, wea_or, wea_ite, wea_idx, wea_sl, wea_call, wea_prim, wea_meth, wea_isi, wea_comp, slotD_z, slotD_s, slotA_z, slotA_s, newTup0, newTup1, newTup2, newTup3, newTup4, tr_non, tr_bl, tr_int, tr_tup, len_tup, atI0, atI1, idx_tup, it_tup, un_tup, int_of, lt_int, le_int, gt_int, ge_int, cmp_eq, cmp_ne, cmp_is, cmp_isnot, eqD_int, eqD_bl, lt_tup, List.set_cons_succ, List.set_cons_zero, startD, List.map_cons, List.map_nil, List.length_cons, List.length_nil, Nat.zero_add, Nat.reduceAdd, Nat.reduceSub, Nat.sub_self, List.replicate_succ, List.replicate_zero, List.cons_append, List.nil_append, Option.map_some, Kst.d, if_true, if_false, Bool.false_eq_true, wp_add_int, wp_sub_int, isiA, calA, z0]
      refine w_draw s1 (by decide) (by decide) fun j st2 j0 j1 f2 s2 => ?_
      try simp -implicitDefEqProofs only [wpS_sbnd, we_k, we_g, we_gf, we_v, wea_v, we_tup, we_lst, we_bin, we_neg, we_not, we_cmp, we_chain, we_and, we_or, we_ite, we_idx, we_sl, wt_no, wt_v, wt_k, wt_bin, wt_neg, wt_idx, we_callG, we_prim, we_meth, we_isi, we_comp, wea_gf, wea_lam0, wea_lam1, we_lam0, we_hcall, wa_nil, wa_cons, waa_nil, waa_cons, wg_tn, wg_tt, wg_tsub, wgs_nil, wgs_cons, gsNil_nil, wi_iv, wi_ir1, wi_ir2, wi_ien, wi_izip, wi_izl, ws_asg, ws_par, ws_ex, ws_ret, ws_retN, ws_pass, ws_brk, ws_iff, ws_forr, ws_raise, wss_nil, wss_cons, wtru_eq, wp_ok, wp_exc, wp_oth_some, wea_k, wea_g, wea_tup, wea_lst, wea_bin, wea_neg, wea_not, wea_cmp, wea_chain, wea_and, wea_or, wea_ite, wea_idx, wea_sl, wea_call, wea_prim, wea_meth, wea_isi, wea_comp, slotD_z, slotD_s, slotA_z, slotA_s, newTup0, newTup1, newTup2, newTup3, newTup4, tr_non, tr_bl, tr_int, tr_tup, len_tup, atI0, atI1, idx_tup, it_tup, un_tup, int_of, lt_int, le_int, gt_int, ge_int, cmp_eq, cmp_ne, cmp_is, cmp_isnot, eqD_int, eqD_bl, lt_tup, List.set_cons_succ, List.set_cons_zero, startD, List.map_cons, List.map_nil, List.length_cons, List.length_nil, Nat.zero_add, Nat.reduceAdd, Nat.reduceSub, Nat.sub_self, List.replicate_succ, List.replicate_zero, List.cons_append, List.nil_append, Option.map_some, Kst.d, if_true, if_false, Bool.false_eq_true, wp_add_int, wp_sub_int, isiA, calA]
      by_cases hj : 0 < j
      · obtain ⟨a, b, b1, b2, b3, b4, b5⟩ := at_row (stands := stands) r i.toNat (by omega)
        have e1 := atI_some i0 hlt b1
        simp -implicitDefEqProofs only [hj, decide_true, if_true, wpS_sbnd, we_k, we_g, we_gf, we_v, wea_v, we_tup, we_lst, we_bin, we_neg, we_not, we_cmp, we_chain, we_and, we_or, we_ite, we_idx, we_sl, wt_no, wt_v, wt_k, wt_bin, wt_neg, wt_idx, we_callG, we_prim, we_meth, we_isi, we_comp, wea_gf, wea_lam0, wea_lam1, we_lam0, we_hcall, wa_nil, wa_cons, waa_nil, waa_cons, wg_tn, wg_tt, wg_tsub, wgs_nil, wgs_cons, gsNil_nil, wi_iv, wi_ir1, wi_ir2, wi_ien, wi_izip, wi_izl, ws_asg, ws_par, ws_ex, ws_ret, ws_retN, ws_pass, ws_brk, ws_iff, ws_forr, ws_raise, wss_nil, wss_cons, wtru_eq, wp_ok, wp_exc, wp_oth_some, wea_k, wea_g, wea_tup, wea_lst, wea_bin, wea_neg, wea_not, wea_cmp, wea_chain, wea_and, wea_or, wea_ite, wea_idx, wea_sl, wea_call, wea_prim, wea_meth, wea_isi, wea_comp, slotD_z, slotD_s, slotA_z, slotA_s, newTup0, newTup1, newTup2, newTup3, newTup4, tr_non, tr_bl, tr_int, tr_tup, len_tup, atI0, atI1, idx_tup, it_tup, un_tup, int_of, lt_int, le_int, gt_int, ge_int, cmp_eq, cmp_ne, cmp_is, cmp_isnot, eqD_int, eqD_bl, lt_tup, List.set_cons_succ, List.set_cons_zero, startD, List.map_cons, List.map_nil, List.length_cons, List.length_nil, Nat.zero_add, Nat.reduceAdd, Nat.reduceSub, Nat.sub_self, List.replicate_succ, List.replicate_zero, List.cons_append, List.nil_append, Option.map_some, Kst.d, if_true, if_false, Bool.false_eq_true, wp_add_int, wp_sub_int, isiA, calA, e1, z1]
        refine ih (n + 1) b st2 _ _ s2 (by omega) (by omega) (b3 ho).1 (by omega) fun b' st3 c1 c2 c3 f3 s3 => ?_
        obtain ⟨r', q1, q2, q3, q4⟩ := b5 b'
        simp -implicitDefEqProofs only [wpS_sbnd, we_k, we_g, we_gf, we_v, wea_v, we_tup, we_lst, we_bin, we_neg, we_not, we_cmp, we_chain, we_and, we_or, we_ite, we_idx, we_sl, wt_no, wt_v, wt_k, wt_bin, wt_neg, wt_idx, we_callG, we_prim, we_meth, we_isi, we_comp, wea_gf, wea_lam0, wea_lam1, we_lam0, we_hcall, wa_nil, wa_cons, waa_nil, waa_cons, wg_tn, wg_tt, wg_tsub, wgs_nil, wgs_cons, gsNil_nil, wi_iv, wi_ir1, wi_ir2, wi_ien, wi_izip, wi_izl, ws_asg, ws_par, ws_ex, ws_ret, ws_retN, ws_pass, ws_brk, ws_iff, ws_forr, ws_raise, wss_nil, wss_cons, wtru_eq, wp_ok, wp_exc, wp_oth_some, wea_k, wea_g, wea_tup, wea_lst, wea_bin, wea_neg, wea_not, wea_cmp, wea_chain, wea_and, wea_or, wea_ite, wea_idx, wea_sl, wea_call, wea_prim, wea_meth, wea_isi, wea_comp, slotD_z, slotD_s, slotA_z, slotA_s, newTup0, newTup1, newTup2, newTup3, newTup4, tr_non, tr_bl, tr_int, tr_tup, len_tup, atI0, atI1, idx_tup, it_tup, un_tup, int_of, lt_int, le_int, gt_int, ge_int, cmp_eq, cmp_ne, cmp_is, cmp_isnot, eqD_int, eqD_bl, lt_tup, List.set_cons_succ, List.set_cons_zero, startD, List.map_cons, List.map_nil, List.length_cons, List.length_nil, Nat.zero_add, Nat.reduceAdd, Nat.reduceSub, Nat.sub_self, List.replicate_succ, List.replicate_zero, List.cons_append, List.nil_append, Option.map_some, Kst.d, if_true, if_false, Bool.false_eq_true, wp_add_int, wp_sub_int, isiA, calA, sl_tup, cut_to i0, cut_from (show (0 : Int) ≤ i + 1 by omega), e1]
        have l1 : ((rowDs r).take i.toNat).length ≤ (rowDs r).length := by rw [List.length_take]; omega
        have l2 : ((rowDs r).drop (i + 1).toNat).length ≤ (rowDs r).length := by rw [List.length_drop]; omega
        rw [wp_add_tup (lim_le (by rw [List.length_append]; simp; omega))]
        rw [wp_add_tup (lim_le (by rw [List.length_append, List.length_append]; simp; omega))]
        rw [show (i + 1).toNat = i.toNat + 1 by omega, ← q1]
        exact h r' st3 (by omega) (by omega) (q4 ho c3) ((f1.trans f2).trans f3) s3
      · simpa -implicitDefEqProofs only [hj, decide_false, Bool.false_eq_true, if_false, wpS_sbnd, we_k, we_g, we_gf, we_v, wea_v, we_tup, we_lst, we_bin, we_neg, we_not, we_cmp, we_chain, we_and, we_or, we_ite, we_idx, we_sl, wt_no, wt_v, wt_k, wt_bin, wt_neg, wt_idx, we_callG, we_prim, we_meth, we_isi, we_comp, wea_gf, wea_lam0, wea_lam1, we_lam0, we_hcall, wa_nil, wa_cons, waa_nil, waa_cons, wg_tn, wg_tt, wg_tsub, wgs_nil, wgs_cons, gsNil_nil, wi_iv, wi_ir1, wi_ir2, wi_ien, wi_izip, wi_izl, ws_asg, ws_par, ws_ex, ws_ret, ws_retN, ws_pass, ws_brk, ws_iff, ws_forr, ws_raise, wss_nil, wss_cons, wtru_eq, wp_ok, wp_exc, wp_oth_some, wea_k, wea_g, wea_tup, wea_lst, wea_bin, wea_neg, wea_not, wea_cmp, wea_chain, wea_and, wea_or, wea_ite, wea_idx, wea_sl, wea_call, wea_prim, wea_meth, wea_isi, wea_comp, slotD_z, slotD_s, slotA_z, slotA_s, newTup0, newTup1, newTup2, newTup3, newTup4, tr_non, tr_bl, tr_int, tr_tup, len_tup, atI0, atI1, idx_tup, it_tup, un_tup, int_of, lt_int, le_int, gt_int, ge_int, cmp_eq, cmp_ne, cmp_is, cmp_isnot, eqD_int, eqD_bl, lt_tup, List.set_cons_succ, List.set_cons_zero, startD, List.map_cons, List.map_nil, List.length_cons, List.length_nil, Nat.zero_add, Nat.reduceAdd, Nat.reduceSub, Nat.sub_self, List.replicate_succ, List.replicate_zero, List.cons_append, List.nil_append, Option.map_some, Kst.d, if_true, if_false, Bool.false_eq_true, wp_add_int, wp_sub_int, isiA, calA] using go st2 (f1.trans f2) s2
    · simpa -implicitDefEqProofs only [hlt, decide_false, if_false, wpS_sbnd, we_k, we_g, we_gf, we_v, wea_v, we_tup, we_lst, we_bin, we_neg, we_not, we_cmp, we_chain, we_and, we_or, we_ite, we_idx, we_sl, wt_no, wt_v, wt_k, wt_bin, wt_neg, wt_idx, we_callG, we_prim, we_meth, we_isi, we_comp, wea_gf, wea_lam0, wea_lam1, we_lam0, we_hcall, wa_nil, wa_cons, waa_nil, waa_cons, wg_tn, wg_tt, wg_tsub, wgs_nil, wgs_cons, gsNil_nil, wi_iv, wi_ir1, wi_ir2, wi_ien, wi_izip, wi_izl, ws_asg, ws_par, ws_ex, ws_ret, ws_retN, ws_pass, ws_brk, ws_iff, ws_forr, ws_raise, wss_nil, wss_cons, wtru_eq, wp_ok, wp_exc, wp_oth_some, wea_k, wea_g, wea_tup, wea_lst, wea_bin, wea_neg, wea_not, wea_cmp, wea_chain, wea_and, wea_or, wea_ite, wea_idx, wea_sl, wea_call, wea_prim, wea_meth, wea_isi, wea_comp, slotD_z, slotD_s, slotA_z, slotA_s, newTup0, newTup1, newTup2, newTup3, newTup4, tr_non, tr_bl, tr_int, tr_tup, len_tup, atI0, atI1, idx_tup, it_tup, un_tup, int_of, lt_int, le_int, gt_int, ge_int, cmp_eq, cmp_ne, cmp_is, cmp_isnot, eqD_int, eqD_bl, lt_tup, List.set_cons_succ, List.set_cons_zero, startD, List.map_cons, List.map_nil, List.length_cons, List.length_nil, Nat.zero_add, Nat.reduceAdd, Nat.reduceSub, Nat.sub_self, List.replicate_succ, List.replicate_zero, List.cons_append, List.nil_append, Option.map_some, Kst.d, if_true, if_false, Bool.false_eq_true, wp_add_int, wp_sub_int, isiA, calA] using go st1 f1 s1
theorem w_nesting {most : Int} {n : Nat} {st : Store} {Q : D → Store → Prop} {E : Xn → Store → Prop} (hW : 1000 < W) (hst : 0 < stands) (hst2 : stands < 100) (hs : Src k st) (h0 : 0 ≤ most) (h1 : most ≤ 60) (hn : 13 ≤ n)
    (h : ∀ r st', (sz r : Int) ≤ most → dp r ≤ 11 → ok stands r → Fr k st st' → Src k st' → Q (rowD r) st') : wp (callN prog W n (.d (.fn 22)) [.d (.loc k), .d (.int stands), .d (.int most)] st) Q E := by
  obtain ⟨n, rfl⟩ : ∃ m, n = m + 1 := ⟨n - 1, by omega⟩
  obtain ⟨n', rfl⟩ : ∃ m, n = m + 1 := ⟨n - 1, by omega⟩
  rw [wp_fn (d := ⟨3, 5, c__law_nesting⟩) rfl rfl]
  simp -implicitDefEqProofs only [c__law_nesting, wpS_sbnd, we_k, we_g, we_gf, we_v, wea_v, we_tup, we_lst, we_bin, we_neg, we_not, we_cmp, we_chain, we_and, we_or, we_ite, we_idx, we_sl, wt_no, wt_v, wt_k, wt_bin, wt_neg, wt_idx, we_callG, we_prim, we_meth, we_isi, we_comp, wea_gf, wea_lam0, wea_lam1, we_lam0, we_hcall, wa_nil, wa_cons, waa_nil, waa_cons, wg_tn, wg_tt, wg_tsub, wgs_nil, wgs_cons, gsNil_nil, wi_iv, wi_ir1, wi_ir2, wi_ien, wi_izip, wi_izl, ws_asg, ws_par, ws_ex, ws_ret, ws_retN, ws_pass, ws_brk, ws_iff, ws_forr, ws_raise, wss_nil, wss_cons, wtru_eq, wp_ok, wp_exc, wp_oth_some, wea_k, wea_g, wea_tup, wea_lst, wea_bin, wea_neg, wea_not, wea_cmp, wea_chain, wea_and, wea_or, wea_ite, wea_idx, wea_sl, wea_call, wea_prim, wea_meth, wea_isi, wea_comp, slotD_z, slotD_s, slotA_z, slotA_s, newTup0, newTup1, newTup2, newTup3, newTup4, tr_non, tr_bl, tr_int, tr_tup, len_tup, atI0, atI1, idx_tup, it_tup, un_tup, int_of, lt_int, le_int, gt_int, ge_int, cmp_eq, cmp_ne, cmp_is, cmp_isnot, eqD_int, eqD_bl, lt_tup, List.set_cons_succ, List.set_cons_zero, startD, List.map_cons, List.map_nil, List.length_cons, List.length_nil, Nat.zero_add, Nat.reduceAdd, Nat.reduceSub, Nat.sub_self, List.replicate_succ, List.replicate_zero, List.cons_append, List.nil_append, Option.map_some, Kst.d, if_true, if_false, Bool.false_eq_true, wp_add_int, wp_sub_int, isiA, calA]
  refine w_draw hs (by omega) (by omega) fun j st1 j0 j1 f1 s1 => ?_
  have er : rng1 (.int j) st1 = .ok (.rng 0 j.toNat) st1 := by
    unfold rng1
    simp only
    rw [if_pos]
    simp only [rngOk, Bool.and_eq_true, decide_eq_true_eq]
    omega
  simp -implicitDefEqProofs only [er, wpS_sbnd, we_k, we_g, we_gf, we_v, wea_v, we_tup, we_lst, we_bin, we_neg, we_not, we_cmp, we_chain, we_and, we_or, we_ite, we_idx, we_sl, wt_no, wt_v, wt_k, wt_bin, wt_neg, wt_idx, we_callG, we_prim, we_meth, we_isi, we_comp, wea_gf, wea_lam0, wea_lam1, we_lam0, we_hcall, wa_nil, wa_cons, waa_nil, waa_cons, wg_tn, wg_tt, wg_tsub, wgs_nil, wgs_cons, gsNil_nil, wi_iv, wi_ir1, wi_ir2, wi_ien, wi_izip, wi_izl, ws_asg, ws_par, ws_ex, ws_ret, ws_retN, ws_pass, ws_brk, ws_iff, ws_forr, ws_raise, wss_nil, wss_cons, wtru_eq, wp_ok, wp_exc, wp_oth_some, wea_k, wea_g, wea_tup, wea_lst, wea_bin, wea_neg, wea_not, wea_cmp, wea_chain, wea_and, wea_or, wea_ite, wea_idx, wea_sl, wea_call, wea_prim, wea_meth, wea_isi, wea_comp, slotD_z, slotD_s, slotA_z, slotA_s, newTup0, newTup1, newTup2, newTup3, newTup4, tr_non, tr_bl, tr_int, tr_tup, len_tup, atI0, atI1, idx_tup, it_tup, un_tup, int_of, lt_int, le_int, gt_int, ge_int, cmp_eq, cmp_ne, cmp_is, cmp_isnot, eqD_int, eqD_bl, lt_tup, List.set_cons_succ, List.set_cons_zero, startD, List.map_cons, List.map_nil, List.length_cons, List.length_nil, Nat.zero_add, Nat.reduceAdd, Nat.reduceSub, Nat.sub_self, List.replicate_succ, List.replicate_zero, List.cons_append, List.nil_append, Option.map_some, Kst.d, if_true, if_false, Bool.false_eq_true, wp_add_int, wp_sub_int, isiA, calA]
  refine loop_rng (J := fun i ρ st' => Fr k st st' ∧ Src k st' ∧ ∃ r t, ρ = [some (.d (.loc k)), some (.d (.int stands)), some (.d (.int most)), some (.d (rowD r)), t] ∧ sz r = i ∧ dp r ≤ 11 ∧ ok stands r) (fun i ρ st' hi ⟨f2, s2, r, t, e1, e2, e3, e4⟩ => ?_) (fun ρ st' ⟨f2, s2, r, t, e1, e2, e3, e4⟩ => ?_) W 0 _ _ (Nat.zero_le _) (by omega) ⟨f1, s1, .nil, none, rfl, rfl, by simp [dp], trivial⟩
  · subst e1
    simp -implicitDefEqProofs only [wpS_sbnd, we_k, we_g, we_gf, we_v, wea_v, we_tup, we_lst, we_bin, we_neg, we_not, we_cmp, we_chain, we_and, we_or, we_ite, we_idx, we_sl, wt_no, wt_v, wt_k, wt_bin, wt_neg, wt_idx, we_callG, we_prim, we_meth, we_isi, we_comp, wea_gf, wea_lam0, wea_lam1, we_lam0, we_hcall, wa_nil, wa_cons, waa_nil, waa_cons, wg_tn, wg_tt, wg_tsub, wgs_nil, wgs_cons, gsNil_nil, wi_iv, wi_ir1, wi_ir2, wi_ien, wi_izip, wi_izl, ws_asg, ws_par, ws_ex, ws_ret, ws_retN, ws_pass, ws_brk, ws_iff, ws_forr, ws_raise, wss_nil, wss_cons, wtru_eq, wp_ok, wp_exc, wp_oth_some, wea_k, wea_g, wea_tup, wea_lst, wea_bin, wea_neg, wea_not, wea_cmp, wea_chain, wea_and, wea_or, wea_ite, wea_idx, wea_sl, wea_call, wea_prim, wea_meth, wea_isi, wea_comp, slotD_z, slotD_s, slotA_z, slotA_s, newTup0, newTup1, newTup2, newTup3, newTup4, tr_non, tr_bl, tr_int, tr_tup, len_tup, atI0, atI1, idx_tup, it_tup, un_tup, int_of, lt_int, le_int, gt_int, ge_int, cmp_eq, cmp_ne, cmp_is, cmp_isnot, eqD_int, eqD_bl, lt_tup, List.set_cons_succ, List.set_cons_zero, startD, List.map_cons, List.map_nil, List.length_cons, List.length_nil, Nat.zero_add, Nat.reduceAdd, Nat.reduceSub, Nat.sub_self, List.replicate_succ, List.replicate_zero, List.cons_append, List.nil_append, Option.map_some, Kst.d, if_true, if_false, Bool.false_eq_true, wp_add_int, wp_sub_int, isiA, calA]
    refine w_draw s2 hst (by omega) fun x st3 x0 x1 f3 s3 => ?_
    try simp -implicitDefEqProofs only [wpS_sbnd, we_k, we_g, we_gf, we_v, wea_v, we_tup, we_lst, we_bin, we_neg, we_not, we_cmp, we_chain, we_and, we_or, we_ite, we_idx, we_sl, wt_no, wt_v, wt_k, wt_bin, wt_neg, wt_idx, we_callG, we_prim, we_meth, we_isi, we_comp, wea_gf, wea_lam0, wea_lam1, we_lam0, we_hcall, wa_nil, wa_cons, waa_nil, waa_cons, wg_tn, wg_tt, wg_tsub, wgs_nil, wgs_cons, gsNil_nil, wi_iv, wi_ir1, wi_ir2, wi_ien, wi_izip, wi_izl, ws_asg, ws_par, ws_ex, ws_ret, ws_retN, ws_pass, ws_brk, ws_iff, ws_forr, ws_raise, wss_nil, wss_cons, wtru_eq, wp_ok, wp_exc, wp_oth_some, wea_k, wea_g, wea_tup, wea_lst, wea_bin, wea_neg, wea_not, wea_cmp, wea_chain, wea_and, wea_or, wea_ite, wea_idx, wea_sl, wea_call, wea_prim, wea_meth, wea_isi, wea_comp, slotD_z, slotD_s, slotA_z, slotA_s, newTup0, newTup1, newTup2, newTup3, newTup4, tr_non, tr_bl, tr_int, tr_tup, len_tup, atI0, atI1, idx_tup, it_tup, un_tup, int_of, lt_int, le_int, gt_int, ge_int, cmp_eq, cmp_ne, cmp_is, cmp_isnot, eqD_int, eqD_bl, lt_tup, List.set_cons_succ, List.set_cons_zero, startD, List.map_cons, List.map_nil, List.length_cons, List.length_nil, Nat.zero_add, Nat.reduceAdd, Nat.reduceSub, Nat.sub_self, List.replicate_succ, List.replicate_zero, List.cons_append, List.nil_append, Option.map_some, Kst.d, if_true, if_false, Bool.false_eq_true, wp_add_int, wp_sub_int, isiA, calA]
    refine w_put_in x0 x1 10 (n' + 1) r st3 _ _ s3 (by omega) (by omega) e4 (by omega) fun r' st4 c1 c2 c3 f4 s4 => ?_
    try simp -implicitDefEqProofs only [wpS_sbnd, we_k, we_g, we_gf, we_v, wea_v, we_tup, we_lst, we_bin, we_neg, we_not, we_cmp, we_chain, we_and, we_or, we_ite, we_idx, we_sl, wt_no, wt_v, wt_k, wt_bin, wt_neg, wt_idx, we_callG, we_prim, we_meth, we_isi, we_comp, wea_gf, wea_lam0, wea_lam1, we_lam0, we_hcall, wa_nil, wa_cons, waa_nil, waa_cons, wg_tn, wg_tt, wg_tsub, wgs_nil, wgs_cons, gsNil_nil, wi_iv, wi_ir1, wi_ir2, wi_ien, wi_izip, wi_izl, ws_asg, ws_par, ws_ex, ws_ret, ws_retN, ws_pass, ws_brk, ws_iff, ws_forr, ws_raise, wss_nil, wss_cons, wtru_eq, wp_ok, wp_exc, wp_oth_some, wea_k, wea_g, wea_tup, wea_lst, wea_bin, wea_neg, wea_not, wea_cmp, wea_chain, wea_and, wea_or, wea_ite, wea_idx, wea_sl, wea_call, wea_prim, wea_meth, wea_isi, wea_comp, slotD_z, slotD_s, slotA_z, slotA_s, newTup0, newTup1, newTup2, newTup3, newTup4, tr_non, tr_bl, tr_int, tr_tup, len_tup, atI0, atI1, idx_tup, it_tup, un_tup, int_of, lt_int, le_int, gt_int, ge_int, cmp_eq, cmp_ne, cmp_is, cmp_isnot, eqD_int, eqD_bl, lt_tup, List.set_cons_succ, List.set_cons_zero, startD, List.map_cons, List.map_nil, List.length_cons, List.length_nil, Nat.zero_add, Nat.reduceAdd, Nat.reduceSub, Nat.sub_self, List.replicate_succ, List.replicate_zero, List.cons_append, List.nil_append, Option.map_some, Kst.d, if_true, if_false, Bool.false_eq_true, wp_add_int, wp_sub_int, isiA, calA]
    exact ⟨(f2.trans f3).trans f4, s4, r', _, rfl, by omega, by omega, c3⟩
  · subst e1
    simp -implicitDefEqProofs only [wpS_sbnd, we_k, we_g, we_gf, we_v, wea_v, we_tup, we_lst, we_bin, we_neg, we_not, we_cmp, we_chain, we_and, we_or, we_ite, we_idx, we_sl, wt_no, wt_v, wt_k, wt_bin, wt_neg, wt_idx, we_callG, we_prim, we_meth, we_isi, we_comp, wea_gf, wea_lam0, wea_lam1, we_lam0, we_hcall, wa_nil, wa_cons, waa_nil, waa_cons, wg_tn, wg_tt, wg_tsub, wgs_nil, wgs_cons, gsNil_nil, wi_iv, wi_ir1, wi_ir2, wi_ien, wi_izip, wi_izl, ws_asg, ws_par, ws_ex, ws_ret, ws_retN, ws_pass, ws_brk, ws_iff, ws_forr, ws_raise, wss_nil, wss_cons, wtru_eq, wp_ok, wp_exc, wp_oth_some, wea_k, wea_g, wea_tup, wea_lst, wea_bin, wea_neg, wea_not, wea_cmp, wea_chain, wea_and, wea_or, wea_ite, wea_idx, wea_sl, wea_call, wea_prim, wea_meth, wea_isi, wea_comp, slotD_z, slotD_s, slotA_z, slotA_s, newTup0, newTup1, newTup2, newTup3, newTup4, tr_non, tr_bl, tr_int, tr_tup, len_tup, atI0, atI1, idx_tup, it_tup, un_tup, int_of, lt_int, le_int, gt_int, ge_int, cmp_eq, cmp_ne, cmp_is, cmp_isnot, eqD_int, eqD_bl, lt_tup, List.set_cons_succ, List.set_cons_zero, startD, List.map_cons, List.map_nil, List.length_cons, List.length_nil, Nat.zero_add, Nat.reduceAdd, Nat.reduceSub, Nat.sub_self, List.replicate_succ, List.replicate_zero, List.cons_append, List.nil_append, Option.map_some, Kst.d, if_true, if_false, Bool.false_eq_true, wp_add_int, wp_sub_int, isiA, calA]
    exact h r st' (by omega) e3 e4 f2 s2
end
end K01

set_option Elab.async false
set_option linter.all false
set_option maxRecDepth 100000
/-! law k01: values that are bent. -/
namespace K01
open PF
abbrev dep (d : D) : Nat := depW (fun _ => 0) d
theorem dep_tup {ds : List D} {b : Nat} : dep (.tup ds) ≤ b + 1 ↔ ∀ d ∈ ds, dep d ≤ b := by
  have : ∀ ds : List D, depsW (fun _ => 0) ds ≤ b ↔ ∀ d ∈ ds, dep d ≤ b := by
    intro ds
    induction ds with
    | nil => simp [depsW]
    | cons d ds ih =>
      simp only [depsW, List.forall_mem_cons, ← ih]
      show max (dep d) _ ≤ b ↔ _
      omega
  rw [← this]
  show depsW (fun _ => 0) ds + 1 ≤ b + 1 ↔ _
  omega
theorem dep_item {ds : List D} {d : D} (h : d ∈ ds) : dep d + 1 ≤ dep (.tup ds) := by
  have e : dep (.tup ds) = depsW (fun _ => 0) ds + 1 := rfl
  have := dep_tup.mp (show dep (.tup ds) ≤ depsW (fun _ => 0) ds + 1 by omega) d h
  omega
mutual
theorem sm_mono {m m' : Nat} (h : m ≤ m') : ∀ d : D, sm m d = true → sm m' d = true
  | .tup ds, e => by
    simp only [sm, Bool.and_eq_true, decide_eq_true_eq] at e ⊢
    exact ⟨by omega, sms_mono h ds e.2⟩
  | .non, _ => rfl
  | .bl _, _ => rfl
  | .int _, _ => rfl
  | .str _, _ => rfl
  | .loc _, _ => rfl
  | .rol _, _ => rfl
  | .fn _, _ => rfl
  | .lam _, _ => rfl
theorem sms_mono {m m' : Nat} (h : m ≤ m') : ∀ ds : List D, sms m ds = true → sms m' ds = true
  | [], _ => rfl
  | d :: ds, e => by
    simp only [sms, Bool.and_eq_true] at e ⊢
    exact ⟨sm_mono h d e.1, sms_mono h ds e.2⟩
end
theorem _root_.PF.Val.more {k m m' : Nat} {st : Store} {d : D} (h : Val k m st d) (hm : m ≤ m') : Val k m' st d := ⟨h.1, sm_mono hm d h.2⟩
/-- what a place may be turned into -/
def odds (j : Nat) : List D := [.non, .bl true, .int 0, .int 1, .int 2, .int 3, .int (-1), .str [48], .tup [], .loc j, .tup [.tup [.int 0, .tup []]], .tup [.int 0, .tup []], .tup [.int 1, .tup [.tup [.int 0, .tup []]]], .tup [.tup [.int 2, .tup []], .tup [.int 1, .tup []]]]
theorem odds_val {k j m : Nat} {st : Store} (hm : 2 ≤ m) (hj : listAt st j = some []) (hne : j ≠ k) : ∀ d ∈ odds j, Val k m st d ∧ dep d ≤ 4 := by
  have hl : Val k 2 st (.loc j) := ⟨dat_loc hj hne rfl, rfl⟩
  have z : ∀ d ∈ odds j, (Val k 2 st d) ∧ dep d ≤ 4 := by
    intro d hd
    simp only [odds, List.mem_cons, List.not_mem_nil, or_false] at hd
    rcases hd with e | e | e | e | e | e | e | e | e | e | e | e | e | e <;> subst e
    all_goals first | (exact ⟨hl, Nat.zero_le _⟩) | (exact ⟨⟨rfl, rfl⟩, by decide⟩)
  exact fun d hd => ⟨(z d hd).1.more hm, (z d hd).2⟩
section
variable {W k : Nat}
theorem src_lt {st : Store} (h : Src k st) : k < st.length := by
  obtain ⟨a, b, h1, _⟩ := h
  exact listAt_lt h1
theorem w_bent {m : Nat} (hm : 2 ≤ m) (hm2 : m < 900) : ∀ (d n : Nat) (v : D) (st : Store) (Q : D → Store → Prop) (E : Xn → Store → Prop), Src k st → Val k m st v → dep v ≤ d → d + 4 ≤ n →
    (∀ v' st', Val k (m + 1) st' v' → dep v' ≤ dep v + 4 → Fr k st st' → Src k st' → Q v' st') → wp (callN prog W n (.d (.fn 29)) [.d (.loc k), .d v] st) Q E := by
  intro d
  induction d with
  | zero =>
    intro n v st Q E hs hv hd hn h
    obtain ⟨n, rfl⟩ : ∃ m, n = m + 3 := ⟨n - 3, by omega⟩
    rw [wp_fn (d := ⟨2, 5, c__law_bent⟩) rfl rfl]
    simp -implicitDefEqProofs only [c__law_bent, wpS_sbnd, we_k, we_g, we_gf, we_v, wea_v, we_tup, we_lst, we_bin, we_neg, we_not, we_cmp, we_chain, we_and, we_or, we_ite, we_idx, we_sl, wt_no, wt_v, wt_k, wt_bin, wt_neg, wt_idx, we_callG, we_prim, we_meth, we_isi, we_comp, wea_gf, wea_lam0, wea_lam1, we_lam0, we_hcall, wa_nil, wa_cons, waa_nil, waa_cons, wg_tn, wg_tt, wg_tsub, wgs_nil, wgs_cons, gsNil_nil, wi_iv, wi_ir1, wi_ir2, wi_ien, wi_izip, wi_izl, ws_asg, ws_par, ws_ex, ws_ret, ws_retN, ws_pass, ws_brk, ws_iff, ws_forr, ws_raise, wss_nil, wss_cons, wtru_eq, wp_ok, wp_exc, wp_oth_some, wea_k, wea_g, wea_tup, wea_lst, wea_bin, wea_neg, wea_not, wea_cmp, wea_chain, wea_and, wea_or, wea_ite, wea_idx, wea_sl, wea_call, wea_prim, wea_meth, wea_isi, wea_comp, slotD_z, slotD_s, slotA_z, slotA_s, newTup0, newTup1, newTup2, newTup3, newTup4, tr_non, tr_bl, tr_int, tr_tup, len_tup, atI0, atI1, idx_tup, it_tup, un_tup, int_of, lt_int, le_int, gt_int, ge_int, cmp_eq, cmp_ne, cmp_is, cmp_isnot, eqD_int, eqD_bl, lt_tup, List.set_cons_succ, List.set_cons_zero, startD, List.map_cons, List.map_nil, List.length_cons, List.length_nil, Nat.zero_add, Nat.reduceAdd, Nat.reduceSub, Nat.sub_self, List.replicate_succ, List.replicate_zero, List.cons_append, List.nil_append, Option.map_some, Kst.d, if_true, if_false, Bool.false_eq_true, wp_add_int, wp_sub_int, isiA, calA]
    have fin : wp (newList [] st) (fun d st1 => wp (newList [.non, .bl true, .int 0, .int 1, .int 2, .int 3, .int (-1), .str [48], .tup [], d, .tup [.tup [.int 0, .tup []]], .tup [.int 0, .tup []], .tup [.int 1, .tup [.tup [.int 0, .tup []]]], .tup [.tup [.int 2, .tup []], .tup [.int 1, .tup []]]] st1) (fun d st1 => wp (callN prog W (n + 2) (.d (.fn 14)) [.d (.loc k), .d d] st1) (fun d st1 => Q d st1) E) E) E := by
      have hk := src_lt hs
      refine wp_newList (lim_le (by decide)) ?_
      refine wp_newList (lim_le (by show 14 ≤ 100000; decide)) ?_
      have x : Ex st ((st ++ [Ob.lst []]) ++ [Ob.lst (odds st.length)]) := (Ex.app _ _).trans (Ex.app _ _)
      refine w_choice (j := (st ++ [Ob.lst []]).length) (ds := odds st.length) (by omega) (hs.ex x) (listAt_new _ _) (by simp; omega) (by simp [odds]) (by simp [odds]) fun d st' hd f s => ?_
      have hj : listAt st' st.length = some [] := f.2 _ _ (by omega) (listAt_app (listAt_new _ _))
      obtain ⟨a, b⟩ := odds_val (k := k) (m := m + 1) (by omega) hj (by omega) d hd
      exact h d st' a (by omega) ((x.fr k).trans f) s
    cases v with
    | tup ds => exact absurd hd (by simp [dep, depW])
    | rol => cases hv.1
    | fn => cases hv.1
    | lam => cases hv.1
    | _ => simpa -implicitDefEqProofs only [isiD, wpS_sbnd, we_k, we_g, we_gf, we_v, wea_v, we_tup, we_lst, we_bin, we_neg, we_not, we_cmp, we_chain, we_and, we_or, we_ite, we_idx, we_sl, wt_no, wt_v, wt_k, wt_bin, wt_neg, wt_idx, we_callG, we_prim, we_meth, we_isi, we_comp, wea_gf, wea_lam0, wea_lam1, we_lam0, we_hcall, wa_nil, wa_cons, waa_nil, waa_cons, wg_tn, wg_tt, wg_tsub, wgs_nil, wgs_cons, gsNil_nil, wi_iv, wi_ir1, wi_ir2, wi_ien, wi_izip, wi_izl, ws_asg, ws_par, ws_ex, ws_ret, ws_retN, ws_pass, ws_brk, ws_iff, ws_forr, ws_raise, wss_nil, wss_cons, wtru_eq, wp_ok, wp_exc, wp_oth_some, wea_k, wea_g, wea_tup, wea_lst, wea_bin, wea_neg, wea_not, wea_cmp, wea_chain, wea_and, wea_or, wea_ite, wea_idx, wea_sl, wea_call, wea_prim, wea_meth, wea_isi, wea_comp, slotD_z, slotD_s, slotA_z, slotA_s, newTup0, newTup1, newTup2, newTup3, newTup4, tr_non, tr_bl, tr_int, tr_tup, len_tup, atI0, atI1, idx_tup, it_tup, un_tup, int_of, lt_int, le_int, gt_int, ge_int, cmp_eq, cmp_ne, cmp_is, cmp_isnot, eqD_int, eqD_bl, lt_tup, List.set_cons_succ, List.set_cons_zero, startD, List.map_cons, List.map_nil, List.length_cons, List.length_nil, Nat.zero_add, Nat.reduceAdd, Nat.reduceSub, Nat.sub_self, List.replicate_succ, List.replicate_zero, List.cons_append, List.nil_append, Option.map_some, Kst.d, if_true, if_false, Bool.false_eq_true, wp_add_int, wp_sub_int, isiA, calA] using fin
  | succ d ih =>
    intro n v st Q E hs hv hd hn h
    obtain ⟨n, rfl⟩ : ∃ m, n = m + 3 := ⟨n - 3, by omega⟩
    rw [wp_fn (d := ⟨2, 5, c__law_bent⟩) rfl rfl]
    simp -implicitDefEqProofs only [c__law_bent, wpS_sbnd, we_k, we_g, we_gf, we_v, wea_v, we_tup, we_lst, we_bin, we_neg, we_not, we_cmp, we_chain, we_and, we_or, we_ite, we_idx, we_sl, wt_no, wt_v, wt_k, wt_bin, wt_neg, wt_idx, we_callG, we_prim, we_meth, we_isi, we_comp, wea_gf, wea_lam0, wea_lam1, we_lam0, we_hcall, wa_nil, wa_cons, waa_nil, waa_cons, wg_tn, wg_tt, wg_tsub, wgs_nil, wgs_cons, gsNil_nil, wi_iv, wi_ir1, wi_ir2, wi_ien, wi_izip, wi_izl, ws_asg, ws_par, ws_ex, ws_ret, ws_retN, ws_pass, ws_brk, ws_iff, ws_forr, ws_raise, wss_nil, wss_cons, wtru_eq, wp_ok, wp_exc, wp_oth_some, wea_k, wea_g, wea_tup, wea_lst, wea_bin, wea_neg, wea_not, wea_cmp, wea_chain, wea_and, wea_or, wea_ite, wea_idx, wea_sl, wea_call, wea_prim, wea_meth, wea_isi, wea_comp, slotD_z, slotD_s, slotA_z, slotA_s, newTup0, newTup1, newTup2, newTup3, newTup4, tr_non, tr_bl, tr_int, tr_tup, len_tup, atI0, atI1, idx_tup, it_tup, un_tup, int_of, lt_int, le_int, gt_int, ge_int, cmp_eq, cmp_ne, cmp_is, cmp_isnot, eqD_int, eqD_bl, lt_tup, List.set_cons_succ, List.set_cons_zero, startD, List.map_cons, List.map_nil, List.length_cons, List.length_nil, Nat.zero_add, Nat.reduceAdd, Nat.reduceSub, Nat.sub_self, List.replicate_succ, List.replicate_zero, List.cons_append, List.nil_append, Option.map_some, Kst.d, if_true, if_false, Bool.false_eq_true, wp_add_int, wp_sub_int, isiA, calA]
    have fin : ∀ st1, Fr k st st1 → Src k st1 → wp (newList [] st1) (fun d st1 => wp (newList [.non, .bl true, .int 0, .int 1, .int 2, .int 3, .int (-1), .str [48], .tup [], d, .tup [.tup [.int 0, .tup []]], .tup [.int 0, .tup []], .tup [.int 1, .tup [.tup [.int 0, .tup []]]], .tup [.tup [.int 2, .tup []], .tup [.int 1, .tup []]]] st1) (fun d st1 => wp (callN prog W (n + 2) (.d (.fn 14)) [.d (.loc k), .d d] st1) (fun d st1 => Q d st1) E) E) E := fun st1 f1 s1 => by
      have hk := src_lt s1
      refine wp_newList (lim_le (by decide)) ?_
      refine wp_newList (lim_le (by show 14 ≤ 100000; decide)) ?_
      have x : Ex st1 ((st1 ++ [Ob.lst []]) ++ [Ob.lst (odds st1.length)]) := (Ex.app _ _).trans (Ex.app _ _)
      refine w_choice (j := (st1 ++ [Ob.lst []]).length) (ds := odds st1.length) (by omega) (s1.ex x) (listAt_new _ _) (by simp; omega) (by simp [odds]) (by simp [odds]) fun d st' hd f s => ?_
      have hj : listAt st' st1.length = some [] := f.2 _ _ (by omega) (listAt_app (listAt_new _ _))
      obtain ⟨a, b⟩ := odds_val (k := k) (m := m + 1) (by omega) hj (by omega) d hd
      exact h d st' a (by omega) ((f1.trans (x.fr k)).trans f) s
    cases v with
    | tup ds =>
      simp -implicitDefEqProofs only [isiD, wpS_sbnd, we_k, we_g, we_gf, we_v, wea_v, we_tup, we_lst, we_bin, we_neg, we_not, we_cmp, we_chain, we_and, we_or, we_ite, we_idx, we_sl, wt_no, wt_v, wt_k, wt_bin, wt_neg, wt_idx, we_callG, we_prim, we_meth, we_isi, we_comp, wea_gf, wea_lam0, wea_lam1, we_lam0, we_hcall, wa_nil, wa_cons, waa_nil, waa_cons, wg_tn, wg_tt, wg_tsub, wgs_nil, wgs_cons, gsNil_nil, wi_iv, wi_ir1, wi_ir2, wi_ien, wi_izip, wi_izl, ws_asg, ws_par, ws_ex, ws_ret, ws_retN, ws_pass, ws_brk, ws_iff, ws_forr, ws_raise, wss_nil, wss_cons, wtru_eq, wp_ok, wp_exc, wp_oth_some, wea_k, wea_g, wea_tup, wea_lst, wea_bin, wea_neg, wea_not, wea_cmp, wea_chain, wea_and, wea_or, wea_ite, wea_idx, wea_sl, wea_call, wea_prim, wea_meth, wea_isi, wea_comp, slotD_z, slotD_s, slotA_z, slotA_s, newTup0, newTup1, newTup2, newTup3, newTup4, tr_non, tr_bl, tr_int, tr_tup, len_tup, atI0, atI1, idx_tup, it_tup, un_tup, int_of, lt_int, le_int, gt_int, ge_int, cmp_eq, cmp_ne, cmp_is, cmp_isnot, eqD_int, eqD_bl, lt_tup, List.set_cons_succ, List.set_cons_zero, startD, List.map_cons, List.map_nil, List.length_cons, List.length_nil, Nat.zero_add, Nat.reduceAdd, Nat.reduceSub, Nat.sub_self, List.replicate_succ, List.replicate_zero, List.cons_append, List.nil_append, Option.map_some, Kst.d, if_true, if_false, Bool.false_eq_true, wp_add_int, wp_sub_int, isiA, calA, eqD_nil hv.1]
      cases hnil : isNilD (.tup ds) with
      | true => simpa -implicitDefEqProofs only [Bool.not_true, Bool.false_eq_true, if_false, wpS_sbnd, we_k, we_g, we_gf, we_v, wea_v, we_tup, we_lst, we_bin, we_neg, we_not, we_cmp, we_chain, we_and, we_or, we_ite, we_idx, we_sl, wt_no, wt_v, wt_k, wt_bin, wt_neg, wt_idx, we_callG, we_prim, we_meth, we_isi, we_comp, wea_gf, wea_lam0, wea_lam1, we_lam0, we_hcall, wa_nil, wa_cons, waa_nil, waa_cons, wg_tn, wg_tt, wg_tsub, wgs_nil, wgs_cons, gsNil_nil, wi_iv, wi_ir1, wi_ir2, wi_ien, wi_izip, wi_izl, ws_asg, ws_par, ws_ex, ws_ret, ws_retN, ws_pass, ws_brk, ws_iff, ws_forr, ws_raise, wss_nil, wss_cons, wtru_eq, wp_ok, wp_exc, wp_oth_some, wea_k, wea_g, wea_tup, wea_lst, wea_bin, wea_neg, wea_not, wea_cmp, wea_chain, wea_and, wea_or, wea_ite, wea_idx, wea_sl, wea_call, wea_prim, wea_meth, wea_isi, wea_comp, slotD_z, slotD_s, slotA_z, slotA_s, newTup0, newTup1, newTup2, newTup3, newTup4, tr_non, tr_bl, tr_int, tr_tup, len_tup, atI0, atI1, idx_tup, it_tup, un_tup, int_of, lt_int, le_int, gt_int, ge_int, cmp_eq, cmp_ne, cmp_is, cmp_isnot, eqD_int, eqD_bl, lt_tup, List.set_cons_succ, List.set_cons_zero, startD, List.map_cons, List.map_nil, List.length_cons, List.length_nil, Nat.zero_add, Nat.reduceAdd, Nat.reduceSub, Nat.sub_self, List.replicate_succ, List.replicate_zero, List.cons_append, List.nil_append, Option.map_some, Kst.d, if_true, if_false, Bool.false_eq_true, wp_add_int, wp_sub_int, isiA, calA] using fin st (Fr.refl _ _) hs
      | false =>
        simp -implicitDefEqProofs only [Bool.not_false, if_true, wpS_sbnd, we_k, we_g, we_gf, we_v, wea_v, we_tup, we_lst, we_bin, we_neg, we_not, we_cmp, we_chain, we_and, we_or, we_ite, we_idx, we_sl, wt_no, wt_v, wt_k, wt_bin, wt_neg, wt_idx, we_callG, we_prim, we_meth, we_isi, we_comp, wea_gf, wea_lam0, wea_lam1, we_lam0, we_hcall, wa_nil, wa_cons, waa_nil, waa_cons, wg_tn, wg_tt, wg_tsub, wgs_nil, wgs_cons, gsNil_nil, wi_iv, wi_ir1, wi_ir2, wi_ien, wi_izip, wi_izl, ws_asg, ws_par, ws_ex, ws_ret, ws_retN, ws_pass, ws_brk, ws_iff, ws_forr, ws_raise, wss_nil, wss_cons, wtru_eq, wp_ok, wp_exc, wp_oth_some, wea_k, wea_g, wea_tup, wea_lst, wea_bin, wea_neg, wea_not, wea_cmp, wea_chain, wea_and, wea_or, wea_ite, wea_idx, wea_sl, wea_call, wea_prim, wea_meth, wea_isi, wea_comp, slotD_z, slotD_s, slotA_z, slotA_s, newTup0, newTup1, newTup2, newTup3, newTup4, tr_non, tr_bl, tr_int, tr_tup, len_tup, atI0, atI1, idx_tup, it_tup, un_tup, int_of, lt_int, le_int, gt_int, ge_int, cmp_eq, cmp_ne, cmp_is, cmp_isnot, eqD_int, eqD_bl, lt_tup, List.set_cons_succ, List.set_cons_zero, startD, List.map_cons, List.map_nil, List.length_cons, List.length_nil, Nat.zero_add, Nat.reduceAdd, Nat.reduceSub, Nat.sub_self, List.replicate_succ, List.replicate_zero, List.cons_append, List.nil_append, Option.map_some, Kst.d, if_true, if_false, Bool.false_eq_true, wp_add_int, wp_sub_int, isiA, calA]
        have hne : ds ≠ [] := fun e => by rw [e] at hnil; cases hnil
        have hp : 0 < ds.length := List.length_pos_iff.mpr hne
        have hvl := (val_tup.mp hv).1
        refine w_draw hs (by decide) (by decide) fun x st1 x0 x1 f1 s1 => ?_
        try simp -implicitDefEqProofs only [wpS_sbnd, we_k, we_g, we_gf, we_v, wea_v, we_tup, we_lst, we_bin, we_neg, we_not, we_cmp, we_chain, we_and, we_or, we_ite, we_idx, we_sl, wt_no, wt_v, wt_k, wt_bin, wt_neg, wt_idx, we_callG, we_prim, we_meth, we_isi, we_comp, wea_gf, wea_lam0, wea_lam1, we_lam0, we_hcall, wa_nil, wa_cons, waa_nil, waa_cons, wg_tn, wg_tt, wg_tsub, wgs_nil, wgs_cons, gsNil_nil, wi_iv, wi_ir1, wi_ir2, wi_ien, wi_izip, wi_izl, ws_asg, ws_par, ws_ex, ws_ret, ws_retN, ws_pass, ws_brk, ws_iff, ws_forr, ws_raise, wss_nil, wss_cons, wtru_eq, wp_ok, wp_exc, wp_oth_some, wea_k, wea_g, wea_tup, wea_lst, wea_bin, wea_neg, wea_not, wea_cmp, wea_chain, wea_and, wea_or, wea_ite, wea_idx, wea_sl, wea_call, wea_prim, wea_meth, wea_isi, wea_comp, slotD_z, slotD_s, slotA_z, slotA_s, newTup0, newTup1, newTup2, newTup3, newTup4, tr_non, tr_bl, tr_int, tr_tup, len_tup, atI0, atI1, idx_tup, it_tup, un_tup, int_of, lt_int, le_int, gt_int, ge_int, cmp_eq, cmp_ne, cmp_is, cmp_isnot, eqD_int, eqD_bl, lt_tup, List.set_cons_succ, List.set_cons_zero, startD, List.map_cons, List.map_nil, List.length_cons, List.length_nil, Nat.zero_add, Nat.reduceAdd, Nat.reduceSub, Nat.sub_self, List.replicate_succ, List.replicate_zero, List.cons_append, List.nil_append, Option.map_some, Kst.d, if_true, if_false, Bool.false_eq_true, wp_add_int, wp_sub_int, isiA, calA]
        by_cases hx : 0 < x
        · simp -implicitDefEqProofs only [hx, decide_true, if_true, wpS_sbnd, we_k, we_g, we_gf, we_v, wea_v, we_tup, we_lst, we_bin, we_neg, we_not, we_cmp, we_chain, we_and, we_or, we_ite, we_idx, we_sl, wt_no, wt_v, wt_k, wt_bin, wt_neg, wt_idx, we_callG, we_prim, we_meth, we_isi, we_comp, wea_gf, wea_lam0, wea_lam1, we_lam0, we_hcall, wa_nil, wa_cons, waa_nil, waa_cons, wg_tn, wg_tt, wg_tsub, wgs_nil, wgs_cons, gsNil_nil, wi_iv, wi_ir1, wi_ir2, wi_ien, wi_izip, wi_izl, ws_asg, ws_par, ws_ex, ws_ret, ws_retN, ws_pass, ws_brk, ws_iff, ws_forr, ws_raise, wss_nil, wss_cons, wtru_eq, wp_ok, wp_exc, wp_oth_some, wea_k, wea_g, wea_tup, wea_lst, wea_bin, wea_neg, wea_not, wea_cmp, wea_chain, wea_and, wea_or, wea_ite, wea_idx, wea_sl, wea_call, wea_prim, wea_meth, wea_isi, wea_comp, slotD_z, slotD_s, slotA_z, slotA_s, newTup0, newTup1, newTup2, newTup3, newTup4, tr_non, tr_bl, tr_int, tr_tup, len_tup, atI0, atI1, idx_tup, it_tup, un_tup, int_of, lt_int, le_int, gt_int, ge_int, cmp_eq, cmp_ne, cmp_is, cmp_isnot, eqD_int, eqD_bl, lt_tup, List.set_cons_succ, List.set_cons_zero, startD, List.map_cons, List.map_nil, List.length_cons, List.length_nil, Nat.zero_add, Nat.reduceAdd, Nat.reduceSub, Nat.sub_self, List.replicate_succ, List.replicate_zero, List.cons_append, List.nil_append, Option.map_some, Kst.d, if_true, if_false, Bool.false_eq_true, wp_add_int, wp_sub_int, isiA, calA]
          refine w_draw s1 (by omega) (by omega) fun i st2 i0 i1 f2 s2 => ?_
          try simp -implicitDefEqProofs only [wpS_sbnd, we_k, we_g, we_gf, we_v, wea_v, we_tup, we_lst, we_bin, we_neg, we_not, we_cmp, we_chain, we_and, we_or, we_ite, we_idx, we_sl, wt_no, wt_v, wt_k, wt_bin, wt_neg, wt_idx, we_callG, we_prim, we_meth, we_isi, we_comp, wea_gf, wea_lam0, wea_lam1, we_lam0, we_hcall, wa_nil, wa_cons, waa_nil, waa_cons, wg_tn, wg_tt, wg_tsub, wgs_nil, wgs_cons, gsNil_nil, wi_iv, wi_ir1, wi_ir2, wi_ien, wi_izip, wi_izl, ws_asg, ws_par, ws_ex, ws_ret, ws_retN, ws_pass, ws_brk, ws_iff, ws_forr, ws_raise, wss_nil, wss_cons, wtru_eq, wp_ok, wp_exc, wp_oth_some, wea_k, wea_g, wea_tup, wea_lst, wea_bin, wea_neg, wea_not, wea_cmp, wea_chain, wea_and, wea_or, wea_ite, wea_idx, wea_sl, wea_call, wea_prim, wea_meth, wea_isi, wea_comp, slotD_z, slotD_s, slotA_z, slotA_s, newTup0, newTup1, newTup2, newTup3, newTup4, tr_non, tr_bl, tr_int, tr_tup, len_tup, atI0, atI1, idx_tup, it_tup, un_tup, int_of, lt_int, le_int, gt_int, ge_int, cmp_eq, cmp_ne, cmp_is, cmp_isnot, eqD_int, eqD_bl, lt_tup, List.set_cons_succ, List.set_cons_zero, startD, List.map_cons, List.map_nil, List.length_cons, List.length_nil, Nat.zero_add, Nat.reduceAdd, Nat.reduceSub, Nat.sub_self, List.replicate_succ, List.replicate_zero, List.cons_append, List.nil_append, Option.map_some, Kst.d, if_true, if_false, Bool.false_eq_true, wp_add_int, wp_sub_int, isiA, calA]
          refine w_draw s2 (by decide) (by decide) fun y st3 y0 y1 f3 s3 => ?_
          have f : Fr k st st3 := (f1.trans f2).trans f3
          have l1 : ∀ j, (ds.take j).length ≤ ds.length := fun j => by rw [List.length_take]; omega
          have l2 : ∀ j, (ds.drop j).length ≤ ds.length := fun j => by rw [List.length_drop]; omega
          have vs : ∀ d ∈ ds, Val k (m + 1) st3 d := fun d hd => (((val_tup.mp hv).2 d hd).fr f).more (by omega)
          simp -implicitDefEqProofs only [parS, wpS_sbnd, we_k, we_g, we_gf, we_v, wea_v, we_tup, we_lst, we_bin, we_neg, we_not, we_cmp, we_chain, we_and, we_or, we_ite, we_idx, we_sl, wt_no, wt_v, wt_k, wt_bin, wt_neg, wt_idx, we_callG, we_prim, we_meth, we_isi, we_comp, wea_gf, wea_lam0, wea_lam1, we_lam0, we_hcall, wa_nil, wa_cons, waa_nil, waa_cons, wg_tn, wg_tt, wg_tsub, wgs_nil, wgs_cons, gsNil_nil, wi_iv, wi_ir1, wi_ir2, wi_ien, wi_izip, wi_izl, ws_asg, ws_par, ws_ex, ws_ret, ws_retN, ws_pass, ws_brk, ws_iff, ws_forr, ws_raise, wss_nil, wss_cons, wtru_eq, wp_ok, wp_exc, wp_oth_some, wea_k, wea_g, wea_tup, wea_lst, wea_bin, wea_neg, wea_not, wea_cmp, wea_chain, wea_and, wea_or, wea_ite, wea_idx, wea_sl, wea_call, wea_prim, wea_meth, wea_isi, wea_comp, slotD_z, slotD_s, slotA_z, slotA_s, newTup0, newTup1, newTup2, newTup3, newTup4, tr_non, tr_bl, tr_int, tr_tup, len_tup, atI0, atI1, idx_tup, it_tup, un_tup, int_of, lt_int, le_int, gt_int, ge_int, cmp_eq, cmp_ne, cmp_is, cmp_isnot, eqD_int, eqD_bl, lt_tup, List.set_cons_succ, List.set_cons_zero, startD, List.map_cons, List.map_nil, List.length_cons, List.length_nil, Nat.zero_add, Nat.reduceAdd, Nat.reduceSub, Nat.sub_self, List.replicate_succ, List.replicate_zero, List.cons_append, List.nil_append, Option.map_some, Kst.d, if_true, if_false, Bool.false_eq_true, wp_add_int, wp_sub_int, isiA, calA]
          by_cases hy0 : y = 0
          · simp -implicitDefEqProofs only [hy0, beq_self_eq_true, if_true, wpS_sbnd, we_k, we_g, we_gf, we_v, wea_v, we_tup, we_lst, we_bin, we_neg, we_not, we_cmp, we_chain, we_and, we_or, we_ite, we_idx, we_sl, wt_no, wt_v, wt_k, wt_bin, wt_neg, wt_idx, we_callG, we_prim, we_meth, we_isi, we_comp, wea_gf, wea_lam0, wea_lam1, we_lam0, we_hcall, wa_nil, wa_cons, waa_nil, waa_cons, wg_tn, wg_tt, wg_tsub, wgs_nil, wgs_cons, gsNil_nil, wi_iv, wi_ir1, wi_ir2, wi_ien, wi_izip, wi_izl, ws_asg, ws_par, ws_ex, ws_ret, ws_retN, ws_pass, ws_brk, ws_iff, ws_forr, ws_raise, wss_nil, wss_cons, wtru_eq, wp_ok, wp_exc, wp_oth_some, wea_k, wea_g, wea_tup, wea_lst, wea_bin, wea_neg, wea_not, wea_cmp, wea_chain, wea_and, wea_or, wea_ite, wea_idx, wea_sl, wea_call, wea_prim, wea_meth, wea_isi, wea_comp, slotD_z, slotD_s, slotA_z, slotA_s, newTup0, newTup1, newTup2, newTup3, newTup4, tr_non, tr_bl, tr_int, tr_tup, len_tup, atI0, atI1, idx_tup, it_tup, un_tup, int_of, lt_int, le_int, gt_int, ge_int, cmp_eq, cmp_ne, cmp_is, cmp_isnot, eqD_int, eqD_bl, lt_tup, List.set_cons_succ, List.set_cons_zero, startD, List.map_cons, List.map_nil, List.length_cons, List.length_nil, Nat.zero_add, Nat.reduceAdd, Nat.reduceSub, Nat.sub_self, List.replicate_succ, List.replicate_zero, List.cons_append, List.nil_append, Option.map_some, Kst.d, if_true, if_false, Bool.false_eq_true, wp_add_int, wp_sub_int, isiA, calA, sl_tup, cut_to i0, cut_from (show (0 : Int) ≤ i + 1 by omega)]
            have := l1 i.toNat
            have := l2 (i + 1).toNat
            rw [wp_add_tup (lim_le (by rw [List.length_append]; omega))]
            have mem : ∀ d ∈ ds.take i.toNat ++ ds.drop (i + 1).toNat, d ∈ ds := fun d hd => (List.mem_append.mp hd).elim List.mem_of_mem_take List.mem_of_mem_drop
            refine h _ st3 (val_tup.mpr ⟨?_, fun d hd => vs d (mem d hd)⟩) ?_ f s3
            · rw [List.length_append, List.length_take, List.length_drop]
              omega
            · have : dep (.tup (ds.take i.toNat ++ ds.drop (i + 1).toNat)) ≤ (dep (.tup ds) - 1) + 1 := dep_tup.mpr fun d hd => by have := dep_item (mem d hd); omega
              omega
          · have e0 : (y == 0) = false := by simpa using hy0
            simp -implicitDefEqProofs only [e0, Bool.false_eq_true, if_false, wpS_sbnd, we_k, we_g, we_gf, we_v, wea_v, we_tup, we_lst, we_bin, we_neg, we_not, we_cmp, we_chain, we_and, we_or, we_ite, we_idx, we_sl, wt_no, wt_v, wt_k, wt_bin, wt_neg, wt_idx, we_callG, we_prim, we_meth, we_isi, we_comp, wea_gf, wea_lam0, wea_lam1, we_lam0, we_hcall, wa_nil, wa_cons, waa_nil, waa_cons, wg_tn, wg_tt, wg_tsub, wgs_nil, wgs_cons, gsNil_nil, wi_iv, wi_ir1, wi_ir2, wi_ien, wi_izip, wi_izl, ws_asg, ws_par, ws_ex, ws_ret, ws_retN, ws_pass, ws_brk, ws_iff, ws_forr, ws_raise, wss_nil, wss_cons, wtru_eq, wp_ok, wp_exc, wp_oth_some, wea_k, wea_g, wea_tup, wea_lst, wea_bin, wea_neg, wea_not, wea_cmp, wea_chain, wea_and, wea_or, wea_ite, wea_idx, wea_sl, wea_call, wea_prim, wea_meth, wea_isi, wea_comp, slotD_z, slotD_s, slotA_z, slotA_s, newTup0, newTup1, newTup2, newTup3, newTup4, tr_non, tr_bl, tr_int, tr_tup, len_tup, atI0, atI1, idx_tup, it_tup, un_tup, int_of, lt_int, le_int, gt_int, ge_int, cmp_eq, cmp_ne, cmp_is, cmp_isnot, eqD_int, eqD_bl, lt_tup, List.set_cons_succ, List.set_cons_zero, startD, List.map_cons, List.map_nil, List.length_cons, List.length_nil, Nat.zero_add, Nat.reduceAdd, Nat.reduceSub, Nat.sub_self, List.replicate_succ, List.replicate_zero, List.cons_append, List.nil_append, Option.map_some, Kst.d, if_true, if_false, Bool.false_eq_true, wp_add_int, wp_sub_int, isiA, calA]
            by_cases hy1 : y = 1
            · simp -implicitDefEqProofs only [hy1, beq_self_eq_true, if_true, wpS_sbnd, we_k, we_g, we_gf, we_v, wea_v, we_tup, we_lst, we_bin, we_neg, we_not, we_cmp, we_chain, we_and, we_or, we_ite, we_idx, we_sl, wt_no, wt_v, wt_k, wt_bin, wt_neg, wt_idx, we_callG, we_prim, we_meth, we_isi, we_comp, wea_gf, wea_lam0, wea_lam1, we_lam0, we_hcall, wa_nil, wa_cons, waa_nil, waa_cons, wg_tn, wg_tt, wg_tsub, wgs_nil, wgs_cons, gsNil_nil, wi_iv, wi_ir1, wi_ir2, wi_ien, wi_izip, wi_izl, ws_asg, ws_par, ws_ex, ws_ret, ws_retN, ws_pass, ws_brk, ws_iff, ws_forr, ws_raise, wss_nil, wss_cons, wtru_eq, wp_ok, wp_exc, wp_oth_some, wea_k, wea_g, wea_tup, wea_lst, wea_bin, wea_neg, wea_not, wea_cmp, wea_chain, wea_and, wea_or, wea_ite, wea_idx, wea_sl, wea_call, wea_prim, wea_meth, wea_isi, wea_comp, slotD_z, slotD_s, slotA_z, slotA_s, newTup0, newTup1, newTup2, newTup3, newTup4, tr_non, tr_bl, tr_int, tr_tup, len_tup, atI0, atI1, idx_tup, it_tup, un_tup, int_of, lt_int, le_int, gt_int, ge_int, cmp_eq, cmp_ne, cmp_is, cmp_isnot, eqD_int, eqD_bl, lt_tup, List.set_cons_succ, List.set_cons_zero, startD, List.map_cons, List.map_nil, List.length_cons, List.length_nil, Nat.zero_add, Nat.reduceAdd, Nat.reduceSub, Nat.sub_self, List.replicate_succ, List.replicate_zero, List.cons_append, List.nil_append, Option.map_some, Kst.d, if_true, if_false, Bool.false_eq_true, wp_add_int, wp_sub_int, isiA, calA, sl_tup, cut_to (show (0 : Int) ≤ i + 1 by omega), cut_from i0]
              have := l1 (i + 1).toNat
              have := l2 i.toNat
              rw [wp_add_tup (lim_le (by rw [List.length_append]; omega))]
              have mem : ∀ d ∈ ds.take (i + 1).toNat ++ ds.drop i.toNat, d ∈ ds := fun d hd => (List.mem_append.mp hd).elim List.mem_of_mem_take List.mem_of_mem_drop
              refine h _ st3 (val_tup.mpr ⟨?_, fun d hd => vs d (mem d hd)⟩) ?_ f s3
              · rw [List.length_append, List.length_take, List.length_drop]
                omega
              · have : dep (.tup (ds.take (i + 1).toNat ++ ds.drop i.toNat)) ≤ (dep (.tup ds) - 1) + 1 := dep_tup.mpr fun d hd => by have := dep_item (mem d hd); omega
                omega
            · have e1 : (y == 1) = false := by simpa using hy1
              obtain ⟨it, q1, q2, q3⟩ := atI_nat i0 i1
              simp -implicitDefEqProofs only [e1, Bool.false_eq_true, if_false, wpS_sbnd, we_k, we_g, we_gf, we_v, wea_v, we_tup, we_lst, we_bin, we_neg, we_not, we_cmp, we_chain, we_and, we_or, we_ite, we_idx, we_sl, wt_no, wt_v, wt_k, wt_bin, wt_neg, wt_idx, we_callG, we_prim, we_meth, we_isi, we_comp, wea_gf, wea_lam0, wea_lam1, we_lam0, we_hcall, wa_nil, wa_cons, waa_nil, waa_cons, wg_tn, wg_tt, wg_tsub, wgs_nil, wgs_cons, gsNil_nil, wi_iv, wi_ir1, wi_ir2, wi_ien, wi_izip, wi_izl, ws_asg, ws_par, ws_ex, ws_ret, ws_retN, ws_pass, ws_brk, ws_iff, ws_forr, ws_raise, wss_nil, wss_cons, wtru_eq, wp_ok, wp_exc, wp_oth_some, wea_k, wea_g, wea_tup, wea_lst, wea_bin, wea_neg, wea_not, wea_cmp, wea_chain, wea_and, wea_or, wea_ite, wea_idx, wea_sl, wea_call, wea_prim, wea_meth, wea_isi, wea_comp, slotD_z, slotD_s, slotA_z, slotA_s, newTup0, newTup1, newTup2, newTup3, newTup4, tr_non, tr_bl, tr_int, tr_tup, len_tup, atI0, atI1, idx_tup, it_tup, un_tup, int_of, lt_int, le_int, gt_int, ge_int, cmp_eq, cmp_ne, cmp_is, cmp_isnot, eqD_int, eqD_bl, lt_tup, List.set_cons_succ, List.set_cons_zero, startD, List.map_cons, List.map_nil, List.length_cons, List.length_nil, Nat.zero_add, Nat.reduceAdd, Nat.reduceSub, Nat.sub_self, List.replicate_succ, List.replicate_zero, List.cons_append, List.nil_append, Option.map_some, Kst.d, if_true, if_false, Bool.false_eq_true, wp_add_int, wp_sub_int, isiA, calA, sl_tup, cut_to i0, cut_from (show (0 : Int) ≤ i + 1 by omega), q1]
              have di := dep_item q3
              refine ih (n + 2) it st3 _ _ s3 (((val_tup.mp hv).2 it q3).fr f) (by omega) (by omega) fun v' st4 a1 a2 f4 s4 => ?_
              have := l1 i.toNat
              have := l2 (i + 1).toNat
              try simp -implicitDefEqProofs only [wpS_sbnd, we_k, we_g, we_gf, we_v, wea_v, we_tup, we_lst, we_bin, we_neg, we_not, we_cmp, we_chain, we_and, we_or, we_ite, we_idx, we_sl, wt_no, wt_v, wt_k, wt_bin, wt_neg, wt_idx, we_callG, we_prim, we_meth, we_isi, we_comp, wea_gf, wea_lam0, wea_lam1, we_lam0, we_hcall, wa_nil, wa_cons, waa_nil, waa_cons, wg_tn, wg_tt, wg_tsub, wgs_nil, wgs_cons, gsNil_nil, wi_iv, wi_ir1, wi_ir2, wi_ien, wi_izip, wi_izl, ws_asg, ws_par, ws_ex, ws_ret, ws_retN, ws_pass, ws_brk, ws_iff, ws_forr, ws_raise, wss_nil, wss_cons, wtru_eq, wp_ok, wp_exc, wp_oth_some, wea_k, wea_g, wea_tup, wea_lst, wea_bin, wea_neg, wea_not, wea_cmp, wea_chain, wea_and, wea_or, wea_ite, wea_idx, wea_sl, wea_call, wea_prim, wea_meth, wea_isi, wea_comp, slotD_z, slotD_s, slotA_z, slotA_s, newTup0, newTup1, newTup2, newTup3, newTup4, tr_non, tr_bl, tr_int, tr_tup, len_tup, atI0, atI1, idx_tup, it_tup, un_tup, int_of, lt_int, le_int, gt_int, ge_int, cmp_eq, cmp_ne, cmp_is, cmp_isnot, eqD_int, eqD_bl, lt_tup, List.set_cons_succ, List.set_cons_zero, startD, List.map_cons, List.map_nil, List.length_cons, List.length_nil, Nat.zero_add, Nat.reduceAdd, Nat.reduceSub, Nat.sub_self, List.replicate_succ, List.replicate_zero, List.cons_append, List.nil_append, Option.map_some, Kst.d, if_true, if_false, Bool.false_eq_true, wp_add_int, wp_sub_int, isiA, calA]
              rw [wp_add_tup (lim_le (by rw [List.length_append]; simp; omega))]
              rw [wp_add_tup (lim_le (by rw [List.length_append, List.length_append]; simp; omega))]
              have mem : ∀ d ∈ ds.take i.toNat ++ [v'] ++ ds.drop (i + 1).toNat, d = v' ∨ d ∈ ds := fun d hd => by
                rcases List.mem_append.mp hd with z | z
                · rcases List.mem_append.mp z with z | z
                  · exact .inr (List.mem_of_mem_take z)
                  · exact .inl (by simpa using z)
                · exact .inr (List.mem_of_mem_drop z)
              refine h _ st4 (val_tup.mpr ⟨?_, fun d hd => ?_⟩) ?_ (f.trans f4) s4
              · rw [List.length_append, List.length_append, List.length_take, List.length_drop]
                simp
                omega
              · rcases mem d hd with z | z
                · rw [z]; exact a1
                · exact (vs d z).fr f4
              · have : dep (.tup (ds.take i.toNat ++ [v'] ++ ds.drop (i + 1).toNat)) ≤ (dep (.tup ds) + 3) + 1 := dep_tup.mpr fun d hd => by
                  rcases mem d hd with z | z
                  · rw [z]; omega
                  · have := dep_item z; omega
                omega
        · simpa -implicitDefEqProofs only [hx, decide_false, Bool.false_eq_true, if_false, wpS_sbnd, we_k, we_g, we_gf, we_v, wea_v, we_tup, we_lst, we_bin, we_neg, we_not, we_cmp, we_chain, we_and, we_or, we_ite, we_idx, we_sl, wt_no, wt_v, wt_k, wt_bin, wt_neg, wt_idx, we_callG, we_prim, we_meth, we_isi, we_comp, wea_gf, wea_lam0, wea_lam1, we_lam0, we_hcall, wa_nil, wa_cons, waa_nil, waa_cons, wg_tn, wg_tt, wg_tsub, wgs_nil, wgs_cons, gsNil_nil, wi_iv, wi_ir1, wi_ir2, wi_ien, wi_izip, wi_izl, ws_asg, ws_par, ws_ex, ws_ret, ws_retN, ws_pass, ws_brk, ws_iff, ws_forr, ws_raise, wss_nil, wss_cons, wtru_eq, wp_ok, wp_exc, wp_oth_some, wea_k, wea_g, wea_tup, wea_lst, wea_bin, wea_neg, wea_not, wea_cmp, wea_chain, wea_and, wea_or, wea_ite, wea_idx, wea_sl, wea_call, wea_prim, wea_meth, wea_isi, wea_comp, slotD_z, slotD_s, slotA_z, slotA_s, newTup0, newTup1, newTup2, newTup3, newTup4, tr_non, tr_bl, tr_int, tr_tup, len_tup, atI0, atI1, idx_tup, it_tup, un_tup, int_of, lt_int, le_int, gt_int, ge_int, cmp_eq, cmp_ne, cmp_is, cmp_isnot, eqD_int, eqD_bl, lt_tup, List.set_cons_succ, List.set_cons_zero, startD, List.map_cons, List.map_nil, List.length_cons, List.length_nil, Nat.zero_add, Nat.reduceAdd, Nat.reduceSub, Nat.sub_self, List.replicate_succ, List.replicate_zero, List.cons_append, List.nil_append, Option.map_some, Kst.d, if_true, if_false, Bool.false_eq_true, wp_add_int, wp_sub_int, isiA, calA] using fin st1 f1 s1
    | rol => cases hv.1
    | fn => cases hv.1
    | lam => cases hv.1
    | _ => simpa -implicitDefEqProofs only [isiD, wpS_sbnd, we_k, we_g, we_gf, we_v, wea_v, we_tup, we_lst, we_bin, we_neg, we_not, we_cmp, we_chain, we_and, we_or, we_ite, we_idx, we_sl, wt_no, wt_v, wt_k, wt_bin, wt_neg, wt_idx, we_callG, we_prim, we_meth, we_isi, we_comp, wea_gf, wea_lam0, wea_lam1, we_lam0, we_hcall, wa_nil, wa_cons, waa_nil, waa_cons, wg_tn, wg_tt, wg_tsub, wgs_nil, wgs_cons, gsNil_nil, wi_iv, wi_ir1, wi_ir2, wi_ien, wi_izip, wi_izl, ws_asg, ws_par, ws_ex, ws_ret, ws_retN, ws_pass, ws_brk, ws_iff, ws_forr, ws_raise, wss_nil, wss_cons, wtru_eq, wp_ok, wp_exc, wp_oth_some, wea_k, wea_g, wea_tup, wea_lst, wea_bin, wea_neg, wea_not, wea_cmp, wea_chain, wea_and, wea_or, wea_ite, wea_idx, wea_sl, wea_call, wea_prim, wea_meth, wea_isi, wea_comp, slotD_z, slotD_s, slotA_z, slotA_s, newTup0, newTup1, newTup2, newTup3, newTup4, tr_non, tr_bl, tr_int, tr_tup, len_tup, atI0, atI1, idx_tup, it_tup, un_tup, int_of, lt_int, le_int, gt_int, ge_int, cmp_eq, cmp_ne, cmp_is, cmp_isnot, eqD_int, eqD_bl, lt_tup, List.set_cons_succ, List.set_cons_zero, startD, List.map_cons, List.map_nil, List.length_cons, List.length_nil, Nat.zero_add, Nat.reduceAdd, Nat.reduceSub, Nat.sub_self, List.replicate_succ, List.replicate_zero, List.cons_append, List.nil_append, Option.map_some, Kst.d, if_true, if_false, Bool.false_eq_true, wp_add_int, wp_sub_int, isiA, calA] using fin st (Fr.refl _ _) hs
end
end K01

set_option Elab.async false
set_option linter.all false
set_option maxRecDepth 100000
/-! law k01: its closed parts. -/
namespace K01
open PF
def hdC : C → C
  | .cons a _ => a
  | c => c
def bodyC : C → C
  | .forr _ _ b => b
  | c => c
def tailC : C := dpC 1 c_law
def inC : C := bodyC (hdC c_law)
def turnC : C := bodyC (hdC (dpC 1 inC))
def callsC : C := bodyC (hdC (dpC 2 inC))
def clo2 : C := hdC (dpC 3 inC)
def call1 : C := hdC callsC
def call2 : C := hdC (dpC 1 callsC)
def lamA : Def := ⟨2, 2, .call (.gf 11) (.cons (.v 0) (.cons (.v 1) (.cons (.k .non) .nil)))⟩
theorem law_eq : c_law = .cons (.forr (.tn 1) (.ir1 (.prim .max2 (.cons (.k (.int 1)) (.cons (.prim .min2 (.cons (.prim .len (.cons (.v 0) .nil)) (.cons (.k (.int 2)) .nil))) .nil))))
    (.cons (.asg (.tn 2) (.call (.gf 12) (.cons (.v 0) (.cons (.v 1) .nil)))) (.cons (.forr (.tn 3) (.ir1 (.k (.int 2))) turnC)
      (.cons (.forr (.tn 9) (.iv (.tup (.cons (.gf 9) (.cons (.gf 10) (.cons (.lam 2 2 (.call (.gf 11) (.cons (.v 0) (.cons (.v 1) (.cons (.k .non) .nil)))) []) .nil))))) (.cons call1 (.cons call2 .nil))) (.cons clo2 .nil))))) tailC := rfl
def e9 (d : D) : Env := (List.replicate 15 none).set 9 (some (.d d))
theorem cl_a1 : isNext 15 ((den 3000 (callN prog 3000 40) call1).s (e9 (.fn 9)) []) = true := by decide +kernel
theorem cl_a2 : isNext 15 ((den 3000 (callN prog 3000 40) call1).s (e9 (.fn 10)) []) = true := by decide +kernel
theorem cl_a3 : isNext 15 ((den 3000 (callN prog 3000 40) call1).s (e9 (.lam lamA)) []) = true := by decide +kernel
theorem cl_b1 : isNext 15 ((den 3000 (callN prog 3000 40) call2).s (e9 (.fn 9)) []) = true := by decide +kernel
theorem cl_b2 : isNext 15 ((den 3000 (callN prog 3000 40) call2).s (e9 (.fn 10)) []) = true := by decide +kernel
theorem cl_b3 : isNext 15 ((den 3000 (callN prog 3000 40) call2).s (e9 (.lam lamA)) []) = true := by decide +kernel
theorem cl_c : isNext 15 ((den 3000 (callN prog 3000 40) clo2).s (List.replicate 15 none) []) = true := by decide +kernel
def blk1 : C := tkC 1 tailC
def blk2 : C := tkC 6 (dpC 1 tailC)
def nD : D := .tup [.tup [.int 0, .tup [.tup [.int 1, .tup []]]], .tup [.int 1, .tup []]]
theorem cl_1 : isNext 15 ((den 3000 (callN prog 3000 40) blk1).ss (List.replicate 15 none) []) = true := by decide +kernel
theorem cl_2 : isNext 15 ((den 3000 (callN prog 3000 40) blk2).ss (List.replicate 15 none) []) = true := by decide +kernel
theorem cl_2v : getSlot 13 ((den 3000 (callN prog 3000 40) blk2).ss (List.replicate 15 none) []) = some nD := by kernel_rfl
theorem cl_3 : isRet isT ((den 3000 (callN prog 3000 40) (dpC 9 tailC)).ss ((List.replicate 15 none).set 13 (some (.d nD))) []) = true := by decide +kernel
end K01

set_option Elab.async false
set_option linter.all false
set_option maxRecDepth 100000
set_option maxHeartbeats 1000000
/-! law k01: one turn. -/
namespace K01
open PF
theorem cons_of {α : Type} {l : List α} {n : Nat} (h : l.length = n + 1) : ∃ x r, l = x :: r ∧ r.length = n := by
  cases l with
  | nil => cases h
  | cons x r => exact ⟨x, r, rfl, by simpa using h⟩
/-- slots: the script, what draws are taken from -/
def Slots (scr : D) (y : Option A) (ρ : Env) : Prop := ∃ x1 x3 x4 x5 x6 x7 x8 x9 x10 x11 x12 x13 x14, ρ = [some (.d scr), x1, y, x3, x4, x5, x6, x7, x8, x9, x10, x11, x12, x13, x14]
theorem slots_of {scr : D} {ρ : Env} (h : ρ.length = 15) (h0 : ρ[0]? = some (some (.d scr))) : ∃ y, Slots scr y ρ := by
  obtain ⟨x0, r0, rfl, h0'⟩ := cons_of h
  clear h
  have h := h0'
  obtain ⟨x1, r1, rfl, h2⟩ := cons_of h
  obtain ⟨x2, r2, rfl, h3⟩ := cons_of h2
  obtain ⟨x3, r3, rfl, h4⟩ := cons_of h3
  obtain ⟨x4, r4, rfl, h5⟩ := cons_of h4
  obtain ⟨x5, r5, rfl, h6⟩ := cons_of h5
  obtain ⟨x6, r6, rfl, h7⟩ := cons_of h6
  obtain ⟨x7, r7, rfl, h8⟩ := cons_of h7
  obtain ⟨x8, r8, rfl, h9⟩ := cons_of h8
  obtain ⟨x9, r9, rfl, h10⟩ := cons_of h9
  obtain ⟨x10, r10, rfl, h11⟩ := cons_of h10
  obtain ⟨x11, r11, rfl, h12⟩ := cons_of h11
  obtain ⟨x12, r12, rfl, h13⟩ := cons_of h12
  obtain ⟨x13, r13, rfl, h14⟩ := cons_of h13
  obtain ⟨x14, r14, rfl, h15⟩ := cons_of h14
  cases r14 with
  | cons a r => simp at h15
  | nil =>
    cases h0
    exact ⟨x2, x1, x3, x4, x5, x6, x7, x8, x9, x10, x11, x12, x13, x14, rfl⟩
theorem Slots.len {scr : D} {y : Option A} {ρ : Env} (h : Slots scr y ρ) : ρ.length = 15 ∧ ρ[0]? = some (some (.d scr)) := by
  obtain ⟨x1, x3, x4, x5, x6, x7, x8, x9, x10, x11, x12, x13, x14, rfl⟩ := h
  exact ⟨rfl, rfl⟩
/-- the script, apart from the draws' list -/
def Scr (k : Nat) (st : Store) (d : D) (ns : List Int) : Prop := d = .rol (ns.map D.int) ∨ ∃ j, j ≠ k ∧ d = .loc j ∧ listAt st j = some (ns.map D.int)
theorem Scr.fr {k : Nat} {st st' : Store} {d : D} {ns : List Int} (h : Scr k st d ns) (f : Fr k st st') : Scr k st' d ns := h.imp id fun ⟨j, hj, e, h⟩ => ⟨j, hj, e, f.2 _ _ hj h⟩
theorem Scr.is {k : Nat} {st : Store} {d : D} {ns : List Int} (h : Scr k st d ns) : IsScr st d ns := h.imp id fun ⟨j, _, e, h⟩ => ⟨j, e, h⟩
theorem IsScr.scr {st : Store} {d : D} {ns : List Int} {o : Ob} (h : IsScr st d ns) : Scr st.length (st ++ [o]) d ns := h.imp id fun ⟨j, e, h⟩ => ⟨j, Nat.ne_of_lt (listAt_lt h), e, listAt_app h⟩
theorem dep_row (r : Rw) : dep (rowD r) ≤ 2 * dp r + 1 := by
  have := dep_rows r
  show depsW _ _ + 1 ≤ _
  omega
theorem rng_lit {st : Store} {j : Int} (h0 : 0 ≤ j) (h1 : j < 1000) : rng1 (.int j) st = .ok (.rng 0 j.toNat) st := by
  unfold rng1
  simp only
  rw [if_pos]
  simp only [rngOk, Bool.and_eq_true, decide_eq_true_eq]
  omega
def againC : C := .cons (.iff (.not (.call (.gf 16) (.cons (.call (.gf 8) (.cons (.v 4) (.cons (.v 7) .nil))) (.cons (.call (.gf 28) (.cons (.v 4) (.cons (.v 7) .nil))) .nil)))) (.cons (.ret (.k (.bl false))) .nil) .nil) (.cons (.asg (.tn 7) (.call (.gf 29) (.cons (.v 2) (.cons (.ite (.cmp .eq (.bin .mod (.v 8) (.k (.int 3))) (.k (.int 0))) (.v 5) (.v 7)) .nil)))) .nil)
theorem turn_eq : turnC = .cons (.asg (.tn 4) (.bin .add (.k (.int 2)) (.call (.gf 13) (.cons (.v 2) (.cons (.k (.int 2)) .nil))))) (.cons (.par [5, 6] (.cons (.call (.gf 22) (.cons (.v 2) (.cons (.v 4) (.cons (.k (.int 30)) .nil)))) (.cons (.call (.gf 22) (.cons (.v 2) (.cons (.v 4) (.cons (.call (.gf 14) (.cons (.v 2) (.cons (.lst (.cons (.k (.int 3)) (.cons (.k (.int 30)) (.cons (.k (.int 60)) .nil)))) .nil))) .nil)))) .nil))) (.cons (.iff (.or (.cmp .ne (.call (.gf 9) (.cons (.v 4) (.cons (.v 5) .nil))) (.call (.gf 20) (.cons (.v 5) .nil))) (.cmp .ne (.call (.gf 10) (.cons (.v 4) (.cons (.v 5) .nil))) (.call (.gf 21) (.cons (.v 5) .nil)))) (.cons (.ret (.k (.bl false))) .nil) .nil) (.cons (.iff (.or (.not (.call (.gf 16) (.cons (.call (.gf 11) (.cons (.v 4) (.cons (.v 5) (.cons (.v 6) .nil)))) (.cons (.cmp .lt (.call (.gf 25) (.cons (.v 5) .nil)) (.call (.gf 25) (.cons (.v 6) .nil))) .nil)))) (.call (.gf 11) (.cons (.v 4) (.cons (.v 5) (.cons (.v 5) .nil))))) (.cons (.ret (.k (.bl false))) .nil) .nil) (.cons (.asg (.tn 7) (.v 5)) (.cons (.forr (.tn 8) (.ir1 (.k (.int 8))) againC) .nil))))) := rfl
section
variable {W n k : Nat} {R : D → Store → Prop} {B : Env → Store → Prop} {E : Xn → Store → Prop}
theorem w_turn {scr : D} {ns : List Int} {ρ : Env} {st : Store} {N : Env → Store → Prop} (hW : 1000 < W) (hn : 70 ≤ n) (hs : Src k st) (hc : Scr k st scr ns) (hr : Slots scr (some (.d (.loc k))) ρ)
    (h : ∀ ρ' st', Slots scr (some (.d (.loc k))) ρ' → Src k st' → Scr k st' scr ns → N ρ' st') : wss W (callN prog W n) turnC ρ st N R B E := by
  obtain ⟨x1, x3, x4, x5, x6, x7, x8, x9, x10, x11, x12, x13, x14, rfl⟩ := hr
  obtain ⟨n, rfl⟩ : ∃ m, n = m + 1 := ⟨n - 1, by omega⟩
  rw [turn_eq]
  simp -implicitDefEqProofs only [wpS_sbnd, we_k, we_g, we_gf, we_v, wea_v, we_tup, we_lst, we_bin, we_neg, we_not, we_cmp, we_chain, we_and, we_or, we_ite, we_idx, we_sl, wt_no, wt_v, wt_k, wt_bin, wt_neg, wt_idx, we_callG, we_prim, we_meth, we_isi, we_comp, wea_gf, wea_lam0, wea_lam1, we_lam0, we_hcall, wa_nil, wa_cons, waa_nil, waa_cons, wg_tn, wg_tt, wg_tsub, wgs_nil, wgs_cons, gsNil_nil, wi_iv, wi_ir1, wi_ir2, wi_ien, wi_izip, wi_izl, ws_asg, ws_par, ws_ex, ws_ret, ws_retN, ws_pass, ws_brk, ws_iff, ws_forr, ws_raise, wss_nil, wss_cons, wtru_eq, wp_ok, wp_exc, wp_oth_some, wea_k, wea_g, wea_tup, wea_lst, wea_bin, wea_neg, wea_not, wea_cmp, wea_chain, wea_and, wea_or, wea_ite, wea_idx, wea_sl, wea_call, wea_prim, wea_meth, wea_isi, wea_comp, slotD_z, slotD_s, slotA_z, slotA_s, newTup0, newTup1, newTup2, newTup3, newTup4, tr_non, tr_bl, tr_int, tr_tup, len_tup, atI0, atI1, idx_tup, it_tup, un_tup, int_of, lt_int, le_int, gt_int, ge_int, cmp_eq, cmp_ne, cmp_is, cmp_isnot, eqD_int, eqD_bl, lt_tup, List.set_cons_succ, List.set_cons_zero, startD, List.map_cons, List.map_nil, List.length_cons, List.length_nil, Nat.zero_add, Nat.reduceAdd, Nat.reduceSub, Nat.sub_self, List.replicate_succ, List.replicate_zero, List.cons_append, List.nil_append, Option.map_some, Kst.d, if_true, if_false, Bool.false_eq_true, wp_add_int, wp_sub_int, isiA, calA]
  refine w_draw hs (by decide) (by decide) fun j st1 j0 j1 f1 s1 => ?_
  try simp -implicitDefEqProofs only [wpS_sbnd, we_k, we_g, we_gf, we_v, wea_v, we_tup, we_lst, we_bin, we_neg, we_not, we_cmp, we_chain, we_and, we_or, we_ite, we_idx, we_sl, wt_no, wt_v, wt_k, wt_bin, wt_neg, wt_idx, we_callG, we_prim, we_meth, we_isi, we_comp, wea_gf, wea_lam0, wea_lam1, we_lam0, we_hcall, wa_nil, wa_cons, waa_nil, waa_cons, wg_tn, wg_tt, wg_tsub, wgs_nil, wgs_cons, gsNil_nil, wi_iv, wi_ir1, wi_ir2, wi_ien, wi_izip, wi_izl, ws_asg, ws_par, ws_ex, ws_ret, ws_retN, ws_pass, ws_brk, ws_iff, ws_forr, ws_raise, wss_nil, wss_cons, wtru_eq, wp_ok, wp_exc, wp_oth_some, wea_k, wea_g, wea_tup, wea_lst, wea_bin, wea_neg, wea_not, wea_cmp, wea_chain, wea_and, wea_or, wea_ite, wea_idx, wea_sl, wea_call, wea_prim, wea_meth, wea_isi, wea_comp, slotD_z, slotD_s, slotA_z, slotA_s, newTup0, newTup1, newTup2, newTup3, newTup4, tr_non, tr_bl, tr_int, tr_tup, len_tup, atI0, atI1, idx_tup, it_tup, un_tup, int_of, lt_int, le_int, gt_int, ge_int, cmp_eq, cmp_ne, cmp_is, cmp_isnot, eqD_int, eqD_bl, lt_tup, List.set_cons_succ, List.set_cons_zero, startD, List.map_cons, List.map_nil, List.length_cons, List.length_nil, Nat.zero_add, Nat.reduceAdd, Nat.reduceSub, Nat.sub_self, List.replicate_succ, List.replicate_zero, List.cons_append, List.nil_append, Option.map_some, Kst.d, if_true, if_false, Bool.false_eq_true, wp_add_int, wp_sub_int, isiA, calA]
  have hst : whole (.int (2 + j)) 2 3 = true := by
    simp only [whole, Bool.and_eq_true, decide_eq_true_eq]
    omega
  refine w_nesting hW (by omega) (by omega) s1 (by decide) (by decide) (by omega) fun r1 st2 a1 a2 a3 f2 s2 => ?_
  try simp -implicitDefEqProofs only [wpS_sbnd, we_k, we_g, we_gf, we_v, wea_v, we_tup, we_lst, we_bin, we_neg, we_not, we_cmp, we_chain, we_and, we_or, we_ite, we_idx, we_sl, wt_no, wt_v, wt_k, wt_bin, wt_neg, wt_idx, we_callG, we_prim, we_meth, we_isi, we_comp, wea_gf, wea_lam0, wea_lam1, we_lam0, we_hcall, wa_nil, wa_cons, waa_nil, waa_cons, wg_tn, wg_tt, wg_tsub, wgs_nil, wgs_cons, gsNil_nil, wi_iv, wi_ir1, wi_ir2, wi_ien, wi_izip, wi_izl, ws_asg, ws_par, ws_ex, ws_ret, ws_retN, ws_pass, ws_brk, ws_iff, ws_forr, ws_raise, wss_nil, wss_cons, wtru_eq, wp_ok, wp_exc, wp_oth_some, wea_k, wea_g, wea_tup, wea_lst, wea_bin, wea_neg, wea_not, wea_cmp, wea_chain, wea_and, wea_or, wea_ite, wea_idx, wea_sl, wea_call, wea_prim, wea_meth, wea_isi, wea_comp, slotD_z, slotD_s, slotA_z, slotA_s, newTup0, newTup1, newTup2, newTup3, newTup4, tr_non, tr_bl, tr_int, tr_tup, len_tup, atI0, atI1, idx_tup, it_tup, un_tup, int_of, lt_int, le_int, gt_int, ge_int, cmp_eq, cmp_ne, cmp_is, cmp_isnot, eqD_int, eqD_bl, lt_tup, List.set_cons_succ, List.set_cons_zero, startD, List.map_cons, List.map_nil, List.length_cons, List.length_nil, Nat.zero_add, Nat.reduceAdd, Nat.reduceSub, Nat.sub_self, List.replicate_succ, List.replicate_zero, List.cons_append, List.nil_append, Option.map_some, Kst.d, if_true, if_false, Bool.false_eq_true, wp_add_int, wp_sub_int, isiA, calA]
  have hk := src_lt s2
  refine wp_newList (lim_le (by show 3 ≤ 100000; decide)) ?_
  have x2 := Ex.app st2 [Ob.lst [D.int 3, D.int 30, D.int 60]]
  refine w_choice (by omega) (s2.ex x2) (listAt_new _ _) (by omega) (by simp) (by simp) fun m st3 hm f3 s3 => ?_
  try simp -implicitDefEqProofs only [wpS_sbnd, we_k, we_g, we_gf, we_v, wea_v, we_tup, we_lst, we_bin, we_neg, we_not, we_cmp, we_chain, we_and, we_or, we_ite, we_idx, we_sl, wt_no, wt_v, wt_k, wt_bin, wt_neg, wt_idx, we_callG, we_prim, we_meth, we_isi, we_comp, wea_gf, wea_lam0, wea_lam1, we_lam0, we_hcall, wa_nil, wa_cons, waa_nil, waa_cons, wg_tn, wg_tt, wg_tsub, wgs_nil, wgs_cons, gsNil_nil, wi_iv, wi_ir1, wi_ir2, wi_ien, wi_izip, wi_izl, ws_asg, ws_par, ws_ex, ws_ret, ws_retN, ws_pass, ws_brk, ws_iff, ws_forr, ws_raise, wss_nil, wss_cons, wtru_eq, wp_ok, wp_exc, wp_oth_some, wea_k, wea_g, wea_tup, wea_lst, wea_bin, wea_neg, wea_not, wea_cmp, wea_chain, wea_and, wea_or, wea_ite, wea_idx, wea_sl, wea_call, wea_prim, wea_meth, wea_isi, wea_comp, slotD_z, slotD_s, slotA_z, slotA_s, newTup0, newTup1, newTup2, newTup3, newTup4, tr_non, tr_bl, tr_int, tr_tup, len_tup, atI0, atI1, idx_tup, it_tup, un_tup, int_of, lt_int, le_int, gt_int, ge_int, cmp_eq, cmp_ne, cmp_is, cmp_isnot, eqD_int, eqD_bl, lt_tup, List.set_cons_succ, List.set_cons_zero, startD, List.map_cons, List.map_nil, List.length_cons, List.length_nil, Nat.zero_add, Nat.reduceAdd, Nat.reduceSub, Nat.sub_self, List.replicate_succ, List.replicate_zero, List.cons_append, List.nil_append, Option.map_some, Kst.d, if_true, if_false, Bool.false_eq_true, wp_add_int, wp_sub_int, isiA, calA]
  have hm : ∃ i : Int, m = .int i ∧ 0 ≤ i ∧ i ≤ 60 := by
    simp only [List.mem_cons, List.not_mem_nil, or_false] at hm
    rcases hm with e | e | e <;> exact ⟨_, e, by decide, by decide⟩
  obtain ⟨i, rfl, i0, i1⟩ := hm
  refine w_nesting hW (by omega) (by omega) s3 i0 i1 (by omega) fun r2 st4 b1 b2 b3 f4 s4 => ?_
  simp -implicitDefEqProofs only [parS, wpS_sbnd, we_k, we_g, we_gf, we_v, wea_v, we_tup, we_lst, we_bin, we_neg, we_not, we_cmp, we_chain, we_and, we_or, we_ite, we_idx, we_sl, wt_no, wt_v, wt_k, wt_bin, wt_neg, wt_idx, we_callG, we_prim, we_meth, we_isi, we_comp, wea_gf, wea_lam0, wea_lam1, we_lam0, we_hcall, wa_nil, wa_cons, waa_nil, waa_cons, wg_tn, wg_tt, wg_tsub, wgs_nil, wgs_cons, gsNil_nil, wi_iv, wi_ir1, wi_ir2, wi_ien, wi_izip, wi_izl, ws_asg, ws_par, ws_ex, ws_ret, ws_retN, ws_pass, ws_brk, ws_iff, ws_forr, ws_raise, wss_nil, wss_cons, wtru_eq, wp_ok, wp_exc, wp_oth_some, wea_k, wea_g, wea_tup, wea_lst, wea_bin, wea_neg, wea_not, wea_cmp, wea_chain, wea_and, wea_or, wea_ite, wea_idx, wea_sl, wea_call, wea_prim, wea_meth, wea_isi, wea_comp, slotD_z, slotD_s, slotA_z, slotA_s, newTup0, newTup1, newTup2, newTup3, newTup4, tr_non, tr_bl, tr_int, tr_tup, len_tup, atI0, atI1, idx_tup, it_tup, un_tup, int_of, lt_int, le_int, gt_int, ge_int, cmp_eq, cmp_ne, cmp_is, cmp_isnot, eqD_int, eqD_bl, lt_tup, List.set_cons_succ, List.set_cons_zero, startD, List.map_cons, List.map_nil, List.length_cons, List.length_nil, Nat.zero_add, Nat.reduceAdd, Nat.reduceSub, Nat.sub_self, List.replicate_succ, List.replicate_zero, List.cons_append, List.nil_append, Option.map_some, Kst.d, if_true, if_false, Bool.false_eq_true, wp_add_int, wp_sub_int, isiA, calA]
  have f : Fr k st st4 := (((f1.trans f2).trans (x2.fr k)).trans f3).trans f4
  have hc4 := hc.fr f
  have n1 : Nst (2 + j) r1 := ⟨by omega, by omega, a3⟩
  have n2 : Nst (2 + j) r2 := ⟨by omega, by omega, b3⟩
  refine w_boxes hW (by omega) hst n1 fun st5 e5 => ?_
  try simp -implicitDefEqProofs only [wpS_sbnd, we_k, we_g, we_gf, we_v, wea_v, we_tup, we_lst, we_bin, we_neg, we_not, we_cmp, we_chain, we_and, we_or, we_ite, we_idx, we_sl, wt_no, wt_v, wt_k, wt_bin, wt_neg, wt_idx, we_callG, we_prim, we_meth, we_isi, we_comp, wea_gf, wea_lam0, wea_lam1, we_lam0, we_hcall, wa_nil, wa_cons, waa_nil, waa_cons, wg_tn, wg_tt, wg_tsub, wgs_nil, wgs_cons, gsNil_nil, wi_iv, wi_ir1, wi_ir2, wi_ien, wi_izip, wi_izl, ws_asg, ws_par, ws_ex, ws_ret, ws_retN, ws_pass, ws_brk, ws_iff, ws_forr, ws_raise, wss_nil, wss_cons, wtru_eq, wp_ok, wp_exc, wp_oth_some, wea_k, wea_g, wea_tup, wea_lst, wea_bin, wea_neg, wea_not, wea_cmp, wea_chain, wea_and, wea_or, wea_ite, wea_idx, wea_sl, wea_call, wea_prim, wea_meth, wea_isi, wea_comp, slotD_z, slotD_s, slotA_z, slotA_s, newTup0, newTup1, newTup2, newTup3, newTup4, tr_non, tr_bl, tr_int, tr_tup, len_tup, atI0, atI1, idx_tup, it_tup, un_tup, int_of, lt_int, le_int, gt_int, ge_int, cmp_eq, cmp_ne, cmp_is, cmp_isnot, eqD_int, eqD_bl, lt_tup, List.set_cons_succ, List.set_cons_zero, startD, List.map_cons, List.map_nil, List.length_cons, List.length_nil, Nat.zero_add, Nat.reduceAdd, Nat.reduceSub, Nat.sub_self, List.replicate_succ, List.replicate_zero, List.cons_append, List.nil_append, Option.map_some, Kst.d, if_true, if_false, Bool.false_eq_true, wp_add_int, wp_sub_int, isiA, calA]
  refine w_law_size hW 12 _ r1 st5 _ _ n1.d (by have := n1.s; omega) (by omega) ?_
  simp -implicitDefEqProofs only [wpS_sbnd, we_k, we_g, we_gf, we_v, wea_v, we_tup, we_lst, we_bin, we_neg, we_not, we_cmp, we_chain, we_and, we_or, we_ite, we_idx, we_sl, wt_no, wt_v, wt_k, wt_bin, wt_neg, wt_idx, we_callG, we_prim, we_meth, we_isi, we_comp, wea_gf, wea_lam0, wea_lam1, we_lam0, we_hcall, wa_nil, wa_cons, waa_nil, waa_cons, wg_tn, wg_tt, wg_tsub, wgs_nil, wgs_cons, gsNil_nil, wi_iv, wi_ir1, wi_ir2, wi_ien, wi_izip, wi_izl, ws_asg, ws_par, ws_ex, ws_ret, ws_retN, ws_pass, ws_brk, ws_iff, ws_forr, ws_raise, wss_nil, wss_cons, wtru_eq, wp_ok, wp_exc, wp_oth_some, wea_k, wea_g, wea_tup, wea_lst, wea_bin, wea_neg, wea_not, wea_cmp, wea_chain, wea_and, wea_or, wea_ite, wea_idx, wea_sl, wea_call, wea_prim, wea_meth, wea_isi, wea_comp, slotD_z, slotD_s, slotA_z, slotA_s, newTup0, newTup1, newTup2, newTup3, newTup4, tr_non, tr_bl, tr_int, tr_tup, len_tup, atI0, atI1, idx_tup, it_tup, un_tup, int_of, lt_int, le_int, gt_int, ge_int, cmp_eq, cmp_ne, cmp_is, cmp_isnot, eqD_int, eqD_bl, lt_tup, List.set_cons_succ, List.set_cons_zero, startD, List.map_cons, List.map_nil, List.length_cons, List.length_nil, Nat.zero_add, Nat.reduceAdd, Nat.reduceSub, Nat.sub_self, List.replicate_succ, List.replicate_zero, List.cons_append, List.nil_append, Option.map_some, Kst.d, if_true, if_false, Bool.false_eq_true, wp_add_int, wp_sub_int, isiA, calA, beq_self_eq_true, Bool.not_true]
  refine w_depth hW (by omega) hst n1 fun st6 e6 => ?_
  try simp -implicitDefEqProofs only [wpS_sbnd, we_k, we_g, we_gf, we_v, wea_v, we_tup, we_lst, we_bin, we_neg, we_not, we_cmp, we_chain, we_and, we_or, we_ite, we_idx, we_sl, wt_no, wt_v, wt_k, wt_bin, wt_neg, wt_idx, we_callG, we_prim, we_meth, we_isi, we_comp, wea_gf, wea_lam0, wea_lam1, we_lam0, we_hcall, wa_nil, wa_cons, waa_nil, waa_cons, wg_tn, wg_tt, wg_tsub, wgs_nil, wgs_cons, gsNil_nil, wi_iv, wi_ir1, wi_ir2, wi_ien, wi_izip, wi_izl, ws_asg, ws_par, ws_ex, ws_ret, ws_retN, ws_pass, ws_brk, ws_iff, ws_forr, ws_raise, wss_nil, wss_cons, wtru_eq, wp_ok, wp_exc, wp_oth_some, wea_k, wea_g, wea_tup, wea_lst, wea_bin, wea_neg, wea_not, wea_cmp, wea_chain, wea_and, wea_or, wea_ite, wea_idx, wea_sl, wea_call, wea_prim, wea_meth, wea_isi, wea_comp, slotD_z, slotD_s, slotA_z, slotA_s, newTup0, newTup1, newTup2, newTup3, newTup4, tr_non, tr_bl, tr_int, tr_tup, len_tup, atI0, atI1, idx_tup, it_tup, un_tup, int_of, lt_int, le_int, gt_int, ge_int, cmp_eq, cmp_ne, cmp_is, cmp_isnot, eqD_int, eqD_bl, lt_tup, List.set_cons_succ, List.set_cons_zero, startD, List.map_cons, List.map_nil, List.length_cons, List.length_nil, Nat.zero_add, Nat.reduceAdd, Nat.reduceSub, Nat.sub_self, List.replicate_succ, List.replicate_zero, List.cons_append, List.nil_append, Option.map_some, Kst.d, if_true, if_false, Bool.false_eq_true, wp_add_int, wp_sub_int, isiA, calA]
  refine w_law_deep hW 12 _ r1 st6 _ _ n1.d (by have := n1.s; omega) (by omega) fun st7 e7 => ?_
  simp -implicitDefEqProofs only [wpS_sbnd, we_k, we_g, we_gf, we_v, wea_v, we_tup, we_lst, we_bin, we_neg, we_not, we_cmp, we_chain, we_and, we_or, we_ite, we_idx, we_sl, wt_no, wt_v, wt_k, wt_bin, wt_neg, wt_idx, we_callG, we_prim, we_meth, we_isi, we_comp, wea_gf, wea_lam0, wea_lam1, we_lam0, we_hcall, wa_nil, wa_cons, waa_nil, waa_cons, wg_tn, wg_tt, wg_tsub, wgs_nil, wgs_cons, gsNil_nil, wi_iv, wi_ir1, wi_ir2, wi_ien, wi_izip, wi_izl, ws_asg, ws_par, ws_ex, ws_ret, ws_retN, ws_pass, ws_brk, ws_iff, ws_forr, ws_raise, wss_nil, wss_cons, wtru_eq, wp_ok, wp_exc, wp_oth_some, wea_k, wea_g, wea_tup, wea_lst, wea_bin, wea_neg, wea_not, wea_cmp, wea_chain, wea_and, wea_or, wea_ite, wea_idx, wea_sl, wea_call, wea_prim, wea_meth, wea_isi, wea_comp, slotD_z, slotD_s, slotA_z, slotA_s, newTup0, newTup1, newTup2, newTup3, newTup4, tr_non, tr_bl, tr_int, tr_tup, len_tup, atI0, atI1, idx_tup, it_tup, un_tup, int_of, lt_int, le_int, gt_int, ge_int, cmp_eq, cmp_ne, cmp_is, cmp_isnot, eqD_int, eqD_bl, lt_tup, List.set_cons_succ, List.set_cons_zero, startD, List.map_cons, List.map_nil, List.length_cons, List.length_nil, Nat.zero_add, Nat.reduceAdd, Nat.reduceSub, Nat.sub_self, List.replicate_succ, List.replicate_zero, List.cons_append, List.nil_append, Option.map_some, Kst.d, if_true, if_false, Bool.false_eq_true, wp_add_int, wp_sub_int, isiA, calA, beq_self_eq_true, Bool.not_true]
  refine w_ahead hW (by omega) hst n1 n2 fun st8 e8 => ?_
  try simp -implicitDefEqProofs only [wpS_sbnd, we_k, we_g, we_gf, we_v, wea_v, we_tup, we_lst, we_bin, we_neg, we_not, we_cmp, we_chain, we_and, we_or, we_ite, we_idx, we_sl, wt_no, wt_v, wt_k, wt_bin, wt_neg, wt_idx, we_callG, we_prim, we_meth, we_isi, we_comp, wea_gf, wea_lam0, wea_lam1, we_lam0, we_hcall, wa_nil, wa_cons, waa_nil, waa_cons, wg_tn, wg_tt, wg_tsub, wgs_nil, wgs_cons, gsNil_nil, wi_iv, wi_ir1, wi_ir2, wi_ien, wi_izip, wi_izl, ws_asg, ws_par, ws_ex, ws_ret, ws_retN, ws_pass, ws_brk, ws_iff, ws_forr, ws_raise, wss_nil, wss_cons, wtru_eq, wp_ok, wp_exc, wp_oth_some, wea_k, wea_g, wea_tup, wea_lst, wea_bin, wea_neg, wea_not, wea_cmp, wea_chain, wea_and, wea_or, wea_ite, wea_idx, wea_sl, wea_call, wea_prim, wea_meth, wea_isi, wea_comp, slotD_z, slotD_s, slotA_z, slotA_s, newTup0, newTup1, newTup2, newTup3, newTup4, tr_non, tr_bl, tr_int, tr_tup, len_tup, atI0, atI1, idx_tup, it_tup, un_tup, int_of, lt_int, le_int, gt_int, ge_int, cmp_eq, cmp_ne, cmp_is, cmp_isnot, eqD_int, eqD_bl, lt_tup, List.set_cons_succ, List.set_cons_zero, startD, List.map_cons, List.map_nil, List.length_cons, List.length_nil, Nat.zero_add, Nat.reduceAdd, Nat.reduceSub, Nat.sub_self, List.replicate_succ, List.replicate_zero, List.cons_append, List.nil_append, Option.map_some, Kst.d, if_true, if_false, Bool.false_eq_true, wp_add_int, wp_sub_int, isiA, calA]
  refine w_law_key hW n1.s n1.d (by omega) ?_
  try simp -implicitDefEqProofs only [wpS_sbnd, we_k, we_g, we_gf, we_v, wea_v, we_tup, we_lst, we_bin, we_neg, we_not, we_cmp, we_chain, we_and, we_or, we_ite, we_idx, we_sl, wt_no, wt_v, wt_k, wt_bin, wt_neg, wt_idx, we_callG, we_prim, we_meth, we_isi, we_comp, wea_gf, wea_lam0, wea_lam1, we_lam0, we_hcall, wa_nil, wa_cons, waa_nil, waa_cons, wg_tn, wg_tt, wg_tsub, wgs_nil, wgs_cons, gsNil_nil, wi_iv, wi_ir1, wi_ir2, wi_ien, wi_izip, wi_izl, ws_asg, ws_par, ws_ex, ws_ret, ws_retN, ws_pass, ws_brk, ws_iff, ws_forr, ws_raise, wss_nil, wss_cons, wtru_eq, wp_ok, wp_exc, wp_oth_some, wea_k, wea_g, wea_tup, wea_lst, wea_bin, wea_neg, wea_not, wea_cmp, wea_chain, wea_and, wea_or, wea_ite, wea_idx, wea_sl, wea_call, wea_prim, wea_meth, wea_isi, wea_comp, slotD_z, slotD_s, slotA_z, slotA_s, newTup0, newTup1, newTup2, newTup3, newTup4, tr_non, tr_bl, tr_int, tr_tup, len_tup, atI0, atI1, idx_tup, it_tup, un_tup, int_of, lt_int, le_int, gt_int, ge_int, cmp_eq, cmp_ne, cmp_is, cmp_isnot, eqD_int, eqD_bl, lt_tup, List.set_cons_succ, List.set_cons_zero, startD, List.map_cons, List.map_nil, List.length_cons, List.length_nil, Nat.zero_add, Nat.reduceAdd, Nat.reduceSub, Nat.sub_self, List.replicate_succ, List.replicate_zero, List.cons_append, List.nil_append, Option.map_some, Kst.d, if_true, if_false, Bool.false_eq_true, wp_add_int, wp_sub_int, isiA, calA]
  refine w_law_key hW n2.s n2.d (by omega) ?_
  have ek : cmpD st8 .lt (keyD r1) (keyD r2) = some (ltW (keyD r1) (keyD r2)) := lt_keys (by have := n1.d; omega)
  simp -implicitDefEqProofs only [ek, wpS_sbnd, we_k, we_g, we_gf, we_v, wea_v, we_tup, we_lst, we_bin, we_neg, we_not, we_cmp, we_chain, we_and, we_or, we_ite, we_idx, we_sl, wt_no, wt_v, wt_k, wt_bin, wt_neg, wt_idx, we_callG, we_prim, we_meth, we_isi, we_comp, wea_gf, wea_lam0, wea_lam1, we_lam0, we_hcall, wa_nil, wa_cons, waa_nil, waa_cons, wg_tn, wg_tt, wg_tsub, wgs_nil, wgs_cons, gsNil_nil, wi_iv, wi_ir1, wi_ir2, wi_ien, wi_izip, wi_izl, ws_asg, ws_par, ws_ex, ws_ret, ws_retN, ws_pass, ws_brk, ws_iff, ws_forr, ws_raise, wss_nil, wss_cons, wtru_eq, wp_ok, wp_exc, wp_oth_some, wea_k, wea_g, wea_tup, wea_lst, wea_bin, wea_neg, wea_not, wea_cmp, wea_chain, wea_and, wea_or, wea_ite, wea_idx, wea_sl, wea_call, wea_prim, wea_meth, wea_isi, wea_comp, slotD_z, slotD_s, slotA_z, slotA_s, newTup0, newTup1, newTup2, newTup3, newTup4, tr_non, tr_bl, tr_int, tr_tup, len_tup, atI0, atI1, idx_tup, it_tup, un_tup, int_of, lt_int, le_int, gt_int, ge_int, cmp_eq, cmp_ne, cmp_is, cmp_isnot, eqD_int, eqD_bl, lt_tup, List.set_cons_succ, List.set_cons_zero, startD, List.map_cons, List.map_nil, List.length_cons, List.length_nil, Nat.zero_add, Nat.reduceAdd, Nat.reduceSub, Nat.sub_self, List.replicate_succ, List.replicate_zero, List.cons_append, List.nil_append, Option.map_some, Kst.d, if_true, if_false, Bool.false_eq_true, wp_add_int, wp_sub_int, isiA, calA]
  refine w_truly ?_
  simp -implicitDefEqProofs only [wpS_sbnd, we_k, we_g, we_gf, we_v, wea_v, we_tup, we_lst, we_bin, we_neg, we_not, we_cmp, we_chain, we_and, we_or, we_ite, we_idx, we_sl, wt_no, wt_v, wt_k, wt_bin, wt_neg, wt_idx, we_callG, we_prim, we_meth, we_isi, we_comp, wea_gf, wea_lam0, wea_lam1, we_lam0, we_hcall, wa_nil, wa_cons, waa_nil, waa_cons, wg_tn, wg_tt, wg_tsub, wgs_nil, wgs_cons, gsNil_nil, wi_iv, wi_ir1, wi_ir2, wi_ien, wi_izip, wi_izl, ws_asg, ws_par, ws_ex, ws_ret, ws_retN, ws_pass, ws_brk, ws_iff, ws_forr, ws_raise, wss_nil, wss_cons, wtru_eq, wp_ok, wp_exc, wp_oth_some, wea_k, wea_g, wea_tup, wea_lst, wea_bin, wea_neg, wea_not, wea_cmp, wea_chain, wea_and, wea_or, wea_ite, wea_idx, wea_sl, wea_call, wea_prim, wea_meth, wea_isi, wea_comp, slotD_z, slotD_s, slotA_z, slotA_s, newTup0, newTup1, newTup2, newTup3, newTup4, tr_non, tr_bl, tr_int, tr_tup, len_tup, atI0, atI1, idx_tup, it_tup, un_tup, int_of, lt_int, le_int, gt_int, ge_int, cmp_eq, cmp_ne, cmp_is, cmp_isnot, eqD_int, eqD_bl, lt_tup, List.set_cons_succ, List.set_cons_zero, startD, List.map_cons, List.map_nil, List.length_cons, List.length_nil, Nat.zero_add, Nat.reduceAdd, Nat.reduceSub, Nat.sub_self, List.replicate_succ, List.replicate_zero, List.cons_append, List.nil_append, Option.map_some, Kst.d, if_true, if_false, Bool.false_eq_true, wp_add_int, wp_sub_int, isiA, calA, beq_self_eq_true, Bool.not_true]
  refine w_ahead hW (by omega) hst n1 n1 fun st9 e9 => ?_
  simp -implicitDefEqProofs only [wpS_sbnd, we_k, we_g, we_gf, we_v, wea_v, we_tup, we_lst, we_bin, we_neg, we_not, we_cmp, we_chain, we_and, we_or, we_ite, we_idx, we_sl, wt_no, wt_v, wt_k, wt_bin, wt_neg, wt_idx, we_callG, we_prim, we_meth, we_isi, we_comp, wea_gf, wea_lam0, wea_lam1, we_lam0, we_hcall, wa_nil, wa_cons, waa_nil, waa_cons, wg_tn, wg_tt, wg_tsub, wgs_nil, wgs_cons, gsNil_nil, wi_iv, wi_ir1, wi_ir2, wi_ien, wi_izip, wi_izl, ws_asg, ws_par, ws_ex, ws_ret, ws_retN, ws_pass, ws_brk, ws_iff, ws_forr, ws_raise, wss_nil, wss_cons, wtru_eq, wp_ok, wp_exc, wp_oth_some, wea_k, wea_g, wea_tup, wea_lst, wea_bin, wea_neg, wea_not, wea_cmp, wea_chain, wea_and, wea_or, wea_ite, wea_idx, wea_sl, wea_call, wea_prim, wea_meth, wea_isi, wea_comp, slotD_z, slotD_s, slotA_z, slotA_s, newTup0, newTup1, newTup2, newTup3, newTup4, tr_non, tr_bl, tr_int, tr_tup, len_tup, atI0, atI1, idx_tup, it_tup, un_tup, int_of, lt_int, le_int, gt_int, ge_int, cmp_eq, cmp_ne, cmp_is, cmp_isnot, eqD_int, eqD_bl, lt_tup, List.set_cons_succ, List.set_cons_zero, startD, List.map_cons, List.map_nil, List.length_cons, List.length_nil, Nat.zero_add, Nat.reduceAdd, Nat.reduceSub, Nat.sub_self, List.replicate_succ, List.replicate_zero, List.cons_append, List.nil_append, Option.map_some, Kst.d, if_true, if_false, Bool.false_eq_true, wp_add_int, wp_sub_int, isiA, calA, lt_self]
  rw [rng_lit (by decide) (by decide)]
  simp -implicitDefEqProofs only [wpS_sbnd, we_k, we_g, we_gf, we_v, wea_v, we_tup, we_lst, we_bin, we_neg, we_not, we_cmp, we_chain, we_and, we_or, we_ite, we_idx, we_sl, wt_no, wt_v, wt_k, wt_bin, wt_neg, wt_idx, we_callG, we_prim, we_meth, we_isi, we_comp, wea_gf, wea_lam0, wea_lam1, we_lam0, we_hcall, wa_nil, wa_cons, waa_nil, waa_cons, wg_tn, wg_tt, wg_tsub, wgs_nil, wgs_cons, gsNil_nil, wi_iv, wi_ir1, wi_ir2, wi_ien, wi_izip, wi_izl, ws_asg, ws_par, ws_ex, ws_ret, ws_retN, ws_pass, ws_brk, ws_iff, ws_forr, ws_raise, wss_nil, wss_cons, wtru_eq, wp_ok, wp_exc, wp_oth_some, wea_k, wea_g, wea_tup, wea_lst, wea_bin, wea_neg, wea_not, wea_cmp, wea_chain, wea_and, wea_or, wea_ite, wea_idx, wea_sl, wea_call, wea_prim, wea_meth, wea_isi, wea_comp, slotD_z, slotD_s, slotA_z, slotA_s, newTup0, newTup1, newTup2, newTup3, newTup4, tr_non, tr_bl, tr_int, tr_tup, len_tup, atI0, atI1, idx_tup, it_tup, un_tup, int_of, lt_int, le_int, gt_int, ge_int, cmp_eq, cmp_ne, cmp_is, cmp_isnot, eqD_int, eqD_bl, lt_tup, List.set_cons_succ, List.set_cons_zero, startD, List.map_cons, List.map_nil, List.length_cons, List.length_nil, Nat.zero_add, Nat.reduceAdd, Nat.reduceSub, Nat.sub_self, List.replicate_succ, List.replicate_zero, List.cons_append, List.nil_append, Option.map_some, Kst.d, if_true, if_false, Bool.false_eq_true, wp_add_int, wp_sub_int, isiA, calA]
  have f9 : Fr k st4 st9 := ((((e5.trans e6).trans e7).trans e8).trans e9).fr k
  have s9 : Src k st9 := s4.ex ((((e5.trans e6).trans e7).trans e8).trans e9)
  refine loop_rng (J := fun i ρ st' => i ≤ 8 ∧ Src k st' ∧ Fr k st9 st' ∧ ∃ v y3 y8, ρ = [some (.d scr), x1, some (.d (.loc k)), y3, some (.d (.int (2 + j))), some (.d (rowD r1)), some (.d (rowD r2)), some (.d v), y8, x9, x10, x11, x12, x13, x14] ∧ Val k (60 + i) st' v ∧ dep v ≤ 25 + 4 * i) (fun i ρ st' hi ⟨g0, g1, g2, v, y3, y8, g3, g4, g5⟩ => ?_) (fun ρ st' ⟨g0, g1, g2, v, y3, y8, g3, g4, g5⟩ => ?_) W 0 _ _ (Nat.zero_le _) (by omega)
    ⟨by omega, s9, Fr.refl _ _, rowD r1, _, _, rfl, val_row n1.s (by omega), by have := dep_row r1; have := n1.d; omega⟩
  · subst g3
    simp -implicitDefEqProofs only [againC, wpS_sbnd, we_k, we_g, we_gf, we_v, wea_v, we_tup, we_lst, we_bin, we_neg, we_not, we_cmp, we_chain, we_and, we_or, we_ite, we_idx, we_sl, wt_no, wt_v, wt_k, wt_bin, wt_neg, wt_idx, we_callG, we_prim, we_meth, we_isi, we_comp, wea_gf, wea_lam0, wea_lam1, we_lam0, we_hcall, wa_nil, wa_cons, waa_nil, waa_cons, wg_tn, wg_tt, wg_tsub, wgs_nil, wgs_cons, gsNil_nil, wi_iv, wi_ir1, wi_ir2, wi_ien, wi_izip, wi_izl, ws_asg, ws_par, ws_ex, ws_ret, ws_retN, ws_pass, ws_brk, ws_iff, ws_forr, ws_raise, wss_nil, wss_cons, wtru_eq, wp_ok, wp_exc, wp_oth_some, wea_k, wea_g, wea_tup, wea_lst, wea_bin, wea_neg, wea_not, wea_cmp, wea_chain, wea_and, wea_or, wea_ite, wea_idx, wea_sl, wea_call, wea_prim, wea_meth, wea_isi, wea_comp, slotD_z, slotD_s, slotA_z, slotA_s, newTup0, newTup1, newTup2, newTup3, newTup4, tr_non, tr_bl, tr_int, tr_tup, len_tup, atI0, atI1, idx_tup, it_tup, un_tup, int_of, lt_int, le_int, gt_int, ge_int, cmp_eq, cmp_ne, cmp_is, cmp_isnot, eqD_int, eqD_bl, lt_tup, List.set_cons_succ, List.set_cons_zero, startD, List.map_cons, List.map_nil, List.length_cons, List.length_nil, Nat.zero_add, Nat.reduceAdd, Nat.reduceSub, Nat.sub_self, List.replicate_succ, List.replicate_zero, List.cons_append, List.nil_append, Option.map_some, Kst.d, if_true, if_false, Bool.false_eq_true, wp_add_int, wp_sub_int, isiA, calA]
    refine w_is_nesting (m := 60 + i) (by omega) (by omega) hst g4 ?_
    try simp -implicitDefEqProofs only [wpS_sbnd, we_k, we_g, we_gf, we_v, wea_v, we_tup, we_lst, we_bin, we_neg, we_not, we_cmp, we_chain, we_and, we_or, we_ite, we_idx, we_sl, wt_no, wt_v, wt_k, wt_bin, wt_neg, wt_idx, we_callG, we_prim, we_meth, we_isi, we_comp, wea_gf, wea_lam0, wea_lam1, we_lam0, we_hcall, wa_nil, wa_cons, waa_nil, waa_cons, wg_tn, wg_tt, wg_tsub, wgs_nil, wgs_cons, gsNil_nil, wi_iv, wi_ir1, wi_ir2, wi_ien, wi_izip, wi_izl, ws_asg, ws_par, ws_ex, ws_ret, ws_retN, ws_pass, ws_brk, ws_iff, ws_forr, ws_raise, wss_nil, wss_cons, wtru_eq, wp_ok, wp_exc, wp_oth_some, wea_k, wea_g, wea_tup, wea_lst, wea_bin, wea_neg, wea_not, wea_cmp, wea_chain, wea_and, wea_or, wea_ite, wea_idx, wea_sl, wea_call, wea_prim, wea_meth, wea_isi, wea_comp, slotD_z, slotD_s, slotA_z, slotA_s, newTup0, newTup1, newTup2, newTup3, newTup4, tr_non, tr_bl, tr_int, tr_tup, len_tup, atI0, atI1, idx_tup, it_tup, un_tup, int_of, lt_int, le_int, gt_int, ge_int, cmp_eq, cmp_ne, cmp_is, cmp_isnot, eqD_int, eqD_bl, lt_tup, List.set_cons_succ, List.set_cons_zero, startD, List.map_cons, List.map_nil, List.length_cons, List.length_nil, Nat.zero_add, Nat.reduceAdd, Nat.reduceSub, Nat.sub_self, List.replicate_succ, List.replicate_zero, List.cons_append, List.nil_append, Option.map_some, Kst.d, if_true, if_false, Bool.false_eq_true, wp_add_int, wp_sub_int, isiA, calA]
    refine w_law_is_nesting (m := 60 + i) (by omega) (by omega) g4 ?_
    try simp -implicitDefEqProofs only [wpS_sbnd, we_k, we_g, we_gf, we_v, wea_v, we_tup, we_lst, we_bin, we_neg, we_not, we_cmp, we_chain, we_and, we_or, we_ite, we_idx, we_sl, wt_no, wt_v, wt_k, wt_bin, wt_neg, wt_idx, we_callG, we_prim, we_meth, we_isi, we_comp, wea_gf, wea_lam0, wea_lam1, we_lam0, we_hcall, wa_nil, wa_cons, waa_nil, waa_cons, wg_tn, wg_tt, wg_tsub, wgs_nil, wgs_cons, gsNil_nil, wi_iv, wi_ir1, wi_ir2, wi_ien, wi_izip, wi_izl, ws_asg, ws_par, ws_ex, ws_ret, ws_retN, ws_pass, ws_brk, ws_iff, ws_forr, ws_raise, wss_nil, wss_cons, wtru_eq, wp_ok, wp_exc, wp_oth_some, wea_k, wea_g, wea_tup, wea_lst, wea_bin, wea_neg, wea_not, wea_cmp, wea_chain, wea_and, wea_or, wea_ite, wea_idx, wea_sl, wea_call, wea_prim, wea_meth, wea_isi, wea_comp, slotD_z, slotD_s, slotA_z, slotA_s, newTup0, newTup1, newTup2, newTup3, newTup4, tr_non, tr_bl, tr_int, tr_tup, len_tup, atI0, atI1, idx_tup, it_tup, un_tup, int_of, lt_int, le_int, gt_int, ge_int, cmp_eq, cmp_ne, cmp_is, cmp_isnot, eqD_int, eqD_bl, lt_tup, List.set_cons_succ, List.set_cons_zero, startD, List.map_cons, List.map_nil, List.length_cons, List.length_nil, Nat.zero_add, Nat.reduceAdd, Nat.reduceSub, Nat.sub_self, List.replicate_succ, List.replicate_zero, List.cons_append, List.nil_append, Option.map_some, Kst.d, if_true, if_false, Bool.false_eq_true, wp_add_int, wp_sub_int, isiA, calA]
    refine w_truly ?_
    simp -implicitDefEqProofs only [wpS_sbnd, we_k, we_g, we_gf, we_v, wea_v, we_tup, we_lst, we_bin, we_neg, we_not, we_cmp, we_chain, we_and, we_or, we_ite, we_idx, we_sl, wt_no, wt_v, wt_k, wt_bin, wt_neg, wt_idx, we_callG, we_prim, we_meth, we_isi, we_comp, wea_gf, wea_lam0, wea_lam1, we_lam0, we_hcall, wa_nil, wa_cons, waa_nil, waa_cons, wg_tn, wg_tt, wg_tsub, wgs_nil, wgs_cons, gsNil_nil, wi_iv, wi_ir1, wi_ir2, wi_ien, wi_izip, wi_izl, ws_asg, ws_par, ws_ex, ws_ret, ws_retN, ws_pass, ws_brk, ws_iff, ws_forr, ws_raise, wss_nil, wss_cons, wtru_eq, wp_ok, wp_exc, wp_oth_some, wea_k, wea_g, wea_tup, wea_lst, wea_bin, wea_neg, wea_not, wea_cmp, wea_chain, wea_and, wea_or, wea_ite, wea_idx, wea_sl, wea_call, wea_prim, wea_meth, wea_isi, wea_comp, slotD_z, slotD_s, slotA_z, slotA_s, newTup0, newTup1, newTup2, newTup3, newTup4, tr_non, tr_bl, tr_int, tr_tup, len_tup, atI0, atI1, idx_tup, it_tup, un_tup, int_of, lt_int, le_int, gt_int, ge_int, cmp_eq, cmp_ne, cmp_is, cmp_isnot, eqD_int, eqD_bl, lt_tup, List.set_cons_succ, List.set_cons_zero, startD, List.map_cons, List.map_nil, List.length_cons, List.length_nil, Nat.zero_add, Nat.reduceAdd, Nat.reduceSub, Nat.sub_self, List.replicate_succ, List.replicate_zero, List.cons_append, List.nil_append, Option.map_some, Kst.d, if_true, if_false, Bool.false_eq_true, wp_add_int, wp_sub_int, isiA, calA, beq_self_eq_true, Bool.not_true]
    rw [wp_mod_int (by decide)]
    simp -implicitDefEqProofs only [wpS_sbnd, we_k, we_g, we_gf, we_v, wea_v, we_tup, we_lst, we_bin, we_neg, we_not, we_cmp, we_chain, we_and, we_or, we_ite, we_idx, we_sl, wt_no, wt_v, wt_k, wt_bin, wt_neg, wt_idx, we_callG, we_prim, we_meth, we_isi, we_comp, wea_gf, wea_lam0, wea_lam1, we_lam0, we_hcall, wa_nil, wa_cons, waa_nil, waa_cons, wg_tn, wg_tt, wg_tsub, wgs_nil, wgs_cons, gsNil_nil, wi_iv, wi_ir1, wi_ir2, wi_ien, wi_izip, wi_izl, ws_asg, ws_par, ws_ex, ws_ret, ws_retN, ws_pass, ws_brk, ws_iff, ws_forr, ws_raise, wss_nil, wss_cons, wtru_eq, wp_ok, wp_exc, wp_oth_some, wea_k, wea_g, wea_tup, wea_lst, wea_bin, wea_neg, wea_not, wea_cmp, wea_chain, wea_and, wea_or, wea_ite, wea_idx, wea_sl, wea_call, wea_prim, wea_meth, wea_isi, wea_comp, slotD_z, slotD_s, slotA_z, slotA_s, newTup0, newTup1, newTup2, newTup3, newTup4, tr_non, tr_bl, tr_int, tr_tup, len_tup, atI0, atI1, idx_tup, it_tup, un_tup, int_of, lt_int, le_int, gt_int, ge_int, cmp_eq, cmp_ne, cmp_is, cmp_isnot, eqD_int, eqD_bl, lt_tup, List.set_cons_succ, List.set_cons_zero, startD, List.map_cons, List.map_nil, List.length_cons, List.length_nil, Nat.zero_add, Nat.reduceAdd, Nat.reduceSub, Nat.sub_self, List.replicate_succ, List.replicate_zero, List.cons_append, List.nil_append, Option.map_some, Kst.d, if_true, if_false, Bool.false_eq_true, wp_add_int, wp_sub_int, isiA, calA]
    have hi8 : i < 8 := by simpa using hi
    have fin : ∀ u, Val k (60 + i) st' u → dep u ≤ 25 + 4 * i → wp (callN prog W (n + 1) (.d (.fn 29)) [.d (.loc k), .d u] st') (fun d st1 => i + 1 ≤ 8 ∧ Src k st1 ∧ Fr k st9 st1 ∧ ∃ v y3' y8, ([some (.d scr), x1, some (.d (.loc k)), y3, some (.d (.int (2 + j))), some (.d (rowD r1)), some (.d (rowD r2)), some (.d d), some (.d (.int (0 + (i : Int)))), x9, x10, x11, x12, x13, x14] : Env) = [some (.d scr), x1, some (.d (.loc k)), y3', some (.d (.int (2 + j))), some (.d (rowD r1)), some (.d (rowD r2)), some (.d v), y8, x9, x10, x11, x12, x13, x14] ∧ Val k (60 + (i + 1)) st1 v ∧ dep v ≤ 25 + 4 * (i + 1)) E := fun u hu hd =>
      w_bent (m := 60 + i) (by omega) (by omega) (25 + 4 * i) (n + 1) u st' _ _ g1 hu hd (by omega) fun v' st2 q1 q2 q3 q4 => ⟨by omega, q4, g2.trans q3, v', y3, _, rfl, q1, by omega⟩
    by_cases hz : (0 + (i : Int)) % 3 = 0
    · simp -implicitDefEqProofs only [hz, beq_self_eq_true, if_true, wpS_sbnd, we_k, we_g, we_gf, we_v, wea_v, we_tup, we_lst, we_bin, we_neg, we_not, we_cmp, we_chain, we_and, we_or, we_ite, we_idx, we_sl, wt_no, wt_v, wt_k, wt_bin, wt_neg, wt_idx, we_callG, we_prim, we_meth, we_isi, we_comp, wea_gf, wea_lam0, wea_lam1, we_lam0, we_hcall, wa_nil, wa_cons, waa_nil, waa_cons, wg_tn, wg_tt, wg_tsub, wgs_nil, wgs_cons, gsNil_nil, wi_iv, wi_ir1, wi_ir2, wi_ien, wi_izip, wi_izl, ws_asg, ws_par, ws_ex, ws_ret, ws_retN, ws_pass, ws_brk, ws_iff, ws_forr, ws_raise, wss_nil, wss_cons, wtru_eq, wp_ok, wp_exc, wp_oth_some, wea_k, wea_g, wea_tup, wea_lst, wea_bin, wea_neg, wea_not, wea_cmp, wea_chain, wea_and, wea_or, wea_ite, wea_idx, wea_sl, wea_call, wea_prim, wea_meth, wea_isi, wea_comp, slotD_z, slotD_s, slotA_z, slotA_s, newTup0, newTup1, newTup2, newTup3, newTup4, tr_non, tr_bl, tr_int, tr_tup, len_tup, atI0, atI1, idx_tup, it_tup, un_tup, int_of, lt_int, le_int, gt_int, ge_int, cmp_eq, cmp_ne, cmp_is, cmp_isnot, eqD_int, eqD_bl, lt_tup, List.set_cons_succ, List.set_cons_zero, startD, List.map_cons, List.map_nil, List.length_cons, List.length_nil, Nat.zero_add, Nat.reduceAdd, Nat.reduceSub, Nat.sub_self, List.replicate_succ, List.replicate_zero, List.cons_append, List.nil_append, Option.map_some, Kst.d, if_true, if_false, Bool.false_eq_true, wp_add_int, wp_sub_int, isiA, calA]
      exact fin _ ((val_row n1.s (by omega)).more (by omega)) (by have := dep_row r1; have := n1.d; omega)
    · have hz : ((0 + (i : Int)) % 3 == 0) = false := by simpa using hz
      simp -implicitDefEqProofs only [hz, Bool.false_eq_true, if_false, wpS_sbnd, we_k, we_g, we_gf, we_v, wea_v, we_tup, we_lst, we_bin, we_neg, we_not, we_cmp, we_chain, we_and, we_or, we_ite, we_idx, we_sl, wt_no, wt_v, wt_k, wt_bin, wt_neg, wt_idx, we_callG, we_prim, we_meth, we_isi, we_comp, wea_gf, wea_lam0, wea_lam1, we_lam0, we_hcall, wa_nil, wa_cons, waa_nil, waa_cons, wg_tn, wg_tt, wg_tsub, wgs_nil, wgs_cons, gsNil_nil, wi_iv, wi_ir1, wi_ir2, wi_ien, wi_izip, wi_izl, ws_asg, ws_par, ws_ex, ws_ret, ws_retN, ws_pass, ws_brk, ws_iff, ws_forr, ws_raise, wss_nil, wss_cons, wtru_eq, wp_ok, wp_exc, wp_oth_some, wea_k, wea_g, wea_tup, wea_lst, wea_bin, wea_neg, wea_not, wea_cmp, wea_chain, wea_and, wea_or, wea_ite, wea_idx, wea_sl, wea_call, wea_prim, wea_meth, wea_isi, wea_comp, slotD_z, slotD_s, slotA_z, slotA_s, newTup0, newTup1, newTup2, newTup3, newTup4, tr_non, tr_bl, tr_int, tr_tup, len_tup, atI0, atI1, idx_tup, it_tup, un_tup, int_of, lt_int, le_int, gt_int, ge_int, cmp_eq, cmp_ne, cmp_is, cmp_isnot, eqD_int, eqD_bl, lt_tup, List.set_cons_succ, List.set_cons_zero, startD, List.map_cons, List.map_nil, List.length_cons, List.length_nil, Nat.zero_add, Nat.reduceAdd, Nat.reduceSub, Nat.sub_self, List.replicate_succ, List.replicate_zero, List.cons_append, List.nil_append, Option.map_some, Kst.d, if_true, if_false, Bool.false_eq_true, wp_add_int, wp_sub_int, isiA, calA]
      exact fin _ g4 g5
  · subst g3
    exact h _ st' ⟨_, _, _, _, _, _, _, _, _, _, _, _, _, rfl⟩ g1 ((hc4.fr f9).fr g2)
end
end K01

set_option Elab.async false
set_option linter.all false
set_option maxRecDepth 100000
set_option maxHeartbeats 1000000
/-! law k01: its end, all of it. -/
namespace K01
open PF
def rowsL : List Rw := [.nil, (.cons 0 .nil .nil), (.cons 1 .nil .nil), (.cons 0 .nil (.cons 0 .nil .nil)), (.cons 0 .nil (.cons 1 .nil .nil)), (.cons 0 (.cons 0 .nil .nil) .nil), (.cons 0 (.cons 1 .nil .nil) .nil), (.cons 1 .nil (.cons 0 .nil .nil)), (.cons 1 .nil (.cons 1 .nil .nil)), (.cons 1 (.cons 0 .nil .nil) .nil), (.cons 1 (.cons 1 .nil .nil) .nil), (.cons 0 .nil (.cons 0 .nil (.cons 0 .nil .nil))), (.cons 0 .nil (.cons 0 .nil (.cons 1 .nil .nil))), (.cons 0 .nil (.cons 0 (.cons 0 .nil .nil) .nil)), (.cons 0 .nil (.cons 0 (.cons 1 .nil .nil) .nil)), (.cons 0 .nil (.cons 1 .nil (.cons 0 .nil .nil))), (.cons 0 .nil (.cons 1 .nil (.cons 1 .nil .nil))), (.cons 0 .nil (.cons 1 (.cons 0 .nil .nil) .nil)), (.cons 0 .nil (.cons 1 (.cons 1 .nil .nil) .nil)), (.cons 0 (.cons 0 .nil .nil) (.cons 0 .nil .nil)), (.cons 0 (.cons 0 .nil .nil) (.cons 1 .nil .nil)), (.cons 0 (.cons 0 .nil (.cons 0 .nil .nil)) .nil), (.cons 0 (.cons 0 .nil (.cons 1 .nil .nil)) .nil), (.cons 0 (.cons 0 (.cons 0 .nil .nil) .nil) .nil), (.cons 0 (.cons 0 (.cons 1 .nil .nil) .nil) .nil), (.cons 0 (.cons 1 .nil .nil) (.cons 0 .nil .nil)), (.cons 0 (.cons 1 .nil .nil) (.cons 1 .nil .nil)), (.cons 0 (.cons 1 .nil (.cons 0 .nil .nil)) .nil), (.cons 0 (.cons 1 .nil (.cons 1 .nil .nil)) .nil), (.cons 0 (.cons 1 (.cons 0 .nil .nil) .nil) .nil), (.cons 0 (.cons 1 (.cons 1 .nil .nil) .nil) .nil), (.cons 1 .nil (.cons 0 .nil (.cons 0 .nil .nil))), (.cons 1 .nil (.cons 0 .nil (.cons 1 .nil .nil))), (.cons 1 .nil (.cons 0 (.cons 0 .nil .nil) .nil)), (.cons 1 .nil (.cons 0 (.cons 1 .nil .nil) .nil)), (.cons 1 .nil (.cons 1 .nil (.cons 0 .nil .nil))), (.cons 1 .nil (.cons 1 .nil (.cons 1 .nil .nil))), (.cons 1 .nil (.cons 1 (.cons 0 .nil .nil) .nil)), (.cons 1 .nil (.cons 1 (.cons 1 .nil .nil) .nil)), (.cons 1 (.cons 0 .nil .nil) (.cons 0 .nil .nil)), (.cons 1 (.cons 0 .nil .nil) (.cons 1 .nil .nil)), (.cons 1 (.cons 0 .nil (.cons 0 .nil .nil)) .nil), (.cons 1 (.cons 0 .nil (.cons 1 .nil .nil)) .nil), (.cons 1 (.cons 0 (.cons 0 .nil .nil) .nil) .nil), (.cons 1 (.cons 0 (.cons 1 .nil .nil) .nil) .nil), (.cons 1 (.cons 1 .nil .nil) (.cons 0 .nil .nil)), (.cons 1 (.cons 1 .nil .nil) (.cons 1 .nil .nil)), (.cons 1 (.cons 1 .nil (.cons 0 .nil .nil)) .nil), (.cons 1 (.cons 1 .nil (.cons 1 .nil .nil)) .nil), (.cons 1 (.cons 1 (.cons 0 .nil .nil) .nil) .nil), (.cons 1 (.cons 1 (.cons 1 .nil .nil) .nil) .nil)]
theorem rows_ok : getL (callN prog 3000 40 (.d (.fn 24)) [.d (.int 2), .d (.int 3)] []) = some (rowsL.map rowD) := by kernel_rfl
def prs : List (Rw × Rw) := rowsL.zip (rowsL.drop 1)
def okB (stands : Int) : Rw → Bool
  | .nil => true
  | .cons s i r => decide (0 ≤ s) && decide (s < stands) && okB stands i && okB stands r
theorem okB_ok {stands : Int} : ∀ {r : Rw}, okB stands r = true → ok stands r
  | .nil, _ => trivial
  | .cons s i r, h => by
    simp only [okB, Bool.and_eq_true, decide_eq_true_eq] at h
    exact ⟨h.1.1.1, h.1.1.2, okB_ok h.1.2, okB_ok h.2⟩
def nstB (stands : Int) (r : Rw) : Bool := decide (sz r ≤ 60) && decide (dp r ≤ 12) && okB stands r
theorem nstB_ok {stands : Int} {r : Rw} (h : nstB stands r = true) : Nst stands r := by
  simp only [nstB, Bool.and_eq_true, decide_eq_true_eq] at h
  exact ⟨h.1.1, h.1.2, okB_ok h.2⟩
theorem prs_ok : (prs.all fun p => nstB 2 p.1 && nstB 2 p.2 && ltW (keyD p.1) (keyD p.2) && !ltW (keyD p.2) (keyD p.1)) = true := by decide +kernel
def prD (p : Rw × Rw) : D := .tup [rowD p.1, rowD p.2]
theorem prs_zip : List.zipWith (fun x y => D.tup [x, y]) (rowsL.map rowD) ((rowsL.map rowD).drop 1) = prs.map prD := by kernel_rfl
theorem sh_rows {s : Nat} : ∀ r : Rw, shDs s (rowDs r) = rowDs r
  | .nil => rfl
  | .cons a i r => by simp only [rowDs, shDs, shD, sh_rows i, sh_rows r]
theorem sh_row {s : Nat} (r : Rw) : shD s (rowD r) = rowD r := by simp only [rowD, shD, sh_rows]
theorem tail_eq : dpC 7 tailC = .cons (.asg (.tn 14) (.call (.gf 24) (.cons (.k (.int 2)) (.cons (.k (.int 3)) .nil)))) (.cons (.iff (.cmp .ne (.comp (.k (.int 1)) (.tt (.cons (.tn 5) (.cons (.tn 6) .nil))) (.izip (.v 14) (.sl (.v 14) (.k (.int 1)) .no)) (.or (.not (.call (.gf 11) (.cons (.k (.int 2)) (.cons (.v 5) (.cons (.v 6) .nil))))) (.call (.gf 11) (.cons (.k (.int 2)) (.cons (.v 6) (.cons (.v 5) .nil))))) [5, 6]) (.lst .nil)) (.cons (.ret (.k (.bl false))) .nil) .nil) (dpC 9 tailC)) := rfl
section
variable {W n : Nat} {R : D → Store → Prop} {B : Env → Store → Prop} {E : Xn → Store → Prop} {N : Env → Store → Prop}
theorem w_tail {ρ : Env} {st : Store} (hW : 3000 ≤ W) (hn : 40 ≤ n) (hl : ρ.length = 15) (h : ∀ st', R (.bl true) st') : wss W (callN prog W n) tailC ρ st N R B E := by
  rw [wss_split 1]
  refine wss_run [] (ρ0 := List.replicate 15 none) (by rw [← hl]; exact ER.empty _ _) hW hn rfl cl_1 fun ρ1 st1 l1 _ x1 => ?_
  rw [wss_split 6]
  refine wss_runV (ρ0 := List.replicate 15 none) (by rw [← hl, ← l1]; exact ER.empty _ _) hW hn cl_2 cl_2v fun ρ2 st2 l2 s2 x2 => ?_
  rw [show dpC 6 (dpC 1 tailC) = dpC 7 tailC from rfl, tail_eq]
  have hl2 : ρ2.length = 15 := by omega
  obtain ⟨y0, r0, rfl, h0⟩ := cons_of hl2
  obtain ⟨y1, r1, rfl, h1⟩ := cons_of h0
  obtain ⟨y2, r2, rfl, h2⟩ := cons_of h1
  obtain ⟨y3, r3, rfl, h3⟩ := cons_of h2
  obtain ⟨y4, r4, rfl, h4⟩ := cons_of h3
  obtain ⟨y5, r5, rfl, h5⟩ := cons_of h4
  obtain ⟨y6, r6, rfl, h6⟩ := cons_of h5
  obtain ⟨y7, r7, rfl, h7⟩ := cons_of h6
  obtain ⟨y8, r8, rfl, h8⟩ := cons_of h7
  obtain ⟨y9, r9, rfl, h9⟩ := cons_of h8
  obtain ⟨y10, r10, rfl, h10⟩ := cons_of h9
  obtain ⟨y11, r11, rfl, h11⟩ := cons_of h10
  obtain ⟨y12, r12, rfl, h12⟩ := cons_of h11
  obtain ⟨y13, r13, rfl, h13⟩ := cons_of h12
  obtain ⟨y14, r14, rfl, h14⟩ := cons_of h13
  cases r14 with
  | cons a r => simp at h14
  | nil =>
    have s2 : y13 = some (.d (shD st1.length nD)) := by simpa using s2
    have sn : shD st1.length nD = nD := by simp [nD, shD, shDs]
    rw [sn] at s2
    subst s2
    simp -implicitDefEqProofs only [wpS_sbnd, we_k, we_g, we_gf, we_v, wea_v, we_tup, we_lst, we_bin, we_neg, we_not, we_cmp, we_chain, we_and, we_or, we_ite, we_idx, we_sl, wt_no, wt_v, wt_k, wt_bin, wt_neg, wt_idx, we_callG, we_prim, we_meth, we_isi, we_comp, wea_gf, wea_lam0, wea_lam1, we_lam0, we_hcall, wa_nil, wa_cons, waa_nil, waa_cons, wg_tn, wg_tt, wg_tsub, wgs_nil, wgs_cons, gsNil_nil, wi_iv, wi_ir1, wi_ir2, wi_ien, wi_izip, wi_izl, ws_asg, ws_par, ws_ex, ws_ret, ws_retN, ws_pass, ws_brk, ws_iff, ws_forr, ws_raise, wss_nil, wss_cons, wtru_eq, wp_ok, wp_exc, wp_oth_some, wea_k, wea_g, wea_tup, wea_lst, wea_bin, wea_neg, wea_not, wea_cmp, wea_chain, wea_and, wea_or, wea_ite, wea_idx, wea_sl, wea_call, wea_prim, wea_meth, wea_isi, wea_comp, slotD_z, slotD_s, slotA_z, slotA_s, newTup0, newTup1, newTup2, newTup3, newTup4, tr_non, tr_bl, tr_int, tr_tup, len_tup, atI0, atI1, idx_tup, it_tup, un_tup, int_of, lt_int, le_int, gt_int, ge_int, cmp_eq, cmp_ne, cmp_is, cmp_isnot, eqD_int, eqD_bl, lt_tup, List.set_cons_succ, List.set_cons_zero, startD, List.map_cons, List.map_nil, List.length_cons, List.length_nil, Nat.zero_add, Nat.reduceAdd, Nat.reduceSub, Nat.sub_self, List.replicate_succ, List.replicate_zero, List.cons_append, List.nil_append, Option.map_some, Kst.d, if_true, if_false, Bool.false_eq_true, wp_add_int, wp_sub_int, isiA, calA]
    refine call_lst hW hn rows_ok rfl rfl fun k st3 x3 hk lk => ?_
    have e : (rowsL.map rowD).map (shD st2.length) = rowsL.map rowD := by simp [sh_row]
    rw [e] at lk
    try simp -implicitDefEqProofs only [wpS_sbnd, we_k, we_g, we_gf, we_v, wea_v, we_tup, we_lst, we_bin, we_neg, we_not, we_cmp, we_chain, we_and, we_or, we_ite, we_idx, we_sl, wt_no, wt_v, wt_k, wt_bin, wt_neg, wt_idx, we_callG, we_prim, we_meth, we_isi, we_comp, wea_gf, wea_lam0, wea_lam1, we_lam0, we_hcall, wa_nil, wa_cons, waa_nil, waa_cons, wg_tn, wg_tt, wg_tsub, wgs_nil, wgs_cons, gsNil_nil, wi_iv, wi_ir1, wi_ir2, wi_ien, wi_izip, wi_izl, ws_asg, ws_par, ws_ex, ws_ret, ws_retN, ws_pass, ws_brk, ws_iff, ws_forr, ws_raise, wss_nil, wss_cons, wtru_eq, wp_ok, wp_exc, wp_oth_some, wea_k, wea_g, wea_tup, wea_lst, wea_bin, wea_neg, wea_not, wea_cmp, wea_chain, wea_and, wea_or, wea_ite, wea_idx, wea_sl, wea_call, wea_prim, wea_meth, wea_isi, wea_comp, slotD_z, slotD_s, slotA_z, slotA_s, newTup0, newTup1, newTup2, newTup3, newTup4, tr_non, tr_bl, tr_int, tr_tup, len_tup, atI0, atI1, idx_tup, it_tup, un_tup, int_of, lt_int, le_int, gt_int, ge_int, cmp_eq, cmp_ne, cmp_is, cmp_isnot, eqD_int, eqD_bl, lt_tup, List.set_cons_succ, List.set_cons_zero, startD, List.map_cons, List.map_nil, List.length_cons, List.length_nil, Nat.zero_add, Nat.reduceAdd, Nat.reduceSub, Nat.sub_self, List.replicate_succ, List.replicate_zero, List.cons_append, List.nil_append, Option.map_some, Kst.d, if_true, if_false, Bool.false_eq_true, wp_add_int, wp_sub_int, isiA, calA]
    have es : slD st3 (some 1) none (.loc k) = .ok (.loc st3.length) (st3 ++ [.lst ((rowsL.map rowD).drop 1)]) := by
      simp only [slD, lk, cut_from (show (0 : Int) ≤ 1 by decide), alloc]
      rfl
    simp -implicitDefEqProofs only [es, wpS_sbnd, we_k, we_g, we_gf, we_v, wea_v, we_tup, we_lst, we_bin, we_neg, we_not, we_cmp, we_chain, we_and, we_or, we_ite, we_idx, we_sl, wt_no, wt_v, wt_k, wt_bin, wt_neg, wt_idx, we_callG, we_prim, we_meth, we_isi, we_comp, wea_gf, wea_lam0, wea_lam1, we_lam0, we_hcall, wa_nil, wa_cons, waa_nil, waa_cons, wg_tn, wg_tt, wg_tsub, wgs_nil, wgs_cons, gsNil_nil, wi_iv, wi_ir1, wi_ir2, wi_ien, wi_izip, wi_izl, ws_asg, ws_par, ws_ex, ws_ret, ws_retN, ws_pass, ws_brk, ws_iff, ws_forr, ws_raise, wss_nil, wss_cons, wtru_eq, wp_ok, wp_exc, wp_oth_some, wea_k, wea_g, wea_tup, wea_lst, wea_bin, wea_neg, wea_not, wea_cmp, wea_chain, wea_and, wea_or, wea_ite, wea_idx, wea_sl, wea_call, wea_prim, wea_meth, wea_isi, wea_comp, slotD_z, slotD_s, slotA_z, slotA_s, newTup0, newTup1, newTup2, newTup3, newTup4, tr_non, tr_bl, tr_int, tr_tup, len_tup, atI0, atI1, idx_tup, it_tup, un_tup, int_of, lt_int, le_int, gt_int, ge_int, cmp_eq, cmp_ne, cmp_is, cmp_isnot, eqD_int, eqD_bl, lt_tup, List.set_cons_succ, List.set_cons_zero, startD, List.map_cons, List.map_nil, List.length_cons, List.length_nil, Nat.zero_add, Nat.reduceAdd, Nat.reduceSub, Nat.sub_self, List.replicate_succ, List.replicate_zero, List.cons_append, List.nil_append, Option.map_some, Kst.d, if_true, if_false, Bool.false_eq_true, wp_add_int, wp_sub_int, isiA, calA]
    have lk4 : listAt (st3 ++ [Ob.lst ((rowsL.map rowD).drop 1)]) k = some (rowsL.map rowD) := listAt_app lk
    have ln4 := listAt_new st3 ((rowsL.map rowD).drop 1)
    have ez : zipOf (.loc k) (.loc st3.length) (st3 ++ [.lst ((rowsL.map rowD).drop 1)]) = .ok (.zLL k st3.length) (st3 ++ [.lst ((rowsL.map rowD).drop 1)]) := by
      simp only [zipOf, lk4, ln4]
    simp -implicitDefEqProofs only [ez, wpS_sbnd, we_k, we_g, we_gf, we_v, wea_v, we_tup, we_lst, we_bin, we_neg, we_not, we_cmp, we_chain, we_and, we_or, we_ite, we_idx, we_sl, wt_no, wt_v, wt_k, wt_bin, wt_neg, wt_idx, we_callG, we_prim, we_meth, we_isi, we_comp, wea_gf, wea_lam0, wea_lam1, we_lam0, we_hcall, wa_nil, wa_cons, waa_nil, waa_cons, wg_tn, wg_tt, wg_tsub, wgs_nil, wgs_cons, gsNil_nil, wi_iv, wi_ir1, wi_ir2, wi_ien, wi_izip, wi_izl, ws_asg, ws_par, ws_ex, ws_ret, ws_retN, ws_pass, ws_brk, ws_iff, ws_forr, ws_raise, wss_nil, wss_cons, wtru_eq, wp_ok, wp_exc, wp_oth_some, wea_k, wea_g, wea_tup, wea_lst, wea_bin, wea_neg, wea_not, wea_cmp, wea_chain, wea_and, wea_or, wea_ite, wea_idx, wea_sl, wea_call, wea_prim, wea_meth, wea_isi, wea_comp, slotD_z, slotD_s, slotA_z, slotA_s, newTup0, newTup1, newTup2, newTup3, newTup4, tr_non, tr_bl, tr_int, tr_tup, len_tup, atI0, atI1, idx_tup, it_tup, un_tup, int_of, lt_int, le_int, gt_int, ge_int, cmp_eq, cmp_ne, cmp_is, cmp_isnot, eqD_int, eqD_bl, lt_tup, List.set_cons_succ, List.set_cons_zero, startD, List.map_cons, List.map_nil, List.length_cons, List.length_nil, Nat.zero_add, Nat.reduceAdd, Nat.reduceSub, Nat.sub_self, List.replicate_succ, List.replicate_zero, List.cons_append, List.nil_append, Option.map_some, Kst.d, if_true, if_false, Bool.false_eq_true, wp_add_int, wp_sub_int, isiA, calA]
    refine comp_zll (fun rem acc st' => acc = [] ∧ Ex (st3 ++ [.lst ((rowsL.map rowD).drop 1)]) st' ∧ ∃ ps : List (Rw × Rw), rem = ps.map prD ∧ (ps.all fun p => nstB 2 p.1 && nstB 2 p.2 && ltW (keyD p.1) (keyD p.2) && !ltW (keyD p.2) (keyD p.1)) = true) (by rw [prs_zip, List.length_map]; exact Nat.lt_of_lt_of_le (show prs.length < 3000 by decide) hW) (fun r acc st' ⟨_, x, _⟩ => ⟨x.2 _ _ lk4, x.2 _ _ ln4⟩) ⟨rfl, Ex.refl _, prs, prs_zip, prs_ok⟩ (fun d r acc st' ⟨e1, x, ps, e2, e3⟩ => ?_) fun out st' ⟨e1, x, _⟩ => ?_
    · cases ps with
      | nil => cases e2
      | cons p ps =>
        cases e2
        subst e1
        simp only [List.all_cons, Bool.and_eq_true, Bool.not_eq_true'] at e3
        obtain ⟨⟨⟨⟨p1, p2⟩, p3⟩, p4⟩, p5⟩ := e3
        simp -implicitDefEqProofs only [wp_turn, prD, wpS_sbnd, we_k, we_g, we_gf, we_v, wea_v, we_tup, we_lst, we_bin, we_neg, we_not, we_cmp, we_chain, we_and, we_or, we_ite, we_idx, we_sl, wt_no, wt_v, wt_k, wt_bin, wt_neg, wt_idx, we_callG, we_prim, we_meth, we_isi, we_comp, wea_gf, wea_lam0, wea_lam1, we_lam0, we_hcall, wa_nil, wa_cons, waa_nil, waa_cons, wg_tn, wg_tt, wg_tsub, wgs_nil, wgs_cons, gsNil_nil, wi_iv, wi_ir1, wi_ir2, wi_ien, wi_izip, wi_izl, ws_asg, ws_par, ws_ex, ws_ret, ws_retN, ws_pass, ws_brk, ws_iff, ws_forr, ws_raise, wss_nil, wss_cons, wtru_eq, wp_ok, wp_exc, wp_oth_some, wea_k, wea_g, wea_tup, wea_lst, wea_bin, wea_neg, wea_not, wea_cmp, wea_chain, wea_and, wea_or, wea_ite, wea_idx, wea_sl, wea_call, wea_prim, wea_meth, wea_isi, wea_comp, slotD_z, slotD_s, slotA_z, slotA_s, newTup0, newTup1, newTup2, newTup3, newTup4, tr_non, tr_bl, tr_int, tr_tup, len_tup, atI0, atI1, idx_tup, it_tup, un_tup, int_of, lt_int, le_int, gt_int, ge_int, cmp_eq, cmp_ne, cmp_is, cmp_isnot, eqD_int, eqD_bl, lt_tup, List.set_cons_succ, List.set_cons_zero, startD, List.map_cons, List.map_nil, List.length_cons, List.length_nil, Nat.zero_add, Nat.reduceAdd, Nat.reduceSub, Nat.sub_self, List.replicate_succ, List.replicate_zero, List.cons_append, List.nil_append, Option.map_some, Kst.d, if_true, if_false, Bool.false_eq_true, wp_add_int, wp_sub_int, isiA, calA, wipe]
        refine w_ahead (by omega) (by omega) rfl (nstB_ok p1) (nstB_ok p2) fun st5 x5 => ?_
        simp -implicitDefEqProofs only [p3, wpS_sbnd, we_k, we_g, we_gf, we_v, wea_v, we_tup, we_lst, we_bin, we_neg, we_not, we_cmp, we_chain, we_and, we_or, we_ite, we_idx, we_sl, wt_no, wt_v, wt_k, wt_bin, wt_neg, wt_idx, we_callG, we_prim, we_meth, we_isi, we_comp, wea_gf, wea_lam0, wea_lam1, we_lam0, we_hcall, wa_nil, wa_cons, waa_nil, waa_cons, wg_tn, wg_tt, wg_tsub, wgs_nil, wgs_cons, gsNil_nil, wi_iv, wi_ir1, wi_ir2, wi_ien, wi_izip, wi_izl, ws_asg, ws_par, ws_ex, ws_ret, ws_retN, ws_pass, ws_brk, ws_iff, ws_forr, ws_raise, wss_nil, wss_cons, wtru_eq, wp_ok, wp_exc, wp_oth_some, wea_k, wea_g, wea_tup, wea_lst, wea_bin, wea_neg, wea_not, wea_cmp, wea_chain, wea_and, wea_or, wea_ite, wea_idx, wea_sl, wea_call, wea_prim, wea_meth, wea_isi, wea_comp, slotD_z, slotD_s, slotA_z, slotA_s, newTup0, newTup1, newTup2, newTup3, newTup4, tr_non, tr_bl, tr_int, tr_tup, len_tup, atI0, atI1, idx_tup, it_tup, un_tup, int_of, lt_int, le_int, gt_int, ge_int, cmp_eq, cmp_ne, cmp_is, cmp_isnot, eqD_int, eqD_bl, lt_tup, List.set_cons_succ, List.set_cons_zero, startD, List.map_cons, List.map_nil, List.length_cons, List.length_nil, Nat.zero_add, Nat.reduceAdd, Nat.reduceSub, Nat.sub_self, List.replicate_succ, List.replicate_zero, List.cons_append, List.nil_append, Option.map_some, Kst.d, if_true, if_false, Bool.false_eq_true, wp_add_int, wp_sub_int, isiA, calA, Bool.not_true]
        refine w_ahead (by omega) (by omega) rfl (nstB_ok p2) (nstB_ok p1) fun st6 x6 => ?_
        simp -implicitDefEqProofs only [p4, wpS_sbnd, we_k, we_g, we_gf, we_v, wea_v, we_tup, we_lst, we_bin, we_neg, we_not, we_cmp, we_chain, we_and, we_or, we_ite, we_idx, we_sl, wt_no, wt_v, wt_k, wt_bin, wt_neg, wt_idx, we_callG, we_prim, we_meth, we_isi, we_comp, wea_gf, wea_lam0, wea_lam1, we_lam0, we_hcall, wa_nil, wa_cons, waa_nil, waa_cons, wg_tn, wg_tt, wg_tsub, wgs_nil, wgs_cons, gsNil_nil, wi_iv, wi_ir1, wi_ir2, wi_ien, wi_izip, wi_izl, ws_asg, ws_par, ws_ex, ws_ret, ws_retN, ws_pass, ws_brk, ws_iff, ws_forr, ws_raise, wss_nil, wss_cons, wtru_eq, wp_ok, wp_exc, wp_oth_some, wea_k, wea_g, wea_tup, wea_lst, wea_bin, wea_neg, wea_not, wea_cmp, wea_chain, wea_and, wea_or, wea_ite, wea_idx, wea_sl, wea_call, wea_prim, wea_meth, wea_isi, wea_comp, slotD_z, slotD_s, slotA_z, slotA_s, newTup0, newTup1, newTup2, newTup3, newTup4, tr_non, tr_bl, tr_int, tr_tup, len_tup, atI0, atI1, idx_tup, it_tup, un_tup, int_of, lt_int, le_int, gt_int, ge_int, cmp_eq, cmp_ne, cmp_is, cmp_isnot, eqD_int, eqD_bl, lt_tup, List.set_cons_succ, List.set_cons_zero, startD, List.map_cons, List.map_nil, List.length_cons, List.length_nil, Nat.zero_add, Nat.reduceAdd, Nat.reduceSub, Nat.sub_self, List.replicate_succ, List.replicate_zero, List.cons_append, List.nil_append, Option.map_some, Kst.d, if_true, if_false, Bool.false_eq_true, wp_add_int, wp_sub_int, isiA, calA]
        exact ⟨rfl, (x.trans x5).trans x6, ps, rfl, by simpa using p5⟩
    · subst e1
      refine wp_newList (lim_le (by decide)) ?_
      refine wp_newList (lim_le (by decide)) ?_
      have q1 := listAt_app (r := [Ob.lst []]) (listAt_new st' [])
      have q2 := listAt_new (st' ++ [Ob.lst []]) []
      simp -implicitDefEqProofs only [wpS_sbnd, we_k, we_g, we_gf, we_v, wea_v, we_tup, we_lst, we_bin, we_neg, we_not, we_cmp, we_chain, we_and, we_or, we_ite, we_idx, we_sl, wt_no, wt_v, wt_k, wt_bin, wt_neg, wt_idx, we_callG, we_prim, we_meth, we_isi, we_comp, wea_gf, wea_lam0, wea_lam1, we_lam0, we_hcall, wa_nil, wa_cons, waa_nil, waa_cons, wg_tn, wg_tt, wg_tsub, wgs_nil, wgs_cons, gsNil_nil, wi_iv, wi_ir1, wi_ir2, wi_ien, wi_izip, wi_izl, ws_asg, ws_par, ws_ex, ws_ret, ws_retN, ws_pass, ws_brk, ws_iff, ws_forr, ws_raise, wss_nil, wss_cons, wtru_eq, wp_ok, wp_exc, wp_oth_some, wea_k, wea_g, wea_tup, wea_lst, wea_bin, wea_neg, wea_not, wea_cmp, wea_chain, wea_and, wea_or, wea_ite, wea_idx, wea_sl, wea_call, wea_prim, wea_meth, wea_isi, wea_comp, slotD_z, slotD_s, slotA_z, slotA_s, newTup0, newTup1, newTup2, newTup3, newTup4, tr_non, tr_bl, tr_int, tr_tup, len_tup, atI0, atI1, idx_tup, it_tup, un_tup, int_of, lt_int, le_int, gt_int, ge_int, cmp_eq, cmp_ne, cmp_is, cmp_isnot, eqD_int, eqD_bl, lt_tup, List.set_cons_succ, List.set_cons_zero, startD, List.map_cons, List.map_nil, List.length_cons, List.length_nil, Nat.zero_add, Nat.reduceAdd, Nat.reduceSub, Nat.sub_self, List.replicate_succ, List.replicate_zero, List.cons_append, List.nil_append, Option.map_some, Kst.d, if_true, if_false, Bool.false_eq_true, wp_add_int, wp_sub_int, isiA, calA, eqD_nils q1 q2, Bool.not_true]
      refine wss_trueE (ρ0 := (List.replicate 15 none).set 13 (some (.d nD))) ?_ hW hn cl_3 h
      exact ER.one (ρ := [y0, y1, y2, y3, y4, y5, y6, y7, y8, y9, y10, y11, y12, some (.d nD), some (.d (.loc k))]) rfl (by simp [nD, shA, shD, shDs])
theorem e9_er {s : Nat} {ρ : Env} {d : D} (hl : ρ.length = 15) (h : ρ[9]? = some (some (.d d))) (hd : shD s d = d) : ER s (e9 d) ρ := by
  have := ER.one (s := s) h (by simp only [shA, hd])
  rw [hl] at this
  exact this
theorem w_calls {scr d : D} {ρ : Env} {st : Store} {is : List Nat} (hW : 3000 ≤ W) (hn : 40 ≤ n) (hl : ρ.length = 15) (h0 : ρ[0]? = some (some (.d scr))) (h9 : ρ[9]? = some (some (.d d))) (hd : shD st.length d = d) (hd2 : ∀ s, shD s d = d)
    (c1 : isNext 15 ((den 3000 (callN prog 3000 40) call1).s (e9 d) []) = true) (c2 : isNext 15 ((den 3000 (callN prog 3000 40) call2).s (e9 d) []) = true)
    (h : ∀ ρ' st', ρ'.length = 15 → ρ'[0]? = some (some (.d scr)) → Ex st st' → N ρ' st') : wss W (callN prog W n) (.cons call1 (.cons call2 .nil)) ρ st N R B E := by
  rw [wss_cons]
  refine ws_run [0, 9] (ρ0 := e9 d) (e9_er hl h9 hd) hW hn rfl c1 fun ρ1 st1 l1 z1 x1 => ?_
  rw [wss_cons]
  refine ws_run [0] (ρ0 := e9 d) (e9_er (by omega) (z1 9 (by simp) _ h9) (hd2 _)) hW hn rfl c2 fun ρ2 st2 l2 z2 x2 => ?_
  rw [wss_nil]
  exact h ρ2 st2 (by omega) (z2 0 (by simp) _ (z1 0 (by simp) _ h0)) (Ex.trans x1 x2)
theorem w_law {scr : D} {ns : List Int} {st : Store} {Q : D → Store → Prop} (hs : IsScr st scr ns) (hQ : ∀ st', Q (.bl true) st') : wp (callN prog 3000 81 (.d (.fn 30)) [.d scr] st) Q E := by
  rw [wp_fn (d := ⟨1, 15, c_law⟩) rfl rfl, law_eq]
  simp -implicitDefEqProofs only [wpS_sbnd, we_k, we_g, we_gf, we_v, wea_v, we_tup, we_lst, we_bin, we_neg, we_not, we_cmp, we_chain, we_and, we_or, we_ite, we_idx, we_sl, wt_no, wt_v, wt_k, wt_bin, wt_neg, wt_idx, we_callG, we_prim, we_meth, we_isi, we_comp, wea_gf, wea_lam0, wea_lam1, we_lam0, we_hcall, wa_nil, wa_cons, waa_nil, waa_cons, wg_tn, wg_tt, wg_tsub, wgs_nil, wgs_cons, gsNil_nil, wi_iv, wi_ir1, wi_ir2, wi_ien, wi_izip, wi_izl, ws_asg, ws_par, ws_ex, ws_ret, ws_retN, ws_pass, ws_brk, ws_iff, ws_forr, ws_raise, wss_nil, wss_cons, wtru_eq, wp_ok, wp_exc, wp_oth_some, wea_k, wea_g, wea_tup, wea_lst, wea_bin, wea_neg, wea_not, wea_cmp, wea_chain, wea_and, wea_or, wea_ite, wea_idx, wea_sl, wea_call, wea_prim, wea_meth, wea_isi, wea_comp, slotD_z, slotD_s, slotA_z, slotA_s, newTup0, newTup1, newTup2, newTup3, newTup4, tr_non, tr_bl, tr_int, tr_tup, len_tup, atI0, atI1, idx_tup, it_tup, un_tup, int_of, lt_int, le_int, gt_int, ge_int, cmp_eq, cmp_ne, cmp_is, cmp_isnot, eqD_int, eqD_bl, lt_tup, List.set_cons_succ, List.set_cons_zero, startD, List.map_cons, List.map_nil, List.length_cons, List.length_nil, Nat.zero_add, Nat.reduceAdd, Nat.reduceSub, Nat.sub_self, List.replicate_succ, List.replicate_zero, List.cons_append, List.nil_append, Option.map_some, Kst.d, if_true, if_false, Bool.false_eq_true, wp_add_int, wp_sub_int, isiA, calA, hs.len, min2_int, max2_int]
  have hj : ∃ j : Int, (if (if (2 : Int) < ns.length then 2 else (ns.length : Int)) > 1 then (if (2 : Int) < ns.length then 2 else (ns.length : Int)) else 1) = j ∧ 0 ≤ j ∧ j < 1000 := ⟨_, rfl, by split <;> split <;> omega, by split <;> split <;> omega⟩
  obtain ⟨j, ej, j0, j1⟩ := hj
  simp -implicitDefEqProofs only [ej, rng_lit j0 j1, wpS_sbnd, we_k, we_g, we_gf, we_v, wea_v, we_tup, we_lst, we_bin, we_neg, we_not, we_cmp, we_chain, we_and, we_or, we_ite, we_idx, we_sl, wt_no, wt_v, wt_k, wt_bin, wt_neg, wt_idx, we_callG, we_prim, we_meth, we_isi, we_comp, wea_gf, wea_lam0, wea_lam1, we_lam0, we_hcall, wa_nil, wa_cons, waa_nil, waa_cons, wg_tn, wg_tt, wg_tsub, wgs_nil, wgs_cons, gsNil_nil, wi_iv, wi_ir1, wi_ir2, wi_ien, wi_izip, wi_izl, ws_asg, ws_par, ws_ex, ws_ret, ws_retN, ws_pass, ws_brk, ws_iff, ws_forr, ws_raise, wss_nil, wss_cons, wtru_eq, wp_ok, wp_exc, wp_oth_some, wea_k, wea_g, wea_tup, wea_lst, wea_bin, wea_neg, wea_not, wea_cmp, wea_chain, wea_and, wea_or, wea_ite, wea_idx, wea_sl, wea_call, wea_prim, wea_meth, wea_isi, wea_comp, slotD_z, slotD_s, slotA_z, slotA_s, newTup0, newTup1, newTup2, newTup3, newTup4, tr_non, tr_bl, tr_int, tr_tup, len_tup, atI0, atI1, idx_tup, it_tup, un_tup, int_of, lt_int, le_int, gt_int, ge_int, cmp_eq, cmp_ne, cmp_is, cmp_isnot, eqD_int, eqD_bl, lt_tup, List.set_cons_succ, List.set_cons_zero, startD, List.map_cons, List.map_nil, List.length_cons, List.length_nil, Nat.zero_add, Nat.reduceAdd, Nat.reduceSub, Nat.sub_self, List.replicate_succ, List.replicate_zero, List.cons_append, List.nil_append, Option.map_some, Kst.d, if_true, if_false, Bool.false_eq_true, wp_add_int, wp_sub_int, isiA, calA]
  refine loop_rng (J := fun i ρ st' => ρ.length = 15 ∧ ρ[0]? = some (some (.d scr)) ∧ IsScr st' scr ns) (fun i ρ st' hi ⟨g1, g2, g3⟩ => ?_) (fun ρ st' ⟨g1, g2, g3⟩ => ?_) 3000 0 _ _ (Nat.zero_le _) (by omega) ⟨rfl, rfl, hs⟩
  · obtain ⟨y, x1, x3, x4, x5, x6, x7, x8, x9, x10, x11, x12, x13, x14, rfl⟩ := slots_of g1 g2
    simp -implicitDefEqProofs only [wpS_sbnd, we_k, we_g, we_gf, we_v, wea_v, we_tup, we_lst, we_bin, we_neg, we_not, we_cmp, we_chain, we_and, we_or, we_ite, we_idx, we_sl, wt_no, wt_v, wt_k, wt_bin, wt_neg, wt_idx, we_callG, we_prim, we_meth, we_isi, we_comp, wea_gf, wea_lam0, wea_lam1, we_lam0, we_hcall, wa_nil, wa_cons, waa_nil, waa_cons, wg_tn, wg_tt, wg_tsub, wgs_nil, wgs_cons, gsNil_nil, wi_iv, wi_ir1, wi_ir2, wi_ien, wi_izip, wi_izl, ws_asg, ws_par, ws_ex, ws_ret, ws_retN, ws_pass, ws_brk, ws_iff, ws_forr, ws_raise, wss_nil, wss_cons, wtru_eq, wp_ok, wp_exc, wp_oth_some, wea_k, wea_g, wea_tup, wea_lst, wea_bin, wea_neg, wea_not, wea_cmp, wea_chain, wea_and, wea_or, wea_ite, wea_idx, wea_sl, wea_call, wea_prim, wea_meth, wea_isi, wea_comp, slotD_z, slotD_s, slotA_z, slotA_s, newTup0, newTup1, newTup2, newTup3, newTup4, tr_non, tr_bl, tr_int, tr_tup, len_tup, atI0, atI1, idx_tup, it_tup, un_tup, int_of, lt_int, le_int, gt_int, ge_int, cmp_eq, cmp_ne, cmp_is, cmp_isnot, eqD_int, eqD_bl, lt_tup, List.set_cons_succ, List.set_cons_zero, startD, List.map_cons, List.map_nil, List.length_cons, List.length_nil, Nat.zero_add, Nat.reduceAdd, Nat.reduceSub, Nat.sub_self, List.replicate_succ, List.replicate_zero, List.cons_append, List.nil_append, Option.map_some, Kst.d, if_true, if_false, Bool.false_eq_true, wp_add_int, wp_sub_int, isiA, calA]
    refine w_source (n := 79) g3 (by omega) (by omega) fun a b a0 b0 b1 => ?_
    simp -implicitDefEqProofs only [wpS_sbnd, we_k, we_g, we_gf, we_v, wea_v, we_tup, we_lst, we_bin, we_neg, we_not, we_cmp, we_chain, we_and, we_or, we_ite, we_idx, we_sl, wt_no, wt_v, wt_k, wt_bin, wt_neg, wt_idx, we_callG, we_prim, we_meth, we_isi, we_comp, wea_gf, wea_lam0, wea_lam1, we_lam0, we_hcall, wa_nil, wa_cons, waa_nil, waa_cons, wg_tn, wg_tt, wg_tsub, wgs_nil, wgs_cons, gsNil_nil, wi_iv, wi_ir1, wi_ir2, wi_ien, wi_izip, wi_izl, ws_asg, ws_par, ws_ex, ws_ret, ws_retN, ws_pass, ws_brk, ws_iff, ws_forr, ws_raise, wss_nil, wss_cons, wtru_eq, wp_ok, wp_exc, wp_oth_some, wea_k, wea_g, wea_tup, wea_lst, wea_bin, wea_neg, wea_not, wea_cmp, wea_chain, wea_and, wea_or, wea_ite, wea_idx, wea_sl, wea_call, wea_prim, wea_meth, wea_isi, wea_comp, slotD_z, slotD_s, slotA_z, slotA_s, newTup0, newTup1, newTup2, newTup3, newTup4, tr_non, tr_bl, tr_int, tr_tup, len_tup, atI0, atI1, idx_tup, it_tup, un_tup, int_of, lt_int, le_int, gt_int, ge_int, cmp_eq, cmp_ne, cmp_is, cmp_isnot, eqD_int, eqD_bl, lt_tup, List.set_cons_succ, List.set_cons_zero, startD, List.map_cons, List.map_nil, List.length_cons, List.length_nil, Nat.zero_add, Nat.reduceAdd, Nat.reduceSub, Nat.sub_self, List.replicate_succ, List.replicate_zero, List.cons_append, List.nil_append, Option.map_some, Kst.d, if_true, if_false, Bool.false_eq_true, wp_add_int, wp_sub_int, isiA, calA, rng_lit (show (0 : Int) ≤ 2 by decide) (by decide)]
    refine loop_rng (J := fun i ρ st1 => Slots scr (some (.d (.loc st'.length))) ρ ∧ Src st'.length st1 ∧ Scr st'.length st1 scr ns) (fun i ρ st1 hi ⟨q1, q2, q3⟩ => ?_) (fun ρ st1 ⟨q1, q2, q3⟩ => ?_) 3000 0 _ _ (Nat.zero_le _) (by decide) ⟨⟨_, _, _, _, _, _, _, _, _, _, _, _, _, rfl⟩, ⟨a, b, listAt_new _ _, a0, b0, b1⟩, g3.scr⟩
    · obtain ⟨x1, x3, x4, x5, x6, x7, x8, x9, x10, x11, x12, x13, x14, rfl⟩ := q1
      simp -implicitDefEqProofs only [wpS_sbnd, we_k, we_g, we_gf, we_v, wea_v, we_tup, we_lst, we_bin, we_neg, we_not, we_cmp, we_chain, we_and, we_or, we_ite, we_idx, we_sl, wt_no, wt_v, wt_k, wt_bin, wt_neg, wt_idx, we_callG, we_prim, we_meth, we_isi, we_comp, wea_gf, wea_lam0, wea_lam1, we_lam0, we_hcall, wa_nil, wa_cons, waa_nil, waa_cons, wg_tn, wg_tt, wg_tsub, wgs_nil, wgs_cons, gsNil_nil, wi_iv, wi_ir1, wi_ir2, wi_ien, wi_izip, wi_izl, ws_asg, ws_par, ws_ex, ws_ret, ws_retN, ws_pass, ws_brk, ws_iff, ws_forr, ws_raise, wss_nil, wss_cons, wtru_eq, wp_ok, wp_exc, wp_oth_some, wea_k, wea_g, wea_tup, wea_lst, wea_bin, wea_neg, wea_not, wea_cmp, wea_chain, wea_and, wea_or, wea_ite, wea_idx, wea_sl, wea_call, wea_prim, wea_meth, wea_isi, wea_comp, slotD_z, slotD_s, slotA_z, slotA_s, newTup0, newTup1, newTup2, newTup3, newTup4, tr_non, tr_bl, tr_int, tr_tup, len_tup, atI0, atI1, idx_tup, it_tup, un_tup, int_of, lt_int, le_int, gt_int, ge_int, cmp_eq, cmp_ne, cmp_is, cmp_isnot, eqD_int, eqD_bl, lt_tup, List.set_cons_succ, List.set_cons_zero, startD, List.map_cons, List.map_nil, List.length_cons, List.length_nil, Nat.zero_add, Nat.reduceAdd, Nat.reduceSub, Nat.sub_self, List.replicate_succ, List.replicate_zero, List.cons_append, List.nil_append, Option.map_some, Kst.d, if_true, if_false, Bool.false_eq_true, wp_add_int, wp_sub_int, isiA, calA]
      exact w_turn (by decide) (by decide) q2 q3 ⟨_, _, _, _, _, _, _, _, _, _, _, _, _, rfl⟩ fun ρ2 st2 t1 t2 t3 => ⟨t1, t2, t3⟩
    · obtain ⟨x1, x3, x4, x5, x6, x7, x8, x9, x10, x11, x12, x13, x14, rfl⟩ := q1
      try simp -implicitDefEqProofs only [wpS_sbnd, we_k, we_g, we_gf, we_v, wea_v, we_tup, we_lst, we_bin, we_neg, we_not, we_cmp, we_chain, we_and, we_or, we_ite, we_idx, we_sl, wt_no, wt_v, wt_k, wt_bin, wt_neg, wt_idx, we_callG, we_prim, we_meth, we_isi, we_comp, wea_gf, wea_lam0, wea_lam1, we_lam0, we_hcall, wa_nil, wa_cons, waa_nil, waa_cons, wg_tn, wg_tt, wg_tsub, wgs_nil, wgs_cons, gsNil_nil, wi_iv, wi_ir1, wi_ir2, wi_ien, wi_izip, wi_izl, ws_asg, ws_par, ws_ex, ws_ret, ws_retN, ws_pass, ws_brk, ws_iff, ws_forr, ws_raise, wss_nil, wss_cons, wtru_eq, wp_ok, wp_exc, wp_oth_some, wea_k, wea_g, wea_tup, wea_lst, wea_bin, wea_neg, wea_not, wea_cmp, wea_chain, wea_and, wea_or, wea_ite, wea_idx, wea_sl, wea_call, wea_prim, wea_meth, wea_isi, wea_comp, slotD_z, slotD_s, slotA_z, slotA_s, newTup0, newTup1, newTup2, newTup3, newTup4, tr_non, tr_bl, tr_int, tr_tup, len_tup, atI0, atI1, idx_tup, it_tup, un_tup, int_of, lt_int, le_int, gt_int, ge_int, cmp_eq, cmp_ne, cmp_is, cmp_isnot, eqD_int, eqD_bl, lt_tup, List.set_cons_succ, List.set_cons_zero, startD, List.map_cons, List.map_nil, List.length_cons, List.length_nil, Nat.zero_add, Nat.reduceAdd, Nat.reduceSub, Nat.sub_self, List.replicate_succ, List.replicate_zero, List.cons_append, List.nil_append, Option.map_some, Kst.d, if_true, if_false, Bool.false_eq_true, wp_add_int, wp_sub_int, isiA, calA]
      refine loop_tup (fun r ρ st2 => ρ.length = 15 ∧ ρ[0]? = some (some (.d scr)) ∧ IsScr st2 scr ns ∧ ∀ d ∈ r, (∀ s, shD s d = d) ∧ isNext 15 ((den 3000 (callN prog 3000 40) call1).s (e9 d) []) = true ∧ isNext 15 ((den 3000 (callN prog 3000 40) call2).s (e9 d) []) = true) (by show 3 < 3000; decide) ⟨rfl, rfl, q3.is, ?_⟩ (fun d r ρ st2 ⟨t1, t2, t3, t4⟩ => ?_) (fun ρ st2 ⟨t1, t2, t3, t4⟩ => ?_)
      · intro d hd
        simp only [List.mem_cons, List.not_mem_nil, or_false] at hd
        rcases hd with e | e | e <;> subst e
        · exact ⟨fun s => rfl, cl_a1, cl_b1⟩
        · exact ⟨fun s => rfl, cl_a2, cl_b2⟩
        · exact ⟨fun s => rfl, cl_a3, cl_b3⟩
      · obtain ⟨u1, u2, u3⟩ := t4 d List.mem_cons_self
        simp only [wpS_sbnd, wg_tn]
        refine w_calls (is := []) (scr := scr) (d := d) (by decide) (by decide) (by simpa using t1) ?_ ?_ (u1 _) u1 u2 u3 fun ρ3 st3 l3 z3 x3 => ⟨l3, z3, t3.ex x3, fun d hd => t4 d (List.mem_cons_of_mem _ hd)⟩
        · rw [List.getElem?_set_ne (by decide)]
          exact t2
        · rw [List.getElem?_set_self (by omega)]
      · refine ws_keep [0] t1 (by decide) (by decide) rfl cl_c fun ρ3 st3 l3 z3 x3 => ?_
        exact ⟨l3, z3 0 (by simp) _ t2, t3.ex x3⟩
  · exact w_tail (by decide) (by decide) g1 hQ
theorem law_pure (ns : List Int) (a : A) (st : Store) (h : ScrAt ns a st) : ∃ st', callN prog 3000 81 (.d (.fn 30)) [a] st = .ok (.bl true) st' := by
  have go : ∀ scr, IsScr st scr ns → ∃ st', callN prog 3000 81 (.d (.fn 30)) [.d scr] st = .ok (.bl true) st' := fun scr hs => by
    obtain ⟨d, st', e, rfl⟩ := wp_get (Q := fun d _ => d = .bl true) (w_law hs fun _ => rfl)
    exact ⟨st', e⟩
  rcases h with ⟨rfl, rfl⟩ | ⟨rfl, rfl⟩
  · exact go _ (.inl rfl)
  · exact go _ (.inr ⟨0, rfl, rfl⟩)
end
end K01

set_option Elab.async false
set_option linter.all false
set_option maxRecDepth 100000
set_option maxHeartbeats 0
namespace K01
open PySem PySem.Spec PyProof.Rows L2 PF
theorem look : txt.lookB R.prog = true := by decide +kernel
end K01

set_option Elab.async false
set_option linter.all false
set_option maxRecDepth 100000
set_option maxHeartbeats 0
namespace K01
open PySem PySem.Spec PyProof.Rows L2 PF
def nm0 : List Str := [(Str.ofString "NestError"), (Str.ofString "InvalidNesting"), (Str.ofString "InvalidKind"), (Str.ofString "InvalidStep"), (Str.ofString "InvalidScript"), (Str.ofString "InvalidNumber"), (Str.ofString "InvalidPath"), (Str.ofString "InvalidSign"), (Str.ofString "InvalidBook"), (Str.ofString "InvalidFacts"), (Str.ofString "InvalidText"), (Str.ofString "Impossible"), (Str.ofString "Unlike"), (Str.ofString "NothingToUndo"), (Str.ofString "TooMany"), (Str.ofString "BOXES"), (Str.ofString "DEEP"), (Str.ofString "is_whole"), (Str.ofString "shape_of"), (Str.ofString "has_nesting"), (Str.ofString "boxes_in"), (Str.ofString "depth_of"), (Str.ofString "key_of"), (Str.ofString "need_stands"), (Str.ofString "need_nesting"), (Str.ofString "is_nesting"), (Str.ofString "boxes"), (Str.ofString "depth"), (Str.ofString "ahead"), (Str.ofString "_law_source")]
def nm1 : List Str := [(Str.ofString "_law_draw"), (Str.ofString "_law_choice"), (Str.ofString "_law_from"), (Str.ofString "_law_truly"), (Str.ofString "_law_names"), (Str.ofString "_law_error"), (Str.ofString "_law_refused"), (Str.ofString "_law_size"), (Str.ofString "_law_deep"), (Str.ofString "_law_nesting"), (Str.ofString "_law_put_in"), (Str.ofString "_law_rows"), (Str.ofString "_law_key"), (Str.ofString "_law_bad_nestings"), (Str.ofString "_law_good"), (Str.ofString "_law_is_nesting"), (Str.ofString "_law_bent")]
def loose : List Str := nm0 ++ nm1
abbrev hk : PySem.W.Hook := He.hookX 5 txt.fa (txt.fn R.prog) [] txt.tf txt.ex
def ob (s : PySem.W.SharedT) : He.AlX := He.obsX 5 txt.fa (txt.fn R.prog) [] txt.tf txt.ex (HandSHeadRun.getT s)
theorem ob_eq (s : PySem.W.SharedT) : ob s = hk.obs s.abs := He.obsX_eq (HandSHeadRun.getT_eq s)
theorem run (w : World) : HandSHeadRun.RunEq R (PySem.W.view R.prog [50]) hk ob 40000 loose w := by
  intro os
  kernel_rfl
end K01

set_option Elab.async false
set_option linter.all false
set_option maxRecDepth 100000
set_option maxHeartbeats 0
namespace K01
open PySem PySem.Spec PyProof.Rows L2 PF
def lawT : Str × Nat × List Str × Bool := ((Str.ofString "law"), 50, n_law, true)
theorem at_law {w : World} {mg : Str → Option Value} {fa : Addr} {h : Heap} {K : PySem.W.Frag} (KX : K.In h) (G : h.Ns mainGlobals mg) (c : He.SaysX txt.fa (txt.fn R.prog) [] txt.tf txt.ex w h K) (hmg : mg (Str.ofString "law") = some (.ref fa)) :
    LamX.LawAtS PySem.Challenge.rw_nestkinds_k01_nestings_recognized_and_or w K (L2N.CX R.prog w) 81 63 (Str.ofString "_law_script") mg fa h := by
  have hix : txt.dts[30]? = some lawT := rfl
  have e := hmg.symm.trans (He.glo_ok KX G (c.t.d.facts (List.mem_append_left _ (List.mem_map.mpr ⟨lawT, List.mem_of_getElem? hix, rfl⟩))))
  cases e
  exact law_at (t := txt) (W := 3000) (n := 80) (ix := 30) (p := lawT) rfl KX G c look hix (by decide) (by kernel_rfl) (by kernel_rfl) fun ns a st _ _ hs => law_pure ns a st hs
end K01
open PySem PySem.W PySem.Calls PyProof.Rows
theorem PySem.Challenge.cw_nestkinds_k01_nestings_recognized_and_or_holds : PySem.Challenge.rw_nestkinds_k01_nestings_recognized_and_or.Holds := by
  w_on; o_law
  refine HandSHeadRun.head_any (r := OpenLaw.row PySem.Challenge.rw_nestkinds_k01_nestings_recognized_and_or) (q := view (OpenLaw.row PySem.Challenge.rw_nestkinds_k01_nestings_recognized_and_or).prog [50]) (H := K01.hk) (ob := K01.ob) (M := 40000) (loose := K01.loose) (d := HandSHeadRun.topDef (OpenLaw.row PySem.Challenge.rw_nestkinds_k01_nestings_recognized_and_or).prog 50) (kwd := []) K01.ob_eq
    (by kernel_rfl) (fun s => by kernel_rfl) K01.run (by kernel_rfl) (by kernel_rfl) (by kernel_rfl) (by rfl) (by first | assumption | decide +kernel) (by decide +kernel) ⟨rfl, rfl, rfl, rfl, rfl, by decide +kernel⟩ ?hw ?hc
  case hw => w_witness2
  case hc =>
    refine LamX.walk_ofTsE (l := PySem.Challenge.rw_nestkinds_k01_nestings_recognized_and_or) (n := 63) (k := 81) (x := (PySem.Str.ofString "_law_script")) (CX := fun w => L2N.CX K01.R.prog w) rfl (by decide) (by kernel_rfl) ⟨rfl, by decide, by decide⟩ ?F (fun _ _ _ _ _ z => by
      obtain ⟨_, _, _, _, _, _, _, _, _, _, _, _, f⟩ := z
      exact f)
    intro w mg fa h Y G hmg0
    obtain ⟨K, KX, c⟩ := Y
    have e : (HandSHeadRun.topDef (OpenLaw.row PySem.Challenge.rw_nestkinds_k01_nestings_recognized_and_or).prog 50).name = (PySem.Str.ofString "law") := by kernel_rfl
    rw [e] at hmg0
    exact ⟨K, KX, K01.at_law KX G c hmg0⟩
