import PyProof.Rows.All
import Wide.All
import OpenK.AllK
import Wide.FinOn
import PySem.Challenge.RW_crewshares_k66_whole_crossings_both_ways
import HandS.ForMost
import HandS.ForExc
import KE.SortData
import HandS.Style
import HandS.Wide
import HandS.Deep
import HandS.More
import HandS.SortInts
import HandS.Iter
import HandS.Walk
import HandS.RaiseMore
import HandS.IsInst
import HandS.Small
import HandS.Conv
import KE.KSortedM
import HandS.Flow
import HandS.ExcCtx
import HandS.CallSlots
import HandS.TryOnly
import HandS.ExcIs
import KE.RegKIsAll
import HandS.WordsExc
import HandS.TryMany
import HandS.HotCalls
import HandS.Defaults
import HandS.Ends
import HandS.Rev
import HandS.SetBool
import HandS.SetKeys
import HandS.Strs
import HandS.TupSets
import PyProof.SeqIndex
import KE.KDictDisplayH
set_option Elab.async false
set_option linter.all false
set_option maxRecDepth 100000
/-! MP: a small language of slots and its evaluator. Values are PyData; a cell is what a slot holds: data (frozen, shared at will) or a list or dict that the slot owns. -/
namespace MP
open PySem

abbrev D := PyData
inductive Cell where
  | val (d : D)
  | lst (ds : List D)
  | dic (kvs : List (D × D))
  | obj (c : Nat) (fs : List (Nat × Cell))
  | exn (x : Nat) (p : D)
/-- fr: the frame's own; pin: lent to change; ro: lent to read -/
inductive Mode where
  | fr | pin | ro
  deriving DecidableEq
abbrev Env := List (Option (Mode × Cell))
inductive Res where
  | val (d : D)
  | bor (i : Nat)
  | tmp (c : Cell)
inductive R (A : Type) where
  | ok (a : A) (s : Env)
  | ex (x : Nat) (p : D) (s : Env)
  | stk
@[inline] def R.bind {A B : Type} (r : R A) (f : A → Env → R B) : R B := match r with
  | .ok a s => f a s
  | .ex x p s => .ex x p s
  | .stk => .stk
def R.opt {A : Type} (o : Option A) (s : Env) : R A := match o with
  | some a => .ok a s
  | none => .stk

def Cell.d? : Cell → Option D
  | .val d => some d
  | .lst ds => some (.list ds)
  | .dic kvs => some (.dict kvs)
  | _ => none
/-- what a result holds -/
def look (s : Env) : Res → Option D
  | .val d => some d
  | .bor i => match s[i]? with
    | some (some (_, c)) => c.d?
    | _ => none
  | .tmp c => c.d?
/-- an operand that waits for another one: a fresh thing is frozen -/
def hold : Res → Option Res
  | .tmp c => c.d?.map .val
  | r => some r
/-- as shared data -/
def frz (s : Env) : Res → Option (D × Env)
  | .val d => some (d, s)
  | .tmp c => c.d?.map fun d => (d, s)
  | .bor i => match s[i]? with
    | some (some (.fr, c)) => c.d?.map fun d => (d, s.set i (some (.fr, .val d)))
    | _ => none

/-! ### operations on data -/
inductive BOp where
  | add | sub | mul | fdiv | mod | pow
inductive COp where
  | eq | ne | lt | le | gt | ge | isin | notin | is | isnt
inductive Ty where
  | int | bool | str | list | tuple
inductive Blt where
  | len | abs | int | str | repr | list | tuple | sorted | sum | min | max | bool
/-- what a library function or a method gives of its arguments (the object first) -/
inductive Lib where
  | lrng | lrev | tuple | bool | index | repr | join | count | slen | ssort | slenT | sortD | sortK | ssortT
inductive Mut where
  | append | extend | insert | pop | reverse | remove
inductive IK where
  | seq | rng | rev | dwn

def big : Nat := 16777216
def mulOk (a b : Int) : Bool := decide (a.natAbs < 2 ^ 64) || decide (b.natAbs < 2 ^ 64) || (decide (a.natAbs < 2 ^ 4000) && decide (b.natAbs < 2 ^ 4000))
def divOk (b : Int) : Bool := decide (0 < b) && decide (b.natAbs < 2 ^ 8000)
def binF : BOp → D → D → Option Res
  | .add, .int a, .int b => some (.val (.int (a + b)))
  | .add, .str a, .str b => if a.length + b.length ≤ big then some (.val (.str (a ++ b))) else none
  | .add, .list a, .list b => if a.length + b.length ≤ big then some (.tmp (.lst (a ++ b))) else none
  | .sub, .int a, .int b => some (.val (.int (a - b)))
  | .mul, .int a, .int b => if mulOk a b = true then some (.val (.int (a * b))) else none
  | .mul, .list a, .int b => if a.length * b.toNat ≤ big ∧ b.natAbs < 2 ^ 62 then some (.tmp (.lst (List.replicate b.toNat a).flatten)) else none
  | .fdiv, .int a, .int b => if divOk b = true then some (.val (.int (a / b))) else none
  | .mod, .int a, .int b => if 0 < b then some (.val (.int (a % b))) else none
  | .pow, .int a, .int b => if 0 ≤ b ∧ b ≤ 1000 ∧ a.natAbs < 2 ^ 64 then some (.val (.int (a ^ b.toNat))) else none
  | _, _, _ => none
/-- is one sign in a text -/
def signIn (x z : Str) : Option Bool := match x.cps.toList with
  | [c] => some (decide (c ∈ z.cps.toList))
  | _ => none
def eqF (a b : D) : Option Bool := if SeqAt.shaped a = true ∧ SeqAt.shaped b = true then some (PyData.eqv a b) else none
def flatD : D → Bool
  | .none | .bool _ | .int _ | .str _ => true
  | _ => false
def keyD : D → Option (Sum Int Str)
  | .int i => some (.inl i)
  | .str x => some (.inr x)
  | _ => none
/-! dicts whose keys are ints and texts, or tuples of such -/
def keysA : List D → Option (List (Sum Int Str))
  | [] => some []
  | d :: r => (keyD d).bind fun k => (keysA r).map (k :: ·)
def keyT : D → Option (List (Sum Int Str))
  | .tuple ds => keysA ds
  | _ => none
def dFind (kvs : List (D × D)) (z : Sum Int Str) : Option D := (kvs.find? fun p => decide (keyD p.1 = some z)).map (·.2)
def dFindT (kvs : List (D × D)) (z : List (Sum Int Str)) : Option D := (kvs.find? fun p => decide (keyT p.1 = some z)).map (·.2)
def kindK (kvs : List (D × D)) : Bool := kvs.all fun p => (keyD p.1).isSome
def kindT (kvs : List (D × D)) : Bool := kvs.all fun p => (keyT p.1).isSome
def dGetF (kvs : List (D × D)) (k : D) : Option (Option D) := if kindK kvs = true then (keyD k).map (dFind kvs) else if kindT kvs = true then (keyT k).map (dFindT kvs) else none
def dPut (kvs : List (D × D)) (k v : D) (z : Sum Int Str) : List (D × D) := if (kvs.any fun p => decide (keyD p.1 = some z)) = true then kvs.map fun p => if keyD p.1 = some z then (p.1, v) else p else kvs ++ [(k, v)]
def dPutT (kvs : List (D × D)) (k v : D) (z : List (Sum Int Str)) : List (D × D) := if (kvs.any fun p => decide (keyT p.1 = some z)) = true then kvs.map fun p => if keyT p.1 = some z then (p.1, v) else p else kvs ++ [(k, v)]
def dPutF (kvs : List (D × D)) (k v : D) : Option (List (D × D)) := if kvs.length < big ∧ kindK kvs = true then (keyD k).map (dPut kvs k v) else if kvs.length < big ∧ kindT kvs = true then (keyT k).map (dPutT kvs k v) else none
def inF (x : D) : D → Option Bool
  | .str z => match x with
    | .str y => signIn y z
    | _ => none
  | .list ds => if SeqAt.shaped x = true ∧ SeqAt.shaped (.list ds) = true then some (ds.any fun z => PyData.eqv z x) else none
  | .tuple ds => if flatD x = true ∧ ds.all flatD = true ∧ SeqAt.shaped x = true ∧ SeqAt.shaped (.tuple ds) = true then some (ds.any fun z => PyData.eqv z x) else none
  | .dict kvs => (dGetF kvs x).map (·.isSome)
  | _ => none
def cmpF : COp → D → D → Option Bool
  | .eq, a, b => eqF a b
  | .ne, a, b => (eqF a b).map (!·)
  | .lt, .int a, .int b => some (decide (a < b))
  | .le, .int a, .int b => some (decide (a ≤ b))
  | .gt, .int a, .int b => some (decide (b < a))
  | .ge, .int a, .int b => some (decide (b ≤ a))
  | .isin, a, b => inF a b
  | .notin, a, b => (inF a b).map (!·)
  | .is, .bool a, .bool b => some (decide (a = b))
  | .isnt, .bool a, .bool b => some (!decide (a = b))
  | _, _, _ => none
def truthF : D → Option Bool
  | .none => some false
  | .bool b => some b
  | .int i => some (i != 0)
  | .str s => if s.length ≤ big then some ((s.length : Int) != 0) else none
  | .list ds => some (!ds.isEmpty)
  | .tuple ds => some (!ds.isEmpty)
  | .dict _ => none
def isTy : Ty → D → Bool
  | .int, .int _ => true
  | .int, .bool _ => true
  | .bool, .bool _ => true
  | .str, .str _ => true
  | .list, .list _ => true
  | .tuple, .tuple _ => true
  | _, _ => false
def isNone : D → Bool
  | .none => true
  | _ => false
/-- all ints -/
def intsF : List D → Option (List Int)
  | [] => some []
  | .int i :: r => (intsF r).map (i :: ·)
  | _ => none
def strsF : List D → Option (List Str)
  | [] => some []
  | .str i :: r => (strsF r).map (i :: ·)
  | _ => none
def insI (x : Int) : List Int → List Int
  | [] => [x]
  | y :: r => if x ≤ y then x :: y :: r else y :: insI x r
def sortI : List Int → List Int
  | [] => []
  | x :: r => insI x (sortI r)
def maxI : List Int → Option Int
  | [] => none
  | x :: r => some (match maxI r with
    | some y => if x < y then y else x
    | none => x)
def minI : List Int → Option Int
  | [] => none
  | x :: r => some (match minI r with
    | some y => if y < x then y else x
    | none => x)
def seqF : D → Option (List D)
  | .list ds => some ds
  | .tuple ds => some ds
  | _ => none
def bltF : Blt → List D → Option Res
  | .len, [.list ds] => some (.val (.int ds.length))
  | .len, [.tuple ds] => some (.val (.int ds.length))
  | .len, [.str s] => if s.length ≤ big then some (.val (.int s.length)) else none
  | .abs, [.int i] => some (.val (.int (if i < 0 then -i else i)))
  | .int, [.int i] => some (.val (.int i))
  | .int, [.bool b] => some (.val (.int (if b then 1 else 0)))
  | .str, [.int i] => if i.natAbs < 2 ^ 1900 then some (.val (.str (toString i))) else none
  | .str, [.str s] => some (.val (.str s))
  | .list, [.list ds] => some (.tmp (.lst ds))
  | .list, [.tuple ds] => some (.tmp (.lst ds))
  | .bool, [.list ds] => some (.val (.bool (!ds.isEmpty)))
  | .tuple, [.list ds] => some (.val (.tuple ds))
  | .sorted, [.list ds] => (intsF ds).map fun ns => .tmp (.lst ((sortI ns).map .int))
  | .sum, [.list ds] => (intsF ds).map fun ns => .val (.int ns.sum)
  | .max, [.int i, .int j] => some (.val (.int (if j > i then j else i)))
  | .min, [.int i, .int j] => some (.val (.int (if j < i then j else i)))
  | .max, [.list ds] => ((intsF ds).bind maxI).map fun m => .val (.int m)
  | .max, [.tuple ds] => ((intsF ds).bind maxI).map fun m => .val (.int m)
  | .min, [.list ds] => ((intsF ds).bind minI).map fun m => .val (.int m)
  | .min, [.tuple ds] => ((intsF ds).bind minI).map fun m => .val (.int m)
  | _, _ => none
/-- the items that a loop takes -/
def itF : IK → List D → Option (List D)
  | .seq, [.list ds] => some ds
  | .seq, [.tuple ds] => some ds
  | .seq, [.str s] => some (s.cps.toList.map fun c => .str ⟨#[c]⟩)
  | .rng, [.int n] => if n.natAbs < 1073741824 then some ((List.range n.toNat).map fun (k : Nat) => .int k) else none
  | .rng, [.int a, .int n] => if n.natAbs < 1073741824 ∧ a.natAbs < 1073741824 then some ((List.range (n - a).toNat).map fun (k : Nat) => .int (a + k)) else none
  | .rev, [.list ds] => some ds.reverse
  | .dwn, [.int a, .int n, .int c] => if n.natAbs < 1073741824 ∧ a.natAbs < 1073741824 ∧ c = -1 then some ((List.range (a - n).toNat).map fun (k : Nat) => .int (a - k)) else none
  | _, _ => none
def atF {A : Type} (xs : List A) (i : Int) : Option A := L2.atI xs i
def idxF : D → D → Option D
  | .list ds, .int i => L2.atI ds i
  | .tuple ds, .int i => L2.atI ds i
  | .str s, .int i => if s.length ≤ big then (L2.atI s.cps.toList i).map fun c => .str ⟨#[c]⟩ else none
  | _, _ => none
def cutD {A : Type} (xs : List A) (lo hi : Option Int) : List A := (xs.drop (HT.sIx xs.length 0 lo)).take (HT.sIx xs.length xs.length hi - HT.sIx xs.length 0 lo)
def slcF (d : D) (lo hi : Option Int) : Option Res := match d with
  | .list ds => some (.tmp (.lst (cutD ds lo hi)))
  | .tuple ds => if HT.sIx ds.length 0 lo = 0 ∧ HT.sIx ds.length ds.length hi = ds.length then none else some (.val (.tuple (cutD ds lo hi)))
  | _ => none
/-- a method that changes a list: the answer, the list behind it -/
def mutF : Mut → List D → List D → Option (D × List D)
  | .append, xs, [y] => if xs.length < big then some (.none, xs ++ [y]) else none
  | .extend, xs, [.list ys] => if xs.length + ys.length ≤ big then some (.none, xs ++ ys) else none
  | .pop, xs, [] => xs[xs.length - 1]?.map fun y => (y, xs.dropLast)
  | .insert, xs, [.int i, y] => if xs.length < big ∧ 0 ≤ i ∧ i.natAbs < 1073741824 then some (.none, xs.take i.toNat ++ [y] ++ xs.drop i.toNat) else none
  | _, _, _ => none
def fitL (ds : List D) : Option Res := if ds.length ≤ big then some (.tmp (.lst ds)) else none
/-- without repeats -/
def dst {A : Type} [DecidableEq A] : List A → List A
  | [] => []
  | x :: r => if x ∈ r then dst r else x :: dst r
def intD : D → Option Int
  | .int i => some i
  | _ => none
def tupD : D → Option (List Int)
  | .tuple ds => intsF ds
  | _ => none
def tupsL (ds : List D) : List (List Int) := ds.filterMap tupD
def keysL (ds : List D) : List (Sum Int Str) := ds.filterMap keyD
def intsL (ds : List D) : List Int := ds.filterMap intD
/-- data that can be sorted together -/
def alikeB (ds : List D) : Bool := ds.all fun a => ds.all fun b => PySem.W.alike a b
def tupB : D → Bool
  | .tuple (_ :: _) => true
  | _ => false
def oneB : D → Bool
  | .none => false
  | .tuple _ => false
  | _ => true
/-- sorted, ints or other data -/
def sortDF (ds : List D) : Option Res := match intsF ds with
  | some ns => some (.tmp (.lst ((sortI ns).map .int)))
  | none => if (ds.all fun d => SeqAt.shaped d) = true ∧ alikeB ds = true ∧ (ds.all tupB = true ∨ ds.all oneB = true) ∧ ds.length ≤ big then some (.tmp (.lst (ds.mergeSort (PySem.W.dataLe false id)))) else none
def sortTF (ds : List D) : Option Res := if (ds.all fun d => SeqAt.shaped d) = true ∧ alikeB ds = true ∧ ds.all tupB = true ∧ ds.length ≤ big then some (.tmp (.lst (ds.mergeSort (PySem.W.dataLe false id)))) else none
/-- three ints from 0 to 63 -/
def smallT (k : List Int) : Bool := decide (k.length = 3) && k.all fun i => decide (0 ≤ i) && decide (i < 64)
def code3 : List Int → Int
  | [a, b, c] => a * 4096 + b * 64 + c
  | _ => 0
def sortC (ks : List (List Int)) : List (List Int) := ks.mergeSort fun a b => decide (code3 a ≤ code3 b)
/-- the first place from a on that holds an equal one -/
def ixF (ds : List D) (x : D) (a : Nat) : Option Nat := ((ds.drop a).findIdx? fun z => PyData.eqv z x).map (· + a)
def ixLF : List D → Option Res
  | [.list ds, x] => if SeqAt.shaped (.list ds) = true ∧ SeqAt.shaped x = true ∧ ds.length ≤ big then (ixF ds x 0).map fun k => .val (.int (k : Nat)) else none
  | [.list ds, x, .int a] => if SeqAt.shaped (.list ds) = true ∧ SeqAt.shaped x = true ∧ 0 ≤ a ∧ ds.length ≤ big then (ixF ds x a.toNat).map fun k => .val (.int (k : Nat)) else none
  | _ => none
def libF : Lib → List D → Option Res
  | .index, ds => ixLF ds
  | .sortD, [.list ds] => sortDF ds
  | .sortK, [.dict kvs] => if kindT kvs = true ∧ kvs ≠ [] then sortTF (kvs.map (·.1)) else none
  | .ssortT, [.list ds] => if ((ds.all fun d => (tupD d).isSome) = true ∧ ds.length ≤ 4000 ∧ (dst (tupsL ds)).length < 63) ∧ (dst (tupsL ds)).all smallT = true then some (.tmp (.lst ((sortC (dst (tupsL ds))).map fun k => .tuple (k.map .int)))) else none
  | .lrng, ds => (itF .rng ds).bind fitL
  | .lrev, [.list ds] => some (.tmp (.lst ds.reverse))
  | .tuple, [.list ds] => some (.val (.tuple ds))
  | .tuple, [.tuple ds] => some (.val (.tuple ds))
  | .bool, [d] => (truthF d).map fun b => .val (.bool b)
  | .slen, [.list ds] => if (ds.all fun d => (keyD d).isSome) = true ∧ ds.length ≤ 4000 then some (.val (.int ((dst (keysL ds)).length : Nat))) else none
  | .slenT, [.list ds] => if (ds.all fun d => (tupD d).isSome) = true ∧ ds.length ≤ 4000 ∧ (dst (tupsL ds)).length < 63 then some (.val (.int ((dst (tupsL ds)).length : Nat))) else none
  | .ssort, [.list ds] => if (ds.all fun d => (intD d).isSome) = true ∧ ds.length ≤ 4000 ∧ (dst (intsL ds)).length < 64 then some (.tmp (.lst ((sortI (dst (intsL ds))).map .int))) else none
  | _, _ => none

/-! ### the language -/
inductive Tg where
  | name (i : Nat)
  | tup (is : List Nat)
/-- a name's slot or a constant -/
inductive At where
  | cst (d : D)
  | slot (i : Nat)
inductive E where
  | var (i : Nat)
  | cst (d : D)
  | bin (op : BOp) (a b : E)
  | neg (a : E)
  | cmp (op : COp) (a b : E)
  | cmp2 (o1 o2 : COp) (a b c : E)
  | isN (a : E) (n : Bool)
  | andE (a b : E)
  | orE (a b : E)
  | notE (a : E)
  | ife (c a b : E)
  | list (es : List E)
  | tup (es : List E)
  | idx (a b : E)
  | slc (a : E) (lo hi : Option E)
  | comp (elt : E) (t : Tg) (k : IK) (src : List E) (cnd : Option E) (own : List Nat)
  | comp2 (elt : E) (t1 : Tg) (k1 : IK) (src1 : List E) (t2 : Tg) (k2 : IK) (src2 : List E) (cnd : Option E) (own own2 : List Nat)
  | isi (a : E) (ts : List Ty)
  | blt (f : Blt) (es : List E)
  | lib (f : Lib) (es : List E)
  | meth (f : Lib) (o : E) (es : List E)
  | mut (m : Mut) (i : Nat) (es : List E)
  | call (j : Nat) (es : List E) (ds : List D)
  | dic0
  | dic1 (k v : At)
  | dget (i : Nat) (k : E)
  | dicE (k v : E)
  | compD (elt : E) (t : Tg) (i : Nat) (own : List Nat)

/-- how a parameter is handed in: as data; lent to read; lent to change -/
inductive PM where
  | v | r | i
  deriving DecidableEq
/-- a call's end -/
inductive RC where
  | ok (c : Cell) (out : Option Cell)
  | ex (x : Nat) (p : D) (out : Option Cell)
  | stk
/-- sub x c: is an error of kind x one of c -/
structure Cfg where
  pms : Nat → List PM
  run : Nat → List Cell → RC
  wf : Nat
  sub : Nat → Nat → Bool

def truthR (r : R Res) : R Res := r.bind fun a s => R.opt (((look s a).bind truthF).map fun b => .val (.bool b)) s
def fin (t : Bool) (r : R Res) : R Res := if t then truthR r else r
def boolR : Res → Option Bool
  | .val (.bool b) => some b
  | _ => none
def wipeE (s : Env) : List Nat → Env
  | [] => s
  | i :: is => (wipeE s is).set i none
def restE (s0 s : Env) : List Nat → Env
  | [] => s
  | i :: is => (restE s0 s is).set i (s0[i]?.join)
/-- the slots of a comprehension's own names hold nothing that is owned -/
def plainE (s : Env) (own : List Nat) : Bool := own.all fun i => match s[i]? with
  | some (some (.fr, .val _)) => true
  | some none => true
  | _ => false
def setAll (s : Env) : List Nat → List D → Option Env
  | [], [] => some s
  | i :: is, d :: ds => setAll (s.set i (some (.fr, .val d))) is ds
  | _, _ => none
def bindT (t : Tg) (d : D) (s : Env) : Option Env := match t with
  | .name i => some (s.set i (some (.fr, .val d)))
  | .tup is => match d with
    | .tuple ds => setAll s is ds
    | _ => none
def isTmp : Res → Bool
  | .tmp _ => true
  | _ => false
/-- what a loop walks: a list of the frame's own is frozen; one that is lent to read stands still -/
def srcE (k : IK) (s : Env) (rs : List Res) : Option Env := match k, rs with
  | .rng, _ => some s
  | _, [.bor i] => match s[i]? with
    | some (some (.fr, c)) => c.d?.map fun d => s.set i (some (.fr, .val d))
    | some (some (.ro, _)) => some s
    | _ => none
  | _, _ => some s
def lookAll (s : Env) : List Res → Option (List D)
  | [] => some []
  | r :: rs => (look s r).bind fun d => (lookAll s rs).map (d :: ·)
/-- the loop of a comprehension -/
def compLoop (body : Env → R (Option D)) (t : Tg) : List D → List D → Env → R (List D)
  | [], acc, s => .ok acc s
  | d :: ds, acc, s => match bindT t d s with
    | none => .stk
    | some s1 => (body s1).bind fun o s2 => compLoop body t ds (match o with | some y => acc ++ [y] | none => acc) s2

def freeI (s : Env) (is : List Nat) : Bool := is.all fun i => match s[i]? with
  | some (some (.fr, _)) => true
  | some none => true
  | _ => false
/-- an element of a comprehension, then the slots of its names are empty again -/
def keepR (s : Env) (r : Res) (own : List Nat) : R (Option D) := match frz s r with
  | some (d, s') => if freeI s' own = true then .ok (some d) (wipeE s' own) else .stk
  | none => .stk
/-- the outer loop of a comprehension with two for -/
def compLoop2 (body : List D → Env → R (List D)) (t : Tg) : List D → List D → Env → R (List D)
  | [], acc, s => .ok acc s
  | d :: ds, acc, s => match bindT t d s with
    | none => .stk
    | some s1 => (body acc s1).bind fun acc' s2 => compLoop2 body t ds acc' s2
def emptyI (s : Env) (is : List Nat) : Bool := is.all fun i => match s[i]? with
  | some none => true
  | _ => false
/-- the arguments of a call as cells: the cells, the slot that is lent to change, the frame behind -/
def argCells (s : Env) : List PM → List Res → Option (List Cell × Option Nat × Env)
  | [], [] => some ([], none, s)
  | .v :: ps, r :: rs => match frz s r with
    | some (d, s') => match argCells s' ps rs with
      | some (cs, io, s2) => some (.val d :: cs, io, s2)
      | none => none
    | none => none
  | .r :: ps, .val d :: rs => match argCells s ps rs with
    | some (cs, io, s2) => some (.val d :: cs, io, s2)
    | none => none
  | .r :: ps, .bor i :: rs => match s[i]? with
    | some (some (m, c)) => match argCells (s.set i none) ps rs with
      | some (cs, io, s2) => some (c :: cs, io, s2.set i (some (m, c)))
      | none => none
    | _ => none
  | .i :: ps, .bor i :: rs => match s[i]? with
    | some (some (m, c)) => if m = .ro then none else match argCells (s.set i none) ps rs with
      | some (cs, none, s2) => some (c :: cs, some i, s2.set i (some (m, c)))
      | _ => none
    | _ => none
  | _, _ => none
/-- the lent cell comes back -/
def backIO (s : Env) : Option Nat → Option Cell → Option Env
  | none, none => some s
  | some i, some c => match s[i]? with
    | some (some (m, _)) => some (s.set i (some (m, c)))
    | _ => none
  | _, _ => none
def At.d? (s : Env) : At → Option D
  | .cst d => some d
  | .slot i => match s[i]? with
    | some (some (_, .val d)) => some d
    | _ => none
/-- the dict of a slot -/
def lookD (s : Env) (i : Nat) : Option (List (D × D)) := match s[i]? with
  | some (some (_, .val (.dict kvs))) => some kvs
  | some (some (_, .dic kvs)) => some kvs
  | _ => none
def resOf : Cell → Res
  | .val d => .val d
  | c => .tmp c

mutual
def ev (Γ : Cfg) (t : Bool) : E → Env → R Res
  | .var i, s => fin t (match s[i]? with
    | some (some (_, .val d)) => .ok (.val d) s
    | some (some (_, _)) => .ok (.bor i) s
    | _ => .stk)
  | .cst d, s => fin t (.ok (.val d) s)
  | .bin op a b, s => fin t ((ev Γ false a s).bind fun ra s1 => match hold ra with
    | none => .stk
    | some ra => (ev Γ false b s1).bind fun rb s2 => R.opt ((look s2 ra).bind fun x => (look s2 rb).bind fun y => binF op x y) s2)
  | .neg a, s => fin t ((ev Γ false a s).bind fun ra s1 => match look s1 ra with
    | some (.int i) => .ok (.val (.int (-i))) s1
    | _ => .stk)
  | .cmp op a b, s => (ev Γ false a s).bind fun ra s1 => match hold ra with
    | none => .stk
    | some ra => (ev Γ false b s1).bind fun rb s2 => R.opt (((look s2 ra).bind fun x => (look s2 rb).bind fun y => cmpF op x y).map fun k => .val (.bool k)) s2
  | .cmp2 o1 o2 a b c, s => (ev Γ false a s).bind fun ra s1 => match hold ra with
    | none => .stk
    | some ra => (ev Γ false b s1).bind fun rb s2 => match hold rb with
      | none => .stk
      | some rb => match (look s2 ra).bind fun x => (look s2 rb).bind fun y => cmpF o1 x y with
        | none => .stk
        | some false => .ok (.val (.bool false)) s2
        | some true => (ev Γ false c s2).bind fun rc s3 => R.opt (((look s3 rb).bind fun x => (look s3 rc).bind fun y => cmpF o2 x y).map fun k => .val (.bool k)) s3
  | .isN a n, s => (ev Γ false a s).bind fun ra s1 => R.opt ((look s1 ra).map fun d => .val (.bool (if n then !isNone d else isNone d))) s1
  | .andE a b, s => (ev Γ t a s).bind fun ra s1 => match boolR ra with
    | some true => ev Γ t b s1
    | some false => .ok (.val (.bool false)) s1
    | none => .stk
  | .orE a b, s => (ev Γ t a s).bind fun ra s1 => match boolR ra with
    | some true => .ok (.val (.bool true)) s1
    | some false => ev Γ t b s1
    | none => .stk
  | .notE a, s => if t then (ev Γ true a s).bind fun ra s1 => match boolR ra with
      | some k => .ok (.val (.bool (!k))) s1
      | none => .stk
    else (ev Γ false a s).bind fun ra s1 => match (look s1 ra).bind truthF with
      | some k => .ok (.val (.bool (!k))) s1
      | none => .stk
  | .ife c a b, s => fin t ((ev Γ true c s).bind fun rc s1 => match boolR rc with
    | some true => ev Γ false a s1
    | some false => ev Γ false b s1
    | none => .stk)
  | .list es, s => fin t ((evs Γ es s).bind fun ds s1 => .ok (.tmp (.lst ds)) s1)
  | .tup es, s => fin t ((evs Γ es s).bind fun ds s1 => .ok (.val (.tuple ds)) s1)
  | .idx a b, s => fin t ((ev Γ false a s).bind fun ra s1 => match hold ra with
    | none => .stk
    | some ra => (ev Γ false b s1).bind fun rb s2 => R.opt (((look s2 ra).bind fun x => (look s2 rb).bind fun y => idxF x y).map .val) s2)
  | .slc a lo hi, s => fin t ((ev Γ false a s).bind fun ra s1 => match hold ra with
    | none => .stk
    | some ra => (evo Γ lo s1).bind fun l s2 => (evo Γ hi s2).bind fun h s3 => R.opt ((look s3 ra).bind fun x => slcF x l h) s3)
  | .comp elt tg k src cnd own, s => fin t ((evr Γ src s).bind fun rs s1 => match (lookAll s1 rs).bind (itF k) with
    | none => .stk
    | some items => match srcE k s1 rs with
      | none => .stk
      | some s2 => if plainE s2 own = false ∨ big < items.length then .stk else match compLoop (fun se => match cnd with
          | none => (ev Γ false elt se).bind fun r s' => keepR s' r own
          | some c => (ev Γ true c se).bind fun rc sc => match boolR rc with
            | some true => (ev Γ false elt sc).bind fun r s' => keepR s' r own
            | some false => if freeI sc own = true then .ok none (wipeE sc own) else .stk
            | none => .stk) tg items [] (wipeE s2 own) with
        | .ok acc s3 => .ok (.tmp (.lst acc)) (restE s2 s3 own)
        | _ => .stk)
  | .comp2 elt t1 k1 src1 t2 k2 src2 cnd own own2, s => fin t ((evr Γ src1 s).bind fun rs s1 => match (lookAll s1 rs).bind (itF k1) with
    | none => .stk
    | some items => match srcE k1 s1 rs with
      | none => .stk
      | some s2 => if plainE s2 own = false ∨ big < items.length then .stk else match compLoop2 (fun acc se => (evr Γ src2 se).bind fun rs2 s3 => match (lookAll s3 rs2).bind (itF k2) with
          | none => .stk
          | some items2 => match srcE k2 s3 rs2 with
            | none => .stk
            | some s4 => if emptyI s4 own2 = false ∨ big < acc.length + items2.length then .stk else (compLoop (fun se => match cnd with
                | none => (ev Γ false elt se).bind fun r s' => keepR s' r own2
                | some c => (ev Γ true c se).bind fun rc sc => match boolR rc with
                  | some true => (ev Γ false elt sc).bind fun r s' => keepR s' r own2
                  | some false => if freeI sc own2 = true then .ok none (wipeE sc own2) else .stk
                  | none => .stk) t2 items2 acc s4).bind fun acc' s5 => if freeI s5 own = true then .ok acc' (wipeE s5 own) else .stk) t1 items [] (wipeE s2 own) with
        | .ok acc s3 => .ok (.tmp (.lst acc)) (restE s2 s3 own)
        | _ => .stk)
  | .isi a ts, s => fin t ((ev Γ false a s).bind fun ra s1 => R.opt ((look s1 ra).map fun d => .val (.bool (ts.any fun y => isTy y d))) s1)
  | .blt f es, s => fin t ((evr Γ es s).bind fun rs s1 => R.opt ((lookAll s1 rs).bind (bltF f)) s1)
  | .lib f es, s => fin t ((evr Γ es s).bind fun rs s1 => R.opt ((lookAll s1 rs).bind (libF f)) s1)
  | .meth f o es, s => fin t ((ev Γ false o s).bind fun r s1 => match hold r with
    | none => .stk
    | some r1 => match look s1 r1 with
      | some (.list _) => (evr Γ es s1).bind fun rs s2 => R.opt ((lookAll s2 (r1 :: rs)).bind (libF f)) s2
      | _ => .stk)
  | .mut m i es, s => fin t (match s[i]? with
    | some (some (_, .lst _)) => (evs Γ es s).bind fun ds s1 => match s1[i]? with
      | some (some (md, .lst xs)) => if md = .ro then .stk else match mutF m xs ds with
        | some (d, xs') => .ok (.val d) (s1.set i (some (md, .lst xs')))
        | none => .stk
      | _ => .stk
    | _ => .stk)
  | .call j es ds, s => fin t ((evr Γ es s).bind fun rs s1 => match argCells s1 (Γ.pms j) (rs ++ ds.map .val) with
    | none => .stk
    | some (cs, io, s2) => match Γ.run j cs with
      | .ok c out => match backIO s2 io out with
        | some s3 => .ok (resOf c) s3
        | none => .stk
      | .ex x p out => match backIO s2 io out with
        | some s3 => .ex x p s3
        | none => .stk
      | .stk => .stk)
  | .dic0, s => fin t (.ok (.tmp (.dic [])) s)
  | .dic1 k v, s => fin t (match k.d? s, v.d? s with
    | some dk, some dv => match keyD dk with
      | some _ => .ok (.tmp (.dic [(dk, dv)])) s
      | none => .stk
    | _, _ => .stk)
  | .dicE k v, s => fin t ((ev Γ false k s).bind fun rk s1 => if isTmp rk = true then .stk else (ev Γ false v s1).bind fun rv s2 => match frz s2 rv with
      | none => .stk
      | some (d, s3) => R.opt ((look s3 rk).bind fun dk => (keyT dk).map fun _ => .tmp (.dic [(dk, d)])) s3)
  | .dget i k, s => fin t (match lookD s i with
    | some _ => (ev Γ false k s).bind fun rk s1 => R.opt ((lookD s1 i).bind fun kvs => (look s1 rk).bind fun kk => (dGetF kvs kk).join.map .val) s1
    | none => .stk)
  | .compD elt tg i own, s => fin t (match s[i]? with
    | some (some (.fr, .dic kvs)) => if kindK kvs = true then (if plainE (s.set i (some (.fr, .val (.dict kvs)))) own = false ∨ big < (kvs.map (·.1)).length then .stk else match compLoop (fun se => (ev Γ false elt se).bind fun r s' => keepR s' r own) tg (kvs.map (·.1)) [] (wipeE (s.set i (some (.fr, .val (.dict kvs)))) own) with
        | .ok acc s3 => .ok (.tmp (.lst acc)) (restE (s.set i (some (.fr, .val (.dict kvs)))) s3 own)
        | _ => .stk) else .stk
    | _ => .stk)
/-- items of a display: frozen -/
def evs (Γ : Cfg) : List E → Env → R (List D)
  | [], s => .ok [] s
  | e :: es, s => (ev Γ false e s).bind fun r s1 => match frz s1 r with
    | none => .stk
    | some (d, s2) => (evs Γ es s2).bind fun ds s3 => .ok (d :: ds) s3
/-- arguments: held -/
def evr (Γ : Cfg) : List E → Env → R (List Res)
  | [], s => .ok [] s
  | e :: es, s => (ev Γ false e s).bind fun r s1 => match hold r with
    | none => .stk
    | some r => (evr Γ es s1).bind fun rs s2 => .ok (r :: rs) s2
/-- a part of a slice -/
def evo (Γ : Cfg) : Option E → Env → R (Option Int)
  | none, s => .ok none s
  | some e, s => (ev Γ false e s).bind fun r s1 => match look s1 r with
    | some (.int i) => .ok (some i) s1
    | _ => .stk
end

/-! ### statements -/
/-- what a handler may answer of the error that it holds -/
inductive HE where
  | cst (d : D)
  | isi (c : Nat)
  | andH (a b : HE)
  | ife (c a b : HE)
  | fld
  | one (cs : List Nat) (ns : List Str) (v : Nat) (other : Str)
def hv (sub : Nat → Nat → Bool) (x : Nat) (p : D) : HE → Option D
  | .cst d => some d
  | .isi c => match p with
    | .none => some (.bool (sub x c))
    | _ => none
  | .andH a b => match hv sub x p a with
    | some (.bool true) => hv sub x p b
    | some (.bool false) => some (.bool false)
    | _ => none
  | .ife c a b => match hv sub x p c with
    | some (.bool true) => hv sub x p a
    | some (.bool false) => hv sub x p b
    | _ => none
  | .fld => match p with
    | .none => none
    | p => some p
  | .one cs ns v other => match p with
    | .none => match ((cs.zip ns).filter fun q => sub x q.1).map (·.2) with
      | [n] => some (.str (if sub x v then n else other))
      | _ => some (.str other)
    | _ => none
inductive S where
  | asg (i : Nat) (e : E)
  | asgT (is : List Nat) (e : E) (sw : Bool)
  | asgI (i : Nat) (k e : E)
  | asgD (i : Nat) (k e : E)
  | forD (t : Tg) (i : Nat) (b : List S)
  | mov (i j : Nat)
  | expr (e : E)
  | ret (e : E)
  | retN
  | ite (c : E) (a b : List S)
  | for_ (t : Tg) (k : IK) (src : List E) (b : List S)
  | whl (c : E) (b : List S)
  | raise (x : Nat) (e : E)
  | tryR (b : List S) (c : Nat) (h : HE)          -- except c [as e]: return h
  | tryB (b : List S) (c : Nat) (h : List S)      -- except c: h
  | pass
/-- how a statement ends -/
inductive X where
  | nx (s : Env)
  | ret (c : Cell) (s : Env)
  | ex (x : Nat) (p : D) (s : Env)
  | stk
def R.thenX {A : Type} (r : R A) (f : A → Env → X) : X := match r with
  | .ok a s => f a s
  | .ex x p s => .ex x p s
  | .stk => .stk
def X.seq (r : X) (f : Env → X) : X := match r with
  | .nx s => f s
  | r => r
/-- stored into slot i -/
def asgF (s : Env) (i : Nat) (r : Res) : Option Env := match s[i]? with
  | some (some (.pin, _)) => none
  | some (some (.ro, _)) => none
  | some _ => match r with
    | .val d => some (s.set i (some (.fr, .val d)))
    | .tmp c => some (s.set i (some (.fr, c)))
    | .bor j => (frz s (.bor j)).map fun (d, s') => s'.set i (some (.fr, .val d))
  | none => none
/-- as a def's answer -/
def retF (s : Env) : Res → Option Cell
  | .val d => some (.val d)
  | .tmp c => some c
  | .bor i => match s[i]? with
    | some (some (.fr, c)) => some c
    | _ => none
def Tg.slots : Tg → List Nat
  | .name i => [i]
  | .tup is => is
def loopX (body : Env → X) (t : Tg) : List D → Env → X
  | [], s => .nx s
  | d :: ds, s => if freeI s t.slots = true then match bindT t d s with
      | none => .stk
      | some s1 => (body s1).seq fun s2 => loopX body t ds s2
    else .stk
def whileX (test : Env → R Res) (body : Env → X) : Nat → Env → X
  | 0, _ => .stk
  | n + 1, s => (test s).thenX fun r s1 => match boolR r with
    | some true => (body s1).seq fun s2 => whileX test body n s2
    | some false => .nx s1
    | none => .stk
mutual
def ex1 (Γ : Cfg) : S → Env → X
  | .asg i e, s => (ev Γ false e s).thenX fun r s1 => match asgF s1 i r with
    | some s2 => .nx s2
    | none => .stk
  | .asgT is e sw, s => (ev Γ false e s).thenX fun r s1 => match look s1 r with
    | some (.tuple ds) => if freeI s1 is = true then match (if sw then setAll s1 is.reverse ds.reverse else setAll s1 is ds) with
        | some s2 => .nx s2
        | none => .stk
      else .stk
    | _ => .stk
  | .asgI i k e, s => (evs Γ [e] s).thenX fun ds s1 => match s1[i]? with
    | some (some (_, .lst _)) => (ev Γ false k s1).thenX fun rk s2 => match s2[i]?, look s2 rk, ds with
      | some (some (md, .lst xs)), some (.int j), [d] => if md = .ro then .stk else match L2.ixN xs.length j with
        | some n => .nx (s2.set i (some (md, .lst (xs.set n d))))
        | none => .stk
      | _, _, _ => .stk
    | _ => .stk
  | .asgD i k e, s => (evs Γ [e] s).thenX fun ds s1 => match s1[i]? with
    | some (some (_, .dic _)) => (ev Γ false k s1).thenX fun rk s2 => match s2[i]?, look s2 rk, ds with
      | some (some (md, .dic kvs)), some kk, [d] => if md = .ro then .stk else match dPutF kvs kk d with
        | some kvs' => .nx (s2.set i (some (md, .dic kvs')))
        | none => .stk
      | _, _, _ => .stk
    | _ => .stk
  | .forD tg i b, s => match s[i]? with
    | some (some (.fr, .dic kvs)) => if kindK kvs = true then loopX (fun se => exs Γ b se) tg (kvs.map (·.1)) (s.set i (some (.fr, .val (.dict kvs)))) else .stk
    | _ => .stk
  | .mov i j, s => match s[i]?, s[j]? with
    | some (some (.fr, c)), some (some (.fr, .dic kvs)) => if i = j then .stk else .nx ((s.set j none).set i (some (.fr, .dic kvs)))
    | some none, some (some (.fr, .dic kvs)) => if i = j then .stk else .nx ((s.set j none).set i (some (.fr, .dic kvs)))
    | _, _ => .stk
  | .expr e, s => (ev Γ false e s).thenX fun _ s1 => .nx s1
  | .ret e, s => (ev Γ false e s).thenX fun r s1 => match retF s1 r with
    | some c => .ret c s1
    | none => .stk
  | .retN, s => .ret (.val .none) s
  | .ite c a b, s => (ev Γ true c s).thenX fun r s1 => match boolR r with
    | some true => exs Γ a s1
    | some false => exs Γ b s1
    | none => .stk
  | .for_ tg k src b, s => (evr Γ src s).thenX fun rs s1 => match (lookAll s1 rs).bind (itF k) with
    | none => .stk
    | some items => match srcE k s1 rs with
      | none => .stk
      | some s2 => loopX (fun se => exs Γ b se) tg items s2
  | .whl c b, s => whileX (fun se => ev Γ true c se) (fun se => exs Γ b se) Γ.wf s
  | .raise x e, s => (ev Γ false e s).thenX fun _ s1 => .ex x .none s1
  | .tryR b c h, s => match exs Γ b s with
    | .ex x p s1 => if Γ.sub x c = true then match hv Γ.sub x p h with
        | some d => .ret (.val d) s1
        | none => .stk
      else .ex x p s1
    | r => r
  | .tryB b c h, s => match exs Γ b s with
    | .ex x p s1 => if Γ.sub x c = true then match exs Γ h s1 with
        | .ex _ _ _ => .stk
        | r => r
      else .ex x p s1
    | r => r
  | .pass, s => .nx s
def exs (Γ : Cfg) : List S → Env → X
  | [], s => .nx s
  | a :: r, s => (ex1 Γ a s).seq fun s1 => exs Γ r s1
end

/-! ### defs -/
structure Fn where
  pms : List PM
  slots : Nat
  body : List S
def argEnv (pms : List PM) (cs : List Cell) : Env := (pms.zip cs).map fun (m, c) => some (match m with
  | .v => (Mode.fr, c)
  | .r => (Mode.ro, c)
  | .i => (Mode.pin, c))
def entry (f : Fn) (cs : List Cell) : Env := argEnv f.pms cs ++ List.replicate (f.slots - f.pms.length) none
/-- the place of the parameter that is lent to change -/
def inAt : List PM → Option Nat
  | [] => none
  | .i :: _ => some 0
  | _ :: ps => (inAt ps).map (· + 1)
/-- what is lent to change, behind the body -/
def outAt (ps : List PM) (s : Env) (f : Option Cell → RC) : RC := match inAt ps with
  | none => f none
  | some k => match s[k]? with
    | some (some (.pin, c)) => f (some c)
    | _ => .stk
def endF (f : Fn) : X → RC
  | .nx s => outAt f.pms s (.ok (.val .none))
  | .ret c s => outAt f.pms s (.ok c)
  | .ex x p s => outAt f.pms s (.ex x p)
  | .stk => .stk
/-- the defs of a program; depth of calls n; turns of a while below wf -/
def run (T : Nat → Option Fn) (wf : Nat) (sub : Nat → Nat → Bool) : Nat → Nat → List Cell → RC
  | 0, _, _ => .stk
  | n + 1, j, cs => match T j with
    | none => .stk
    | some f => if cs.length = f.pms.length then endF f (exs ⟨fun j => ((T j).map (·.pms)).getD [], run T wf sub n, wf, sub⟩ f.body (entry f cs)) else .stk
end MP

set_option linter.all false
set_option maxRecDepth 100000
set_option maxHeartbeats 1000000
/-! MP: what a value of the model is worth as data, what a frame holds. -/
namespace MP
open PySem L2

/-- a key as data -/
def kd : Key → D
  | .inl i => .int i
  | .inr s => .str s
mutual
/-- in the frozen heap F the value is the data -/
inductive Rp (K : PySem.W.Frag) (F : Hp) : V → D → Prop
  | non : Rp K F .non .none
  | bl (b : Bool) : Rp K F (.bl b) (.bool b)
  | int (i : Int) : Rp K F (.int i) (.int i)
  | str (z : Str) : Rp K F (.str z) (.str z)
  | lst {a : Addr} {xs : List V} {ds : List D} : SqL K F a xs → RpA K F xs ds → Rp K F (.ref a) (.list ds)
  | tup {a : Addr} {xs : List V} {ds : List D} : F a = some (.tup xs) → RpA K F xs ds → Rp K F (.ref a) (.tuple ds)
  | dK {a : Addr} {kvs : List (Key × V)} {ds : List D} : Rd F a (.dK kvs) → RpA K F (kvs.map (·.2)) ds → Rp K F (.ref a) (.dict ((kvs.map fun p => kd p.1).zip ds))
  | dT {a : Addr} {kvs : List (List Key × V)} {ds : List D} : F a = some (.dT kvs) ∧ kvs ≠ [] → RpA K F (kvs.map (·.2)) ds → Rp K F (.ref a) (.dict ((kvs.map fun p => PyData.tuple (p.1.map kd)).zip ds))
inductive RpA (K : PySem.W.Frag) (F : Hp) : List V → List D → Prop
  | nil : RpA K F [] []
  | cons {v : V} {vs : List V} {d : D} {ds : List D} : Rp K F v d → RpA K F vs ds → RpA K F (v :: vs) (d :: ds)
end
theorem Same.tupq {K : PySem.W.Frag} {H H' : Hp} {a : Addr} {xs : List V} (e : Same H H') (h : SqT K H a xs) : SqT K H' a xs := by
  rcases h with (h | ⟨o, h⟩) | h
  · exact .inl (.inl (e _ _ h))
  · exact .inl (.inr ⟨o, e _ _ h⟩)
  · exact .inr h
theorem Same.rd {H H' : Hp} {a : Addr} {o : HO} (e : Same H H') (h : Rd H a o) : Rd H' a o := by
  rcases h with h | ⟨b, h⟩
  · exact .inl (e _ _ h)
  · exact .inr ⟨b, e _ _ h⟩
mutual
theorem Rp.mono {K : PySem.W.Frag} {F F' : Hp} (s : Same F F') : ∀ {v : V} {d : D}, Rp K F v d → Rp K F' v d
  | _, _, .non => .non
  | _, _, .bl b => .bl b
  | _, _, .int i => .int i
  | _, _, .str z => .str z
  | _, _, .lst h r => .lst (s.seq h) (RpA.mono s r)
  | _, _, .tup h r => .tup (s _ _ h) (RpA.mono s r)
  | _, _, .dK h r => .dK (Same.rd s h) (RpA.mono s r)
  | _, _, .dT h r => .dT ⟨s _ _ h.1, h.2⟩ (RpA.mono s r)
theorem RpA.mono {K : PySem.W.Frag} {F F' : Hp} (s : Same F F') : ∀ {vs : List V} {ds : List D}, RpA K F vs ds → RpA K F' vs ds
  | _, _, .nil => .nil
  | _, _, .cons r t => .cons (Rp.mono s r) (RpA.mono s t)
end
section
variable {K : PySem.W.Frag} {F F' H H' : Hp}
theorem RpA.length : ∀ {vs : List V} {ds : List D}, RpA K F vs ds → vs.length = ds.length
  | _, _, .nil => rfl
  | _, _, .cons _ t => by rw [List.length_cons, List.length_cons, RpA.length t]
theorem RpA.append : ∀ {vs ws : List V} {ds es : List D}, RpA K F vs ds → RpA K F ws es → RpA K F (vs ++ ws) (ds ++ es)
  | _, _, _, _, .nil, s => s
  | _, _, _, _, .cons r t, s => .cons r (RpA.append t s)
theorem RpA.get : ∀ {vs : List V} {ds : List D} {i : Nat} {d : D}, RpA K F vs ds → ds[i]? = some d → ∃ v, vs[i]? = some v ∧ Rp K F v d
  | _, _, _, _, .nil, e => by simp at e
  | _, _, 0, _, .cons r _, e => by simp at e; subst e; exact ⟨_, rfl, r⟩
  | _, _, i + 1, d, .cons _ t, e => by
    obtain ⟨v, h1, h2⟩ := RpA.get (i := i) t (by simpa using e)
    exact ⟨v, by simpa using h1, h2⟩
theorem RpA.getV : ∀ {vs : List V} {ds : List D} {i : Nat} {v : V}, RpA K F vs ds → vs[i]? = some v → ∃ d, ds[i]? = some d ∧ Rp K F v d
  | _, _, _, _, .nil, e => by simp at e
  | _, _, 0, _, .cons r _, e => by simp at e; subst e; exact ⟨_, rfl, r⟩
  | _, _, i + 1, v, .cons _ t, e => by
    obtain ⟨d, h1, h2⟩ := RpA.getV (i := i) t (by simpa using e)
    exact ⟨d, by simpa using h1, h2⟩
theorem RpA.take : ∀ {vs : List V} {ds : List D} (n : Nat), RpA K F vs ds → RpA K F (vs.take n) (ds.take n)
  | _, _, 0, _ => .nil
  | _, _, _ + 1, .nil => .nil
  | _, _, n + 1, .cons r t => .cons r (RpA.take n t)
theorem RpA.drop : ∀ {vs : List V} {ds : List D} (n : Nat), RpA K F vs ds → RpA K F (vs.drop n) (ds.drop n)
  | _, _, 0, r => r
  | _, _, _ + 1, .nil => .nil
  | _, _, n + 1, .cons _ t => RpA.drop n t
theorem RpA.set {v : V} {d : D} (r : Rp K F v d) : ∀ {vs : List V} {ds : List D} (n : Nat), RpA K F vs ds → RpA K F (vs.set n v) (ds.set n d)
  | _, _, _, .nil => .nil
  | _, _, 0, .cons _ t => .cons r t
  | _, _, n + 1, .cons q t => .cons q (RpA.set r n t)
theorem RpA.dropLast {vs : List V} {ds : List D} (r : RpA K F vs ds) : RpA K F vs.dropLast ds.dropLast := by
  rw [List.dropLast_eq_take, List.dropLast_eq_take, r.length]
  exact r.take _
theorem RpA.reverse : ∀ {vs : List V} {ds : List D}, RpA K F vs ds → RpA K F vs.reverse ds.reverse
  | _, _, .nil => .nil
  | _, _, .cons r t => by
    rw [List.reverse_cons, List.reverse_cons]
    exact (RpA.reverse t).append (.cons r .nil)
theorem RpA.none_of {vs : List V} {ds : List D} {i : Nat} (r : RpA K F vs ds) (e : ds[i]? = none) : vs[i]? = none := by
  rw [List.getElem?_eq_none_iff] at e ⊢
  rw [r.length]
  exact e
theorem RpA.ints : ∀ {vs : List V} {ds : List D} {ns : List Int}, RpA K F vs ds → intsF ds = some ns → vs = ns.map V.int ∧ ds = ns.map PyData.int
  | _, _, ns, .nil, e => by
    simp only [intsF, Option.some.injEq] at e
    subst e
    exact ⟨rfl, rfl⟩
  | _, _, ns, .cons r t, e => by
    cases r with
    | int i =>
      simp only [intsF, Option.map_eq_some_iff] at e
      obtain ⟨ms, e1, e2⟩ := e
      subst e2
      obtain ⟨h1, h2⟩ := RpA.ints t e1
      exact ⟨by rw [h1]; rfl, by rw [h2]; rfl⟩
    | _ => simp [intsF] at e
theorem RpA.of_ints : ∀ ns : List Int, RpA K F (ns.map V.int) (ns.map PyData.int)
  | [] => .nil
  | i :: r => .cons (.int i) (RpA.of_ints r)

/-- the same, the outer object in H, what is within in F -/
def Rt (K : PySem.W.Frag) (F H : Hp) (v : V) : D → Prop
  | .none => v = .non
  | .bool b => v = .bl b
  | .int i => v = .int i
  | .str z => v = .str z
  | .list ds => ∃ a xs, v = .ref a ∧ SqL K H a xs ∧ RpA K F xs ds
  | .tuple ds => ∃ a xs, v = .ref a ∧ H a = some (.tup xs) ∧ RpA K F xs ds
  | .dict kvs => (∃ a ks ds, v = .ref a ∧ Rd H a (.dK ks) ∧ RpA K F (ks.map (·.2)) ds ∧ kvs = (ks.map fun p => kd p.1).zip ds) ∨
      ∃ a ks ds, v = .ref a ∧ (H a = some (.dT ks) ∧ ks ≠ []) ∧ RpA K F (ks.map (·.2)) ds ∧ kvs = (ks.map fun p => PyData.tuple (p.1.map kd)).zip ds
theorem Rp.rt {v : V} {d : D} (s : Same F H) (h : Rp K F v d) : Rt K F H v d := by
  cases h with
  | non => rfl
  | bl b => rfl
  | int i => rfl
  | str z => rfl
  | lst h r => exact ⟨_, _, rfl, s.seq h, r⟩
  | tup h r => exact ⟨_, _, rfl, s _ _ h, r⟩
  | dK h r => exact .inl ⟨_, _, _, rfl, Same.rd s h, r, rfl⟩
  | dT h r => exact .inr ⟨_, _, _, rfl, ⟨s _ _ h.1, h.2⟩, r, rfl⟩
theorem Rt.rp {v : V} : ∀ {d : D}, Rt K F F v d → Rp K F v d
  | .none, h => by cases h; exact .non
  | .bool b, h => by cases h; exact .bl b
  | .int i, h => by cases h; exact .int i
  | .str z, h => by cases h; exact .str z
  | .list ds, ⟨a, xs, e, h, r⟩ => by subst e; exact .lst h r
  | .tuple ds, ⟨a, xs, e, h, r⟩ => by subst e; exact .tup h r
  | .dict kvs, .inl ⟨a, ks, ds, e, h, r, q⟩ => by subst e; subst q; exact .dK h r
  | .dict kvs, .inr ⟨a, ks, ds, e, h, r, q⟩ => by subst e; subst q; exact .dT h r
theorem Rt.mono {v : V} (sF : Same F F') (sH : Same H H') : ∀ {d : D}, Rt K F H v d → Rt K F' H' v d
  | .none, h => h
  | .bool b, h => h
  | .int i, h => h
  | .str z, h => h
  | .list ds, ⟨a, xs, e, h, r⟩ => ⟨a, xs, e, sH.seq h, r.mono sF⟩
  | .tuple ds, ⟨a, xs, e, h, r⟩ => ⟨a, xs, e, sH _ _ h, r.mono sF⟩
  | .dict kvs, .inl ⟨a, ks, ds, e, h, r, q⟩ => .inl ⟨a, ks, ds, e, Same.rd sH h, r.mono sF, q⟩
  | .dict kvs, .inr ⟨a, ks, ds, e, h, r, q⟩ => .inr ⟨a, ks, ds, e, ⟨sH _ _ h.1, h.2⟩, r.mono sF, q⟩
end

/-- a cell: the value, the cell, the addresses that are its own -/
inductive CRel (K : PySem.W.Frag) (F H : Hp) : V → Cell → List Addr → Prop
  | exn {v : V} {x : Nat} {p : D} : CRel K F H v (.exn x p) []
  | val {v : V} {d : D} : Rp K F v d → CRel K F H v (.val d) []
  | lst {a : Addr} {xs : List V} {ds : List D} : H a = some (.lst xs) → RpA K F xs ds → CRel K F H (.ref a) (.lst ds) [a]
  | dK {a : Addr} {kvs : List (Key × V)} {ds : List D} : H a = some (.dK kvs) → RpA K F (kvs.map (·.2)) ds → CRel K F H (.ref a) (.dic ((kvs.map fun p => kd p.1).zip ds)) [a]
  | dT {a : Addr} {kvs : List (List Key × V)} {ds : List D} : H a = some (.dT kvs) ∧ kvs ≠ [] → RpA K F (kvs.map (·.2)) ds → CRel K F H (.ref a) (.dic ((kvs.map fun p => PyData.tuple (p.1.map kd)).zip ds)) [a]
section
variable {K : PySem.W.Frag} {F F' H H' : Hp} {v : V} {c : Cell} {as : List Addr}
theorem CRel.rt {d : D} (s : Same F H) (h : CRel K F H v c as) (e : c.d? = some d) : Rt K F H v d := by
  cases h with
  | exn => cases e
  | val r =>
    simp only [Cell.d?, Option.some.injEq] at e
    subst e
    exact r.rt s
  | lst h r =>
    simp only [Cell.d?, Option.some.injEq] at e
    subst e
    exact ⟨_, _, rfl, .of h, r⟩
  | dK h r =>
    simp only [Cell.d?, Option.some.injEq] at e
    subst e
    exact .inl ⟨_, _, _, rfl, .of h, r, rfl⟩
  | dT h r =>
    simp only [Cell.d?, Option.some.injEq] at e
    subst e
    exact .inr ⟨_, _, _, rfl, h, r, rfl⟩
theorem CRel.mono (h : CRel K F H v c as) (sF : Same F F') (sH : ∀ p ∈ as, ∀ o, H p = some o → H' p = some o) : CRel K F' H' v c as := by
  cases h with
  | exn => exact .exn
  | val r => exact .val (r.mono sF)
  | lst h r => exact .lst (sH _ (by simp) _ h) (r.mono sF)
  | dK h r => exact .dK (sH _ (by simp) _ h) (r.mono sF)
  | dT h r => exact .dT ⟨sH _ (by simp) _ h.1, h.2⟩ (r.mono sF)
theorem CRel.there (h : CRel K F H v c as) : ∀ p ∈ as, H p ≠ none := by
  cases h with
  | exn => intro p hp; cases hp
  | val r => intro p hp; cases hp
  | lst h r => intro p hp; simp at hp; subst hp; rw [h]; simp
  | dK h r => intro p hp; simp at hp; subst hp; rw [h]; simp
  | dT h r => intro p hp; simp at hp; subst hp; rw [h.1]; simp
/-- frozen: what stands at its addresses stands in F' -/
theorem CRel.freeze {d : D} (h : CRel K F H v c as) (e : c.d? = some d) (sF : Same F F') (sH : ∀ p ∈ as, ∀ o, H p = some o → F' p = some o) : Rp K F' v d := by
  cases h with
  | exn => cases e
  | val r =>
    simp only [Cell.d?, Option.some.injEq] at e
    subst e
    exact r.mono sF
  | lst h r =>
    simp only [Cell.d?, Option.some.injEq] at e
    subst e
    exact .lst (.of (sH _ (by simp) _ h)) (r.mono sF)
  | dK h r =>
    simp only [Cell.d?, Option.some.injEq] at e
    subst e
    exact .dK (.of (sH _ (by simp) _ h)) (r.mono sF)
  | dT h r =>
    simp only [Cell.d?, Option.some.injEq] at e
    subst e
    exact .dT ⟨sH _ (by simp) _ h.1, h.2⟩ (r.mono sF)
end

/-! ### the frame -/
/-- the ghost of a body: what was frozen and what stood when it began, what it may change, the slots then -/
structure Gh where
  F0 : Hp
  H0 : Hp
  mu : List Addr
  fz : List Addr
  rs : List Addr
  s0 : St
structure StA (K : PySem.W.Frag) (G : Gh) (as : Nat → List Addr) (F : Hp) (s : Env) (σ : St) (H : Hp) : Prop where
  len : s.length = σ.length
  cell : ∀ (i : Nat) (m : Mode) (c : Cell), s[i]? = some (some (m, c)) → ∃ v, σ[i]? = some (some v) ∧ CRel K F H v c (as i)
  emp : ∀ (i : Nat), (∀ (m : Mode) (c : Cell), s[i]? ≠ some (some (m, c))) → as i = []
  dis : ∀ i j p, p ∈ as i → p ∈ as j → i = j
  nd : ∀ i, (as i).Nodup
  fr : ∀ i p, p ∈ as i → F p = none
  md : ∀ (i : Nat) (m : Mode) (c : Cell) (p : Addr), s[i]? = some (some (m, c)) → p ∈ as i → (m = Mode.ro ∧ p ∈ G.rs) ∨ G.H0 p = none ∨ (m = Mode.pin ∧ p ∈ G.mu) ∨ (m = Mode.fr ∧ p ∈ G.mu ∧ p ∈ G.fz)
  same : Same F H
  f0 : Same G.F0 F
  fnew : ∀ q, F q ≠ none → G.F0 q ≠ none ∨ G.H0 q = none ∨ q ∈ G.fz ∨ ∃ xs, H q = some (.tup xs)
  fra : ∀ q o, q ∉ G.mu → G.H0 q = some o → H q = some o
  dom : ∀ q, G.H0 q ≠ none → H q ≠ none
  pin : ∀ (i : Nat) (m : Mode) (c : Cell), s[i]? = some (some (m, c)) → m ≠ Mode.fr → σ[i]? = G.s0[i]?
/-- an expression's result: the value, the addresses that are its own (of a fresh thing) -/
def RRel (K : PySem.W.Frag) (G : Gh) (as : Nat → List Addr) (F : Hp) (σ : St) (H : Hp) (v : V) (r : Res) (aT : List Addr) : Prop := match r with
  | .val d => Rp K F v d ∧ aT = []
  | .bor i => σ[i]? = some (some v) ∧ aT = []
  | .tmp c => CRel K F H v c aT ∧ aT.Nodup ∧ (∀ p ∈ aT, F p = none ∧ G.H0 p = none) ∧ ∀ i p, p ∈ as i → p ∉ aT
/-- the heap has grown: frozen things stay, what is new among them was not there -/
structure Grow (F H F' H' : Hp) : Prop where
  f : Same F F'
  h : Same H H'
  s : Same F' H'
  n : ∀ q, F' q ≠ none → F q ≠ none ∨ H q = none ∨ ∃ xs, H' q = some (.tup xs)
theorem Grow.refl {F H : Hp} (s : Same F H) : Grow F H F H := ⟨.refl _, .refl _, s, fun _ h => .inl h⟩
theorem Grow.trans {F H F' H' F2 H2 : Hp} (a : Grow F H F' H') (b : Grow F' H' F2 H2) : Grow F H F2 H2 := ⟨a.f.trans b.f, a.h.trans b.h, b.s, fun q h => by
  rcases b.n q h with z | z | z
  · rcases a.n q z with y | y | ⟨xs, y⟩
    · exact .inl y
    · exact .inr (.inl y)
    · exact .inr (.inr ⟨xs, b.h _ _ y⟩)
  · exact .inr (.inl (a.h.free z))
  · exact .inr (.inr z)⟩
section
variable {K : PySem.W.Frag} {G : Gh} {as : Nat → List Addr} {F F' H H' : Hp} {s : Env} {σ : St} {v : V} {r : Res} {aT : List Addr}
theorem StA.there (S : StA K G as F s σ H) {i : Nat} {p : Addr} (h : p ∈ as i) : H p ≠ none := by
  by_cases q : ∃ m c, s[i]? = some (some (m, c))
  · obtain ⟨m, c, e⟩ := q
    obtain ⟨v, _, r⟩ := S.cell i m c e
    exact r.there p h
  · have := S.emp i fun m c e => q ⟨m, c, e⟩
    rw [this] at h
    cases h
theorem CRel.ntup {c : Cell} (h : CRel K F H v c aT) : ∀ p ∈ aT, ∀ xs, H p ≠ some (.tup xs) := by
  cases h with
  | exn => intro p hp; cases hp
  | val r => intro p hp; cases hp
  | lst h r => intro p hp xs e; simp at hp; subst hp; rw [h] at e; cases e
  | dK h r => intro p hp xs e; simp at hp; subst hp; rw [h] at e; cases e
  | dT h r => intro p hp xs e; simp at hp; subst hp; rw [h.1] at e; cases e
theorem StA.ntup (S : StA K G as F s σ H) {i : Nat} {p : Addr} (h : p ∈ as i) (xs : List V) : H p ≠ some (.tup xs) := by
  by_cases q : ∃ m c, s[i]? = some (some (m, c))
  · obtain ⟨m, c, e⟩ := q
    obtain ⟨v, _, r⟩ := S.cell i m c e
    exact r.ntup p h xs
  · have := S.emp i fun m c e => q ⟨m, c, e⟩
    rw [this] at h
    cases h
theorem same_ntup {p : Addr} (hh : ∀ o, H p = some o → H' p = some o) (h : H p ≠ none) (n : ∀ xs, H p ≠ some (.tup xs)) : ∀ xs, H' p ≠ some (.tup xs) := fun xs e => by
  cases q : H p with
  | none => exact h q
  | some o =>
    have := hh o q
    rw [e] at this
    cases this
    exact n xs q
theorem StA.grow (S : StA K G as F s σ H) (g : Grow F H F' H') : StA K G as F' s σ H' where
  len := S.len
  cell := fun i m c e => by
    obtain ⟨v, h1, h2⟩ := S.cell i m c e
    exact ⟨v, h1, h2.mono g.f fun p _ o q => g.h p o q⟩
  emp := S.emp
  dis := S.dis
  nd := S.nd
  fr := fun i p h => by
    cases q : F' p with
    | none => rfl
    | some o =>
      rcases g.n p (by rw [q]; simp) with z | z | ⟨xs, z⟩
      · exact absurd (S.fr i p h) z
      · exact absurd z (S.there h)
      · exact absurd z (same_ntup (fun o e => g.h _ _ e) (S.there h) (S.ntup h) xs)
  md := S.md
  same := g.s
  f0 := S.f0.trans g.f
  fnew := fun q h => by
    rcases g.n q h with z | z | z
    · rcases S.fnew q z with y | y | y | ⟨xs, y⟩
      · exact .inl y
      · exact .inr (.inl y)
      · exact .inr (.inr (.inl y))
      · exact .inr (.inr (.inr ⟨xs, g.h _ _ y⟩))
    rotate_left
    · exact .inr (.inr (.inr z))
    · refine .inr (.inl ?_)
      cases e : G.H0 q with
      | none => rfl
      | some o => exact absurd z (S.dom q (by rw [e]; simp))
  fra := fun q o h e => g.h q o (S.fra q o h e)
  dom := fun q h z => S.dom q h (g.h.free z)
  pin := S.pin
theorem StA.rt (S : StA K G as F s σ H) (R : RRel K G as F σ H v r aT) {d : D} (e : look s r = some d) : Rt K F H v d := by
  cases r with
  | val d' =>
    simp only [MP.look, Option.some.injEq] at e
    subst e
    exact R.1.rt S.same
  | bor i =>
    simp only [MP.look] at e
    split at e
    · rename_i m c h
      obtain ⟨v', h1, h2⟩ := S.cell _ _ _ h
      have e2 : σ[i]? = some (some v) := R.1
      rw [e2] at h1
      cases h1
      exact h2.rt S.same e
    · cases e
  | tmp c => exact R.1.rt S.same e
/-- H on the given addresses, else F -/
def ovr (F H : Hp) (ps : List Addr) : Hp := fun q => if q ∈ ps then H q else F q
theorem ovr_in {F H : Hp} {ps : List Addr} {q : Addr} (h : q ∈ ps) : ovr F H ps q = H q := if_pos h
theorem ovr_out {F H : Hp} {ps : List Addr} {q : Addr} (h : q ∉ ps) : ovr F H ps q = F q := if_neg h
theorem same_ovr {F H : Hp} {ps : List Addr} (h : ∀ p ∈ ps, F p = none) : Same F (ovr F H ps) := fun q o e => by
  rw [ovr_out]
  · exact e
  · intro z
    rw [h q z] at e
    cases e
theorem ovr_same {F H : Hp} {ps : List Addr} (h : Same F H) : Same (ovr F H ps) H := fun q o e => by
  by_cases z : q ∈ ps
  · rw [ovr_in z] at e; exact e
  · rw [ovr_out z] at e; exact h q o e
/-- addresses that no slot owns are frozen -/
theorem StA.hold (S : StA K G as F s σ H) {ps : List Addr} (h1 : ∀ p ∈ ps, F p = none ∧ G.H0 p = none) (h2 : ∀ i p, p ∈ as i → p ∉ ps) : StA K G as (ovr F H ps) s σ H where
  len := S.len
  cell := fun i m c e => by
    obtain ⟨v, q1, q2⟩ := S.cell i m c e
    exact ⟨v, q1, q2.mono (same_ovr fun p hp => (h1 p hp).1) fun p _ o q => q⟩
  emp := S.emp
  dis := S.dis
  nd := S.nd
  fr := fun i p h => by rw [ovr_out (h2 i p h)]; exact S.fr i p h
  md := S.md
  same := ovr_same S.same
  f0 := S.f0.trans (same_ovr fun p hp => (h1 p hp).1)
  fnew := fun q h => by
    by_cases z : q ∈ ps
    · exact .inr (.inl (h1 q z).2)
    · rw [ovr_out z] at h; exact S.fnew q h
  fra := S.fra
  dom := S.dom
  pin := S.pin
/-! ### a region: a stretch of a body with a ghost of its own -/
/-- the addresses of the slots whose mode is such -/
def ownAt (s : Env) (as : Nat → List Addr) (f : Mode → Bool) : List Addr := (List.range s.length).flatMap fun i => match s[i]? with
  | some (some (m, _)) => if f m = true then as i else []
  | _ => []
theorem mem_ownAt {s : Env} {as : Nat → List Addr} {f : Mode → Bool} {p : Addr} : p ∈ ownAt s as f ↔ ∃ (i : Nat) (m : Mode) (c : Cell), s[i]? = some (some (m, c)) ∧ f m = true ∧ p ∈ as i := by
  unfold ownAt
  rw [List.mem_flatMap]
  constructor
  · rintro ⟨i, _, h⟩
    split at h
    · rename_i m c e
      split at h
      · rename_i hf
        exact ⟨i, m, c, e, hf, h⟩
      · cases h
    · cases h
  · rintro ⟨i, m, c, e, hf, h⟩
    refine ⟨i, List.mem_range.mpr (List.getElem?_eq_some_iff.mp e).1, ?_⟩
    rw [e]
    simp only [hf, if_true]
    exact h
def notRo : Mode → Bool
  | .ro => false
  | _ => true
def isFr : Mode → Bool
  | .fr => true
  | _ => false
def isRo : Mode → Bool
  | .ro => true
  | _ => false
abbrev Gh.reg (G : Gh) (F H : Hp) (s : Env) (as : Nat → List Addr) : Gh := ⟨F, H, ownAt s as notRo, ownAt s as isFr, ownAt s as isRo, G.s0⟩
theorem StA.enter (S : StA K G as F s σ H) (sH : Same H H') (sF : Same F H') : StA K (G.reg F H' s as) as F s σ H' where
  len := S.len
  cell := fun i m c e => by
    obtain ⟨v, h1, h2⟩ := S.cell i m c e
    exact ⟨v, h1, h2.mono (.refl _) fun p _ o q => sH p o q⟩
  emp := S.emp
  dis := S.dis
  nd := S.nd
  fr := S.fr
  md := fun i m c p e hp => by
    cases m with
    | ro => exact .inl ⟨rfl, mem_ownAt.mpr ⟨i, _, c, e, rfl, hp⟩⟩
    | pin => exact .inr (.inr (.inl ⟨rfl, mem_ownAt.mpr ⟨i, _, c, e, rfl, hp⟩⟩))
    | fr => exact .inr (.inr (.inr ⟨rfl, mem_ownAt.mpr ⟨i, _, c, e, rfl, hp⟩, mem_ownAt.mpr ⟨i, _, c, e, rfl, hp⟩⟩))
  same := sF
  f0 := .refl _
  fnew := fun q h => .inl h
  fra := fun q o _ e => e
  dom := fun q h => h
  pin := S.pin
theorem StA.leave {as' : Nat → List Addr} {s' : Env} {σ' : St} {H2 : Hp} (S : StA K G as F s σ H) (sH : Same H H') (S' : StA K (G.reg F H' s as) as' F' s' σ' H2) : StA K G as' F' s' σ' H2 where
  len := S'.len
  cell := S'.cell
  emp := S'.emp
  dis := S'.dis
  nd := S'.nd
  fr := S'.fr
  md := fun i m c p e hp => by
    have old : ∀ f : Mode → Bool, f .ro = false → p ∈ ownAt s as f → G.H0 p = none ∨ (p ∈ G.mu ∧ (f .pin = false → p ∈ G.fz)) := fun f hf h => by
      obtain ⟨j, m', c', e', hm, hj⟩ := mem_ownAt.mp h
      rcases S.md j m' c' p e' hj with z | z | z | z
      · rw [z.1, hf] at hm; cases hm
      · exact .inl z
      · exact .inr ⟨z.2, fun y => by rw [z.1, y] at hm; cases hm⟩
      · exact .inr ⟨z.2.1, fun _ => z.2.2⟩
    rcases S'.md i m c p e hp with z | z | z | z
    · obtain ⟨j, m', c', e', hm, hj⟩ := mem_ownAt.mp z.2
      rcases S.md j m' c' p e' hj with y | y | y | y
      · exact .inl ⟨z.1, y.2⟩
      · exact .inr (.inl y)
      · rw [y.1] at hm; cases hm
      · rw [y.1] at hm; cases hm
    · refine .inr (.inl ?_)
      cases e : G.H0 p with
      | none => rfl
      | some o => exact absurd (sH.free z) (S.dom p (by rw [e]; simp))
    · rcases old notRo rfl z.2 with y | y
      · exact .inr (.inl y)
      · exact .inr (.inr (.inl ⟨z.1, y.1⟩))
    · rcases old isFr rfl z.2.2 with y | y
      · exact .inr (.inl y)
      · exact .inr (.inr (.inr ⟨z.1, y.1, y.2 rfl⟩))
  same := S'.same
  f0 := S.f0.trans S'.f0
  fnew := fun q h => by
    rcases S'.fnew q h with z | z | z | z
    rotate_right
    · exact .inr (.inr (.inr z))
    · rcases S.fnew q z with y | y | y | ⟨xs, y⟩
      · exact .inl y
      · exact .inr (.inl y)
      · exact .inr (.inr (.inl y))
      · exact .inr (.inr (.inr ⟨xs, S'.same _ _ (S'.f0 _ _ (by
          show F q = _
          cases e : F q with
          | none => exact absurd e z
          | some o =>
            have := S.same _ _ e
            rw [y] at this
            rw [← this]))⟩))
    · refine .inr (.inl ?_)
      cases e : G.H0 q with
      | none => rfl
      | some o => exact absurd (sH.free z) (S.dom q (by rw [e]; simp))
    · obtain ⟨j, m', c', e', hm, hj⟩ := mem_ownAt.mp z
      rcases S.md j m' c' q e' hj with y | y | y | y
      · rw [y.1] at hm; cases hm
      · exact .inr (.inl y)
      · rw [y.1] at hm; cases hm
      · exact .inr (.inr (.inl y.2.2))
  fra := fun q o hq e => by
    refine S'.fra q o (fun z => ?_) (sH _ _ (S.fra q o hq e))
    obtain ⟨j, m', c', e', hm, hj⟩ := mem_ownAt.mp z
    rcases S.md j m' c' q e' hj with y | y | y | y
    · rw [y.1] at hm; cases hm
    · rw [y] at e; cases e
    · exact hq y.2
    · exact hq y.2.1
  dom := fun q h => S'.dom q fun z => S.dom q h (sH.free z)
  pin := S'.pin
/-- what no slot owns to change stands still through a region -/
theorem StA.still {as' : Nat → List Addr} {s' : Env} {σ' : St} {H2 : Hp} (S' : StA K (G.reg F H' s as) as' F' s' σ' H2) {q : Addr} {o : HO} (h : H' q = some o)
    (hn : ∀ (i : Nat) (m : Mode) (c : Cell), s[i]? = some (some (m, c)) → notRo m = true → q ∉ as i) : H2 q = some o :=
  S'.fra q o (fun z => by
    obtain ⟨j, m', c', e', hm, hj⟩ := mem_ownAt.mp z
    exact hn j m' c' e' hm hj) h
/-- an address that is no slot's, not frozen, new to the body -/
structure Alien (G : Gh) (as : Nat → List Addr) (F : Hp) (p : Addr) : Prop where
  f : F p = none
  o : G.H0 p = none
  a : ∀ i, p ∉ as i
theorem StA.other (S : StA K G as F s σ H) {p : Addr} {o : HO} (A : Alien G as F p) : StA K G as F s σ (upd H p o) where
  len := S.len
  cell := fun i m c e => by
    obtain ⟨v, h1, h2⟩ := S.cell i m c e
    refine ⟨v, h1, h2.mono (.refl _) fun q hq o' e' => ?_⟩
    rw [upd_ne fun z : q = p => A.a i (by rw [← z]; exact hq)]
    exact e'
  emp := S.emp
  dis := S.dis
  nd := S.nd
  fr := S.fr
  md := S.md
  same := fun q o' e => by
    rw [upd_ne fun z => by rw [z, A.f] at e; cases e]
    exact S.same q o' e
  f0 := S.f0
  fnew := fun q hq => by
    rw [upd_ne fun z => hq (by rw [z]; exact A.f)]
    exact S.fnew q hq
  fra := fun q o' hq e => by
    rw [upd_ne fun z => by rw [z, A.o] at e; cases e]
    exact S.fra q o' hq e
  dom := fun q h => by
    by_cases z : q = p
    · rw [z, upd_same]; simp
    · rw [upd_ne z]; exact S.dom q h
  pin := S.pin
/-- through a region an alien stays one, and stands still -/
theorem StA.alien {as' : Nat → List Addr} {s' : Env} {σ' : St} {H2 : Hp} {p : Addr} {o : HO} (S' : StA K (G.reg F H' s as) as' F' s' σ' H2) (A : Alien G as F p) (h : H' p = some o) (ho : ∀ xs, o ≠ .tup xs := by intro _ h; cases h) : Alien G as' F' p ∧ H2 p = some o := by
  have no : ∀ f, p ∉ ownAt s as f := fun f z => by
    obtain ⟨j, m', c', e', hm, hj⟩ := mem_ownAt.mp z
    exact A.a j hj
  refine ⟨⟨?_, A.o, fun i hi => ?_⟩, S'.fra p o (no _) h⟩
  · cases e : F' p with
    | none => rfl
    | some o' =>
      rcases S'.fnew p (by rw [e]; simp) with z | z | z | ⟨xs, z⟩
      rotate_right
      · rw [S'.fra p o (no _) h] at z
        exact absurd (Option.some.inj z) (ho xs)
      · exact absurd A.f z
      · rw [show (G.reg F H' s as).H0 p = H' p from rfl, h] at z; cases z
      · exact absurd z (no _)
  · by_cases q : ∃ m c, s'[i]? = some (some (m, c))
    · obtain ⟨m, c, e⟩ := q
      rcases S'.md i m c p e hi with z | z | z | z
      · exact no _ z.2
      · rw [show (G.reg F H' s as).H0 p = H' p from rfl, h] at z; cases z
      · exact no _ z.2
      · exact no _ z.2.1
    · have := S'.emp i fun m c e => q ⟨m, c, e⟩
      rw [this] at hi
      cases hi

/-! ### slots stored, slots emptied -/
def freeAt (s : Env) (i : Nat) : Prop := s[i]? = some none ∨ ∃ c, s[i]? = some (some (Mode.fr, c))
theorem freeAt.lt {s : Env} {i : Nat} (h : freeAt s i) : i < s.length := by
  rcases h with h | ⟨c, h⟩ <;> exact (List.getElem?_eq_some_iff.mp h).1
theorem StA.drop (S : StA K G as F s σ H) {i : Nat} (h : freeAt s i) : StA K G (fun j => if j = i then [] else as j) F (s.set i none) (σ.set i none) H where
  len := by rw [List.length_set, List.length_set]; exact S.len
  cell := fun j m c e => by
    by_cases z : j = i
    · subst z
      rw [List.getElem?_set_self h.lt] at e
      cases e
    · rw [List.getElem?_set_ne (Ne.symm z)] at e ⊢
      rw [if_neg z]
      exact S.cell j m c e
  emp := fun j e => by
    by_cases z : j = i
    · rw [if_pos z]
    · rw [if_neg z]
      refine S.emp j fun m c q => e m c ?_
      rw [List.getElem?_set_ne (Ne.symm z)]
      exact q
  dis := fun j k p hj hk => by
    split at hj
    · cases hj
    · split at hk
      · cases hk
      · exact S.dis j k p hj hk
  nd := fun j => by
    split
    · exact .nil
    · exact S.nd j
  fr := fun j p hj => by
    split at hj
    · cases hj
    · exact S.fr j p hj
  md := fun j m c p e hj => by
    split at hj
    · cases hj
    · rename_i z
      rw [List.getElem?_set_ne (Ne.symm z)] at e
      exact S.md j m c p e hj
  same := S.same
  f0 := S.f0
  fnew := S.fnew
  fra := S.fra
  dom := S.dom
  pin := fun j m c e hm => by
    by_cases z : j = i
    · subst z
      rw [List.getElem?_set_self h.lt] at e
      cases e
    · rw [List.getElem?_set_ne (Ne.symm z)] at e ⊢
      exact S.pin j m c e hm
theorem StA.put (S : StA K G as F s σ H) {i : Nat} {c : Cell} (h : freeAt s i) (rc : CRel K F H v c aT) (nd : aT.Nodup) (fr : ∀ p ∈ aT, F p = none ∧ G.H0 p = none) (di : ∀ j p, p ∈ as j → p ∉ aT) :
    StA K G (fun j => if j = i then aT else as j) F (s.set i (some (.fr, c))) (σ.set i (some v)) H where
  len := by rw [List.length_set, List.length_set]; exact S.len
  cell := fun j m c' e => by
    by_cases z : j = i
    · subst z
      rw [List.getElem?_set_self h.lt] at e
      cases e
      exact ⟨v, List.getElem?_set_self (by rw [← S.len]; exact h.lt), by rw [if_pos rfl]; exact rc⟩
    · rw [List.getElem?_set_ne (Ne.symm z)] at e ⊢
      rw [if_neg z]
      exact S.cell j m c' e
  emp := fun j e => by
    by_cases z : j = i
    · subst z
      exact absurd (List.getElem?_set_self h.lt) (e _ _)
    · rw [if_neg z]
      refine S.emp j fun m c q => e m c ?_
      rw [List.getElem?_set_ne (Ne.symm z)]
      exact q
  dis := fun j k p hj hk => by
    by_cases z1 : j = i
    · by_cases z2 : k = i
      · rw [z1, z2]
      · rw [if_pos z1] at hj
        rw [if_neg z2] at hk
        exact absurd hj (di k p hk)
    · rw [if_neg z1] at hj
      by_cases z2 : k = i
      · rw [if_pos z2] at hk
        exact absurd hk (di j p hj)
      · rw [if_neg z2] at hk
        exact S.dis j k p hj hk
  nd := fun j => by
    split
    · exact nd
    · exact S.nd j
  fr := fun j p hj => by
    split at hj
    · exact (fr p hj).1
    · exact S.fr j p hj
  md := fun j m c' p e hj => by
    split at hj
    · exact .inr (.inl (fr p hj).2)
    · rename_i z
      rw [List.getElem?_set_ne (Ne.symm z)] at e
      exact S.md j m c' p e hj
  same := S.same
  f0 := S.f0
  fnew := S.fnew
  fra := S.fra
  dom := S.dom
  pin := fun j m c' e hm => by
    by_cases z : j = i
    · subst z
      rw [List.getElem?_set_self h.lt] at e
      cases e
      exact absurd rfl hm
    · rw [List.getElem?_set_ne (Ne.symm z)] at e ⊢
      exact S.pin j m c' e hm
theorem StA.putVal (S : StA K G as F s σ H) {i : Nat} {d : D} (h : freeAt s i) (r : Rp K F v d) :
    StA K G (fun j => if j = i then [] else as j) F (s.set i (some (.fr, .val d))) (σ.set i (some v)) H :=
  S.put h (.val r) .nil (fun p hp => by cases hp) fun j p _ hp => by cases hp
end
end MP

set_option linter.all false
set_option maxRecDepth 100000
set_option maxHeartbeats 2000000
/-! MP: what the operations on data say of the model's operations. -/
namespace MP
open PySem L2

/-- a new result behind an operation -/
def RNew (K : PySem.W.Frag) (F' H H' : Hp) (v : V) (r : Res) (aT : List Addr) : Prop := match r with
  | .val d => Rp K F' v d ∧ aT = []
  | .bor _ => False
  | .tmp c => CRel K F' H' v c aT ∧ aT.Nodup ∧ ∀ p ∈ aT, F' p = none ∧ H p = none
def OutQ (K : PySem.W.Frag) (F H : Hp) (r : Res) (Q : VK) : Prop := ∀ F' H' v aT, Grow F H F' H' → RNew K F' H H' v r aT → Q v H'
section
variable {K : PySem.W.Frag} {F H : Hp} {Q : VK}
theorem OutQ.same {v : V} {d : D} (q : OutQ K F H (.val d) Q) (s : Same F H) (r : Rp K F v d) : Q v H := q F H v [] (.refl s) ⟨r, rfl⟩
theorem grow_new {p : Addr} {o : HO} (s : Same F H) (n : H p = none) : Grow F H F (upd H p o) :=
  ⟨.refl _, fun b u e => by rw [upd_ne (ne_of_none e n)]; exact e, fun b u e => by rw [upd_ne (ne_of_none (s b u e) n)]; exact s b u e, fun _ h => .inl h⟩
theorem grow_newF {p : Addr} {o : HO} (s : Same F H) (n : H p = none) : Grow F H (upd F p o) (upd H p o) :=
  ⟨fun b u e => by rw [upd_ne (ne_of_none (s b u e) n)]; exact e, fun b u e => by rw [upd_ne (ne_of_none e n)]; exact e, fun b u e => by
    by_cases z : b = p
    · rw [z, upd_same] at e ⊢; exact e
    · rw [upd_ne z] at e ⊢; exact s b u e, fun q h => by
    by_cases z : q = p
    · rw [z]; exact .inr (.inl n)
    · rw [upd_ne z] at h; exact .inl h⟩
theorem OutQ.list {p : Addr} {xs : List V} {ds : List D} (q : OutQ K F H (.tmp (.lst ds)) Q) (s : Same F H) (n : H p = none) (r : RpA K F xs ds) : Q (.ref p) (upd H p (.lst xs)) :=
  q F _ _ [p] (grow_new s n) ⟨.lst upd_same r, by simp, fun b h => by
    have e : b = p := by simpa using h
    subst e
    exact ⟨s.free n, n⟩⟩
theorem OutQ.tup {p : Addr} {xs : List V} {ds : List D} (q : OutQ K F H (.val (.tuple ds)) Q) (s : Same F H) (n : H p = none) (r : RpA K F xs ds) : Q (.ref p) (upd H p (.tup xs)) :=
  q (upd F p (.tup xs)) _ _ [] (grow_newF s n) ⟨.tup upd_same (r.mono fun b u e => by rw [upd_ne (ne_of_none (s b u e) n)]; exact e), rfl⟩
end
theorem big_eq : big = sizeLine := by rw [sizeLine_eq]; rfl
section
variable {X : Cx}
theorem rdl {pins : List (Addr × Obj)} {σ : St} {H : Hp} {s : Shared} {l : Addr} {xs : List V} (I : Inv X pins σ H s) (h : Rd H l (.lst xs)) :
    xs.length ≤ sizeLine ∧ ∃ (its : List Value) (n : Nat), Vals xs its ∧ xs.length = its.length ∧ s.heap.get? l = some { cls := .type "list", data := .seq its.toArray n } := by
  obtain ⟨z, its, n, r, e⟩ := h.ok I.hok
  exact ⟨z, its, n, r, r.length, e⟩

/-! ### + - * // % ** -/
def rCatR (K : PySem.W.Frag) : R2 := fun x y H Q => ∃ l b xs zs, x = .ref l ∧ y = .ref b ∧ SqL K H l xs ∧ SqL K H b zs ∧ xs.length + zs.length ≤ sizeLine ∧ ∀ p, H p = none → Q (.ref p) (upd H p (.lst (xs ++ zs)))
theorem op_catR : OpR X (binaryOp .Add) (rCatR X.K) := by
  intro pins s σ H x y v u Q I rx ry ⟨l, b, xs, zs, ex, ey, hL, hB, hz, q⟩
  subst ex ey
  cases rx
  cases ry
  obtain ⟨us, r1, p1, _⟩ := I.list hL
  obtain ⟨ws, r2, p2, _⟩ := I.list hB
  obtain ⟨⟨c1, d1, t1, k1⟩, g1, y1, n1, z1⟩ := p1.isList
  obtain ⟨⟨c2, d2, t2, k2⟩, g2, y2, n2, z2⟩ := p2.isList
  dsimp only at y1 z1 y2 z2
  subst y1 z1 y2 z2
  have hsz : us.toArray.size + ws.toArray.size ≤ sizeLine := by simp only [List.size_toArray]; rw [← r1.length, ← r2.length]; exact hz
  refine PySem.concat_meets ⟨_, g1, rfl⟩ ⟨_, g2, rfl⟩ PySem.noFill_list_add PySem.seq_list_add PySem.F.slot_list_add PySem.F.entry_list_add (PySem.F.args_list_add_2 _ _) (PyProof.Rows.list_addW l b us.toArray ws.toArray n1 n2 d1 d2 k1 k2 hsz) ⟨g1, g2, ?_⟩
  rw [show us.toArray ++ ws.toArray = (us ++ ws).toArray from by simp]
  exact ⟨.ref _, _, I.lnew (t' := s.toks) (r1.append r2) (by rw [List.length_append]; exact hz), rfl, q _ I.fresh⟩
open AutoSeq1 (wpAny_loadPart') in
theorem list_mulW (l : Addr) (items : Array Value) (n : Nat) (x : Int) (u : Tok) (dd : Option Addr) (sl : Array (Option Value)) (hc0 : ¬(!Builtin.List.listFitsIndex x) = true) (hc1 : ¬items.size * x.toNat > (2 ^ 63 - 1) / 8) (hc2 : ¬Builtin.List.listTooLong (items.size * x.toNat) = true) :
    Meets (Builtin.«list.__mul__» ⟨[.ref l, .int x u], []⟩) (fun _ R s => s.heap.get? l = some { cls := .type "list", dict := dd, data := .seq items n, slots := sl } ∧ R (.ok (.ret (Value.ref s.heap.objs.size))) { s with heap := s.heap.push { cls := Value.type "list", data := Data.seq (List.foldl (fun x1 x2 => x1 ++ x2) #[] (List.replicate (if items.isEmpty = true then 0 else x.toNat) items)) }, toks := s.toks }) :=
  .of_wp fun prog w A R s h => by
    obtain ⟨hp, g, d, tk, os⟩ := s; obtain ⟨hl, h⟩ := h
    have hsz := AutoListH.joined_fits hc2
    wp_walk using wpAny_loadPart' hl; refine wpAny_ite_false (decide_eq_false (Nat.not_lt.mpr hsz)) ?_; wp_walk; exact ⟨_, rfl, h⟩
open AutoSeq1 (wpAny_loadPart') in
theorem int_rmulW (a : Int) (t : Tok) (l : Addr) (items : Array Value) (n : Nat) (dd : Option Addr) (sl : Array (Option Value)) :
    Meets (Builtin.«int.__rmul__» ⟨[.int a t, .ref l], []⟩) (fun _ R s => s.heap.get? l = some { cls := .type "list", dict := dd, data := .seq items n, slots := sl } ∧ R (.ok (.ret Value.notImplemented)) s) :=
  .of_wp fun prog w A R s h => by obtain ⟨hp, g, d, tk, os⟩ := s; obtain ⟨hl, h⟩ := h; wp_walk using wpAny_loadPart' hl; exact ⟨_, rfl, h⟩
def rRepR (K : PySem.W.Frag) : R2 := fun x y H Q => ∃ l k xs, x = .ref l ∧ y = .int k ∧ SqL K H l xs ∧ -(2 ^ 63) ≤ k ∧ k < 2 ^ 63 ∧ xs.length * k.toNat ≤ sizeLine ∧
  ∀ p, H p = none → Q (.ref p) (upd H p (.lst (List.replicate k.toNat xs).flatten))
theorem op_repR : OpR X (binaryOp .Mult) (rRepR X.K) := by
  intro pins s σ H x y v u Q I rx ry ⟨l, k, xs, ex, ey, hL, h1, h2, hz, q⟩
  subst ex ey
  cases rx
  obtain ⟨t, rfl⟩ := ry
  obtain ⟨its, r, p1, _⟩ := I.list hL
  obtain ⟨⟨c1, d1, t1, k1⟩, n, e, y1, n1, z1⟩ := id p1
  dsimp only at y1 n1 z1
  subst y1 z1
  have hl := r.length
  have hlen : its.toArray.size * k.toNat ≤ sizeLine := by rw [List.size_toArray, ← hl]; exact hz
  have hcap : ¬ its.toArray.size * k.toNat > (2 ^ 63 - 1) / 8 := by
    have : (sizeLine : Nat) ≤ (2 ^ 63 - 1) / 8 := by decide
    omega
  have hfit : ¬ (!Builtin.List.listFitsIndex k) = true := by
    rw [fitsIndex_both h1 h2]
    exact Bool.false_ne_true
  have hlong : ¬ Builtin.List.listTooLong (its.toArray.size * k.toNat) = true := by
    rw [notLongL hlen]
    exact Bool.false_ne_true
  have hnew : List.foldl (fun x1 x2 => x1 ++ x2) #[] (List.replicate (if its.toArray.isEmpty = true then 0 else k.toNat) its.toArray) = (List.replicate k.toNat its).flatten.toArray := by
    have f0 : ∀ m : Nat, List.foldl (fun x1 x2 => x1 ++ x2) #[] (List.replicate m its.toArray) = (List.replicate m its).flatten.toArray := fun m => by
      have := foldl_rep its m []
      rw [List.nil_append] at this
      exact this
    rw [f0]
    cases its with
    | nil => simp
    | cons a r' => rw [if_neg (by simp)]
  refine wpAny_binaryOp_repeat_ref (T := "list") (U := "int") (by decide) ⟨_, e, rfl⟩ (fun s' => typeIs_int s' k t) noFill_list_mul F.fills_int_mul F.slot_int_rmul repeat_list F.slot_int_index.lookup
    (call_meets F.slot_int_rmul (typeIs_int s k t) F.entry_int_rmul (F.args_int_rmul_2 _ _) (int_rmulW k t l its.toArray n _ _)
      ⟨e, rfl, ⟨_, e, rfl⟩, call_meets F.slot_list_mul ⟨_, e, rfl⟩ F.entry_list_mul (F.args_list_mul_2 _ _) (list_mulW l its.toArray n k t _ _ hfit hcap hlong) ⟨e, ?_⟩⟩)
  rw [hnew]
  exact ⟨.ref _, _, I.lnew (t' := s.toks) (r.rep k.toNat) (by rw [PyProof.Rows.lm_len_rep_flat, Nat.mul_comm]; exact hz), rfl, q _ I.fresh⟩
theorem RpA.rep {K : PySem.W.Frag} {F : Hp} {xs : List V} {ds : List D} (h : RpA K F xs ds) : ∀ k : Nat, RpA K F (List.replicate k xs).flatten (List.replicate k ds).flatten
  | 0 => .nil
  | k + 1 => by
    rw [List.replicate_succ, List.replicate_succ, List.flatten_cons, List.flatten_cons]
    exact h.append (RpA.rep h k)
def opOf : BOp → Operator
  | .add => .Add
  | .sub => .Sub
  | .mul => .Mult
  | .fdiv => .FloorDiv
  | .mod => .Mod
  | .pow => .Pow
def rBin (K : PySem.W.Frag) (op : BOp) : R2 := fun x y H Q => ∃ F dx dy r, Same F H ∧ Rt K F H x dx ∧ Rt K F H y dy ∧ binF op dx dy = some r ∧ OutQ K F H r Q
theorem mulOk_ok {a b : Int} (h : mulOk a b = true) : CMul a b ∨ CMulW a b := by
  unfold mulOk at h
  rw [Bool.or_eq_true, Bool.or_eq_true, Bool.and_eq_true] at h
  rcases h with (h | h) | ⟨h, h'⟩
  · have := of_decide_eq_true h
    exact .inl (.inl (by omega))
  · have := of_decide_eq_true h
    exact .inl (.inr (by omega))
  · exact .inr (wide_mul (of_decide_eq_true h) (of_decide_eq_true h') (by decide) (by decide) (by decide))
theorem op_bin (op : BOp) : OpR X (binaryOp (opOf op)) (rBin X.K op) := by
  intro pins s σ H x y v u Q I rx ry ⟨F, dx, dy, r, sm, tx, ty, e, q⟩
  unfold binF at e
  split at e
  · cases tx; cases ty; cases e
    exact op_add pins s σ H _ _ v u Q I rx ry ⟨_, _, rfl, rfl, q.same sm (.int _)⟩
  · cases tx; cases ty
    split at e
    · rename_i hz
      cases e
      exact op_add_str pins s σ H _ _ v u Q I rx ry ⟨_, _, rfl, rfl, by rw [← big_eq]; exact hz, q.same sm (.str _)⟩
    · cases e
  · obtain ⟨a, xs, e1, h1, r1⟩ := tx
    obtain ⟨b, ys, e2, h2, r2⟩ := ty
    split at e
    · rename_i hz
      cases e
      exact op_catR pins s σ H _ _ v u Q I rx ry ⟨a, b, xs, ys, e1, e2, h1, h2, by rw [← big_eq, r1.length, r2.length]; exact hz, fun p n => q.list sm n (r1.append r2)⟩
    · cases e
  · cases tx; cases ty; cases e
    exact op_sub pins s σ H _ _ v u Q I rx ry ⟨_, _, rfl, rfl, q.same sm (.int _)⟩
  · cases tx; cases ty
    split at e
    · rename_i hz
      cases e
      rcases mulOk_ok hz with hz | hz
      · exact op_mul pins s σ H _ _ v u Q I rx ry ⟨_, _, rfl, rfl, hz, q.same sm (.int _)⟩
      · exact op_mulW pins s σ H _ _ v u Q I rx ry ⟨_, _, rfl, rfl, hz, q.same sm (.int _)⟩
    · cases e
  · obtain ⟨a, xs, e1, h1, r1⟩ := tx
    cases ty
    split at e
    · rename_i hz
      cases e
      exact op_repR pins s σ H _ _ v u Q I rx ry ⟨a, _, xs, e1, rfl, h1, by omega, by omega, by rw [← big_eq, r1.length]; exact hz.1, fun p n => q.list sm n (r1.rep _)⟩
    · cases e
  · cases tx; cases ty
    split at e
    · rename_i hz
      cases e
      unfold divOk at hz
      rw [Bool.and_eq_true] at hz
      exact op_fdivW pins s σ H _ _ v u Q I rx ry ⟨_, _, rfl, rfl, wide_div (of_decide_eq_true hz.1) (of_decide_eq_true hz.2) (by decide) (by decide), q.same sm (.int _)⟩
    · cases e
  · cases tx; cases ty
    split at e
    · rename_i hz
      cases e
      exact op_mod pins s σ H _ _ v u Q I rx ry ⟨_, _, rfl, rfl, hz, q.same sm (.int _)⟩
    · cases e
  · cases tx; cases ty
    split at e
    · rename_i hz
      cases e
      exact op_pow pins s σ H _ _ v u Q I rx ry ⟨_, _, rfl, rfl, ⟨hz.1, by omega, hz.2.2⟩, q.same sm (.int _)⟩
    · cases e
  · cases e

/-! ### comparisons -/
mutual
theorem Rp.dp {K : PySem.W.Frag} {F : Hp} : ∀ {v : V} {d : D}, Rp K F v d → d.canLay0 = true → Dp K F v d
  | _, _, .non, _ => .non
  | _, _, .bl b, _ => .bl b
  | _, _, .int i, _ => .int i
  | _, _, .str z, _ => .str z
  | _, _, .lst h r, c => .lst h (RpA.dp r (by simpa only [PyData.canLay0] using c))
  | _, _, .tup h r, c => .tup (SqT.of h) (RpA.dp r (by simpa only [PyData.canLay0] using c))
  | _, _, .dK h r, c => by simp [PyData.canLay0] at c
  | _, _, .dT h r, c => by simp [PyData.canLay0] at c
theorem RpA.dp {K : PySem.W.Frag} {F : Hp} : ∀ {vs : List V} {ds : List D}, RpA K F vs ds → PyData.canLayAll0 ds = true → DpAll K F vs ds
  | _, _, .nil, _ => .nil
  | _, _, .cons r t, c => by
    simp only [PyData.canLayAll0, Bool.and_eq_true] at c
    exact .cons (Rp.dp r c.1) (RpA.dp t c.2)
end
theorem Rt.dp {K : PySem.W.Frag} {F H : Hp} (s : Same F H) {v : V} {d : D} (h : Rt K F H v d) (c : SeqAt.shaped d = true) : Dp K H v d := by
  have c' := SeqAt.canLay_of_shaped c
  exact Rp.dp (Rt.rp (h.mono s (.refl _))) c'
theorem eqF_some {a b : D} {k : Bool} (h : eqF a b = some k) : SeqAt.shaped a = true ∧ SeqAt.shaped b = true ∧ k = PyData.eqv a b := by
  unfold eqF at h
  split at h
  · rename_i c
    exact ⟨c.1, c.2, (Option.some.inj h).symm⟩
  · cases h
def cmpOf : COp → CmpOp
  | .eq => .Eq
  | .ne => .NotEq
  | .lt => .Lt
  | .le => .LtE
  | .gt => .Gt
  | .ge => .GtE
  | .isin => .In
  | .notin => .NotIn
  | .is => .Is
  | .isnt => .IsNot
def rCmp (K : PySem.W.Frag) (op : COp) : R2 := fun x y H Q => ∃ F dx dy k, Same F H ∧ Rt K F H x dx ∧ Rt K F H y dy ∧ cmpF op dx dy = some k ∧ Q (.bl k) H
theorem eqV_eqv {K : PySem.W.Frag} {F : Hp} {v w : V} {d e : D} (h1 : Rp K F v d) (h2 : Rp K F w e) (f1 : flatD d = true) (f2 : flatD e = true) : flatV v = true ∧ flatV w = true ∧ eqV v w = PyData.eqv d e := by
  cases h1 <;> first | (simp [flatD] at f1; done) | skip
  all_goals cases h2 <;> first | (simp [flatD] at f2; done) | skip
  all_goals refine ⟨rfl, rfl, ?_⟩
  all_goals simp [eqV, PyData.eqv]
theorem inF_sign {y z : Str} {k : Bool} (h : signIn y z = some k) : ∃ c, y = ⟨#[c]⟩ ∧ k = decide (c ∈ z.cps.toList) := by
  unfold signIn at h
  split at h
  · rename_i c e
    refine ⟨c, ?_, (Option.some.inj h).symm⟩
    cases y with
    | mk a =>
      have : a = #[c] := by
        apply Array.toList_inj.mp
        exact e
      rw [this]
  · cases h
theorem fl_bl {pins : List (Addr × Obj)} {σ : L2.St} {H : Hp} {s : Shared} {Q : VK} {k k' : Bool} (I : Inv X pins σ H s) (q : Q (.bl k) H) (e : k = k') : EP X pins σ Q (.bool k') s := by
  subst e
  exact ⟨.bl k, H, I, rfl, q⟩
theorem any_flat {K : PySem.W.Frag} {F : Hp} {x : V} {d : D} (rx : Rp K F x d) (fx : flatD d = true) : ∀ {xs : List V} {ds : List D}, RpA K F xs ds → ds.all flatD = true → xs.all flatV = true ∧ (xs.any fun y => eqV y x) = ds.any fun z => PyData.eqv z d
  | _, _, .nil, _ => ⟨rfl, rfl⟩
  | _, _, .cons r t, f => by
    rw [List.all_cons, Bool.and_eq_true] at f
    obtain ⟨h1, h2⟩ := any_flat rx fx t f.2
    obtain ⟨g1, g2, g3⟩ := eqV_eqv r rx f.1 fx
    exact ⟨by rw [List.all_cons, g1, h1]; rfl, by rw [List.any_cons, List.any_cons, g3, h2]⟩
/-! ### dicts -/
theorem keyD_kd (k : Key) : keyD (kd k) = some k := by cases k <;> rfl
theorem key_rel {K : PySem.W.Frag} {F H : Hp} {y : V} {d : D} {z : Key} (t : Rt K F H y d) (e : keyD d = some z) : y = kV z ∧ d = kd z := by
  unfold keyD at e
  split at e
  · cases e
    cases t
    exact ⟨rfl, rfl⟩
  · cases e
    cases t
    exact ⟨rfl, rfl⟩
  · cases e
theorem dfind_rel {K : PySem.W.Frag} {F : Hp} (z : Key) : ∀ {ks : List (Key × V)} {ds : List D}, RpA K F (ks.map (·.2)) ds → (valV ks z = none ∧ dFind ((ks.map fun p => kd p.1).zip ds) z = none) ∨ ∃ v d, valV ks z = some v ∧ dFind ((ks.map fun p => kd p.1).zip ds) z = some d ∧ Rp K F v d
  | [], _, _ => .inl ⟨rfl, rfl⟩
  | (k, v) :: ks, [], r => by cases r
  | (k, v) :: ks, d :: ds, r => by
    cases r with
    | cons r t =>
      by_cases h : k = z
      · subst h
        refine .inr ⟨v, d, valV_pos rfl, ?_, r⟩
        show ((((kd k, d) :: (ks.map fun p => kd p.1).zip ds).find? fun p => decide (keyD p.1 = some k)).map (·.2)) = _
        rw [List.find?_cons]
        simp [keyD_kd]
      · have e1 : valV ((k, v) :: ks) z = valV ks z := valV_neg h
        have e2 : dFind (((k, v) :: ks).map (fun p => kd p.1) |>.zip (d :: ds)) z = dFind ((ks.map fun p => kd p.1).zip ds) z := by
          show ((((kd k, d) :: (ks.map fun p => kd p.1).zip ds).find? fun p => decide (keyD p.1 = some z)).map (·.2)) = _
          rw [List.find?_cons]
          simp [keyD_kd, h, dFind]
        rw [e1, e2]
        exact dfind_rel z t
theorem kindK_K {K : PySem.W.Frag} {F : Hp} : ∀ {ks : List (Key × V)} {ds : List D}, RpA K F (ks.map (·.2)) ds → kindK ((ks.map fun p => kd p.1).zip ds) = true
  | [], _, _ => rfl
  | (k, v) :: ks, [], r => rfl
  | (k, v) :: ks, d :: ds, r => by
    cases r with
    | cons r t =>
      show (((kd k, d) :: (ks.map fun p => kd p.1).zip ds).all fun p => (keyD p.1).isSome) = true
      rw [List.all_cons]
      have := kindK_K t
      unfold kindK at this
      rw [this]
      simp [keyD_kd]
theorem kindK_T {K : PySem.W.Frag} {F : Hp} {ks : List (List Key × V)} {ds : List D} (h : ks ≠ []) (r : RpA K F (ks.map (·.2)) ds) : kindK ((ks.map fun p => PyData.tuple (p.1.map kd)).zip ds) = false := by
  cases ks with
  | nil => exact absurd rfl h
  | cons p ks =>
    cases ds with
    | nil => cases r
    | cons d ds => rfl
/-- tuples of ints and texts -/
theorem keysA_kd : ∀ k : List Key, keysA (k.map kd) = some k
  | [] => rfl
  | x :: k => by
    show (keyD (kd x)).bind _ = _
    rw [keyD_kd, Option.bind_some, keysA_kd k]
    rfl
theorem keyT_kd (k : List Key) : keyT (.tuple (k.map kd)) = some k := keysA_kd k
theorem keysA_rel {K : PySem.W.Frag} {F : Hp} : ∀ {xs : List V} {ds : List D} {z : List Key}, RpA K F xs ds → keysA ds = some z → xs = z.map kV ∧ ds = z.map kd
  | _, _, z, .nil, e => by
    cases e
    exact ⟨rfl, rfl⟩
  | _, _, z, .cons (d := d) (ds := ds) r t, e => by
    unfold keysA at e
    cases e1 : keyD d with
    | none => rw [e1] at e; cases e
    | some k =>
      cases e2 : keysA ds with
      | none => rw [e1, e2] at e; cases e
      | some k2 =>
        rw [e1, e2] at e
        cases e
        obtain ⟨h1, h2⟩ := keysA_rel t e2
        obtain ⟨g1, g2⟩ := key_rel (Rp.rt (H := F) (.refl _) r) e1
        exact ⟨by rw [h1, g1]; rfl, by rw [h2, g2]; rfl⟩
theorem keyT_rel {K : PySem.W.Frag} {F H : Hp} {y : V} {d : D} {z : List Key} (t : Rt K F H y d) (e : keyT d = some z) : ∃ b, y = .ref b ∧ H b = some (.tup (z.map kV)) ∧ d = .tuple (z.map kd) := by
  cases d with
  | tuple ds =>
    obtain ⟨b, xs, rfl, h, r⟩ := t
    obtain ⟨rfl, rfl⟩ := keysA_rel r e
    exact ⟨b, rfl, h, rfl⟩
  | _ => cases e
theorem dfindT_rel {K : PySem.W.Frag} {F : Hp} (z : List Key) : ∀ {ks : List (List Key × V)} {ds : List D}, RpA K F (ks.map (·.2)) ds → (valV ks z = none ∧ dFindT ((ks.map fun p => PyData.tuple (p.1.map kd)).zip ds) z = none) ∨ ∃ v d, valV ks z = some v ∧ dFindT ((ks.map fun p => PyData.tuple (p.1.map kd)).zip ds) z = some d ∧ Rp K F v d
  | [], _, _ => .inl ⟨rfl, rfl⟩
  | (k, v) :: ks, [], r => by cases r
  | (k, v) :: ks, d :: ds, r => by
    cases r with
    | cons r t =>
      by_cases h : k = z
      · subst h
        refine .inr ⟨v, d, valV_pos rfl, ?_, r⟩
        show ((((PyData.tuple (k.map kd), d) :: (ks.map fun p => PyData.tuple (p.1.map kd)).zip ds).find? fun p => decide (keyT p.1 = some k)).map (·.2)) = _
        rw [List.find?_cons]
        simp [keyT_kd]
      · have e1 : valV ((k, v) :: ks) z = valV ks z := valV_neg h
        have e2 : dFindT (((k, v) :: ks).map (fun p => PyData.tuple (p.1.map kd)) |>.zip (d :: ds)) z = dFindT ((ks.map fun p => PyData.tuple (p.1.map kd)).zip ds) z := by
          show ((((PyData.tuple (k.map kd), d) :: (ks.map fun p => PyData.tuple (p.1.map kd)).zip ds).find? fun p => decide (keyT p.1 = some z)).map (·.2)) = _
          rw [List.find?_cons]
          simp [keyT_kd, h, dFindT]
        rw [e1, e2]
        exact dfindT_rel z t
theorem kindT_T {K : PySem.W.Frag} {F : Hp} : ∀ {ks : List (List Key × V)} {ds : List D}, RpA K F (ks.map (·.2)) ds → kindT ((ks.map fun p => PyData.tuple (p.1.map kd)).zip ds) = true
  | [], _, _ => rfl
  | (k, v) :: ks, [], r => rfl
  | (k, v) :: ks, d :: ds, r => by
    cases r with
    | cons r t =>
      show (((PyData.tuple (k.map kd), d) :: (ks.map fun p => PyData.tuple (p.1.map kd)).zip ds).all fun p => (keyT p.1).isSome) = true
      rw [List.all_cons]
      have := kindT_T t
      unfold kindT at this
      rw [this]
      simp [keyT_kd]
theorem dget_rel {K : PySem.W.Frag} {F H : Hp} {x y : V} {kvs : List (D × D)} {dk : D} {o : Option D} (t : Rt K F H x (.dict kvs)) (tk : Rt K F H y dk) (e : dGetF kvs dk = some o) :
    ∃ a o', x = .ref a ∧ DGet H a y o' ∧ o.isSome = o'.isSome ∧ ∀ d, o = some d → ∃ v, o' = some v ∧ Rp K F v d := by
  unfold dGetF at e
  split at e
  · rename_i hk
    rw [Option.map_eq_some_iff] at e
    obtain ⟨z, ez, rfl⟩ := e
    obtain ⟨rfl, rfl⟩ := key_rel tk ez
    rcases t with ⟨a, ks, ds, rfl, h, r, rfl⟩ | ⟨a, ks, ds, rfl, h, r, rfl⟩
    · refine ⟨a, valV ks z, rfl, .inl ⟨ks, z, h, rfl, rfl⟩, ?_, fun d hd => ?_⟩
      · rcases dfind_rel z r with ⟨h1, h2⟩ | ⟨v, d, h1, h2, _⟩ <;> rw [h1, h2] <;> rfl
      · rcases dfind_rel z r with ⟨h1, h2⟩ | ⟨v, d', h1, h2, h3⟩
        · rw [h2] at hd; cases hd
        · rw [h2] at hd; cases hd
          exact ⟨v, h1, h3⟩
    · rw [kindK_T h.2 r] at hk
      cases hk
  · rename_i hk
    split at e
    · rw [Option.map_eq_some_iff] at e
      obtain ⟨z, ez, rfl⟩ := e
      obtain ⟨b, rfl, hb, rfl⟩ := keyT_rel tk ez
      rcases t with ⟨a, ks, ds, rfl, h, r, rfl⟩ | ⟨a, ks, ds, rfl, h, r, rfl⟩
      · exact absurd (kindK_K r) hk
      · refine ⟨a, valV ks z, rfl, .inr ⟨ks, z, b, .inl h.1, rfl, hb, rfl⟩, ?_, fun d hd => ?_⟩
        · rcases dfindT_rel z r with ⟨h1, h2⟩ | ⟨v, d, h1, h2, _⟩ <;> rw [h1, h2] <;> rfl
        · rcases dfindT_rel z r with ⟨h1, h2⟩ | ⟨v, d', h1, h2, h3⟩
          · rw [h2] at hd; cases hd
          · rw [h2] at hd; cases hd
            exact ⟨v, h1, h3⟩
    · cases e
theorem op_cmp (hu : X.A.units + 65 < cLine) (op : COp) : OpR X (compareOp (cmpOf op)) (rCmp X.K op) := by
  intro pins s σ H x y v u Q I rx ry ⟨F, dx, dy, k, sm, tx, ty, e, q⟩
  unfold cmpF at e
  split at e
  · obtain ⟨c1, c2, rfl⟩ := eqF_some e
    exact op_eqD (by omega) pins s σ H _ _ v u Q I rx ry ⟨_, _, tx.dp sm c1, ty.dp sm c2, c1, c2, q⟩
  · rw [Option.map_eq_some_iff] at e
    obtain ⟨k', e, rfl⟩ := e
    obtain ⟨c1, c2, rfl⟩ := eqF_some e
    exact op_neD (by omega) pins s σ H _ _ v u Q I rx ry ⟨_, _, tx.dp sm c1, ty.dp sm c2, c1, c2, q⟩
  · cases tx; cases ty; cases e
    exact op_lt pins s σ H _ _ v u Q I rx ry ⟨_, _, rfl, rfl, q⟩
  · cases tx; cases ty; cases e
    exact op_le pins s σ H _ _ v u Q I rx ry ⟨_, _, rfl, rfl, q⟩
  · cases tx; cases ty; cases e
    exact op_gt pins s σ H _ _ v u Q I rx ry ⟨_, _, rfl, rfl, q⟩
  · cases tx; cases ty; cases e
    exact op_ge pins s σ H _ _ v u Q I rx ry ⟨_, _, rfl, rfl, q⟩
  · unfold inF at e
    split at e
    · split at e
      · obtain ⟨c, rfl, rfl⟩ := inF_sign e
        cases tx; cases ty
        exact op_in_sign pins s σ H _ _ v u Q I rx ry ⟨_, _, rfl, rfl, q⟩
      · cases e
    · split at e
      · rename_i c
        cases e
        exact op_inD hu pins s σ H _ _ v u Q I rx ry ⟨_, _, tx.dp sm c.1, ty.dp sm c.2, c.1, c.2, q⟩
      · cases e
    · split at e
      · rename_i c
        cases e
        obtain ⟨a, xs, rfl, hq, rr⟩ := ty
        obtain ⟨g1, g2⟩ := any_flat (Rt.rp (tx.mono sm (.refl _))) c.1 (rr.mono sm) c.2.1
        have g0 := (eqV_eqv (Rt.rp (tx.mono sm (.refl _))) (Rt.rp (tx.mono sm (.refl _))) c.1 c.1).1
        exact op_in_seq pins s σ H _ _ v u Q I rx ry ⟨a, xs, rfl, .inr (SqT.of hq), g0, g1, by unfold inV; rw [g2]; exact q⟩
      · cases e
    · rw [Option.map_eq_some_iff] at e
      obtain ⟨o, e, rfl⟩ := e
      obtain ⟨a, o', rfl, g, hs, _⟩ := dget_rel ty tx e
      cases (show u = Value.ref a from ry)
      exact d_in (by omega) I g rx fun s3 I3 => ⟨.bl o'.isSome, H, I3, rfl, by rw [← hs]; exact q⟩
    · cases e
  · rw [Option.map_eq_some_iff] at e
    obtain ⟨k', e, rfl⟩ := e
    unfold inF at e
    split at e
    · split at e
      · obtain ⟨c, rfl, rfl⟩ := inF_sign e
        cases tx; cases ty
        exact op_notIn_sign pins s σ H _ _ v u Q I rx ry ⟨_, _, rfl, rfl, q⟩
      · cases e
    · split at e
      · rename_i c
        cases e
        exact op_notInD hu pins s σ H _ _ v u Q I rx ry ⟨_, _, tx.dp sm c.1, ty.dp sm c.2, c.1, c.2, q⟩
      · cases e
    · split at e
      · rename_i c
        cases e
        obtain ⟨a, xs, rfl, hq, rr⟩ := ty
        obtain ⟨g1, g2⟩ := any_flat (Rt.rp (tx.mono sm (.refl _))) c.1 (rr.mono sm) c.2.1
        have g0 := (eqV_eqv (Rt.rp (tx.mono sm (.refl _))) (Rt.rp (tx.mono sm (.refl _))) c.1 c.1).1
        exact op_notIn_seq pins s σ H _ _ v u Q I rx ry ⟨a, xs, rfl, .inr (SqT.of hq), g0, g1, by unfold inV; rw [g2]; exact q⟩
      · cases e
    · rw [Option.map_eq_some_iff] at e
      obtain ⟨o, e, rfl⟩ := e
      obtain ⟨a, o', rfl, g, hs, _⟩ := dget_rel ty tx e
      cases (show u = Value.ref a from ry)
      exact d_notIn (by omega) I g rx fun s3 I3 => ⟨.bl (!o'.isSome), H, I3, rfl, by rw [← hs]; exact q⟩
    · cases e
  · cases tx; cases ty; cases e
    exact op_isBl pins s σ H _ _ v u Q I rx ry ⟨_, _, rfl, rfl, q⟩
  · cases tx; cases ty; cases e
    exact op_notBl pins s σ H _ _ v u Q I rx ry ⟨_, _, rfl, rfl, q⟩
  · cases e
end
end MP

set_option linter.all false
set_option maxRecDepth 100000
set_option maxHeartbeats 2000000
/-! MP: built-ins, places, slices, truth, methods, what loops walk. -/
namespace MP
open PySem L2

/-- several values -/
inductive RtA (K : PySem.W.Frag) (F H : Hp) : List V → List D → Prop
  | nil : RtA K F H [] []
  | cons {v : V} {vs : List V} {d : D} {ds : List D} : Rt K F H v d → RtA K F H vs ds → RtA K F H (v :: vs) (d :: ds)
theorem RtA.one {K : PySem.W.Frag} {F H : Hp} {vs : List V} {d : D} (h : RtA K F H vs [d]) : ∃ v, vs = [v] ∧ Rt K F H v d := by
  cases h with
  | cons h t => cases t; exact ⟨_, rfl, h⟩
theorem RtA.two {K : PySem.W.Frag} {F H : Hp} {vs : List V} {d e : D} (h : RtA K F H vs [d, e]) : ∃ v w, vs = [v, w] ∧ Rt K F H v d ∧ Rt K F H w e := by
  cases h with
  | cons h t =>
    obtain ⟨w, rfl, h2⟩ := t.one
    exact ⟨_, _, rfl, h, h2⟩
def bltVal : Blt → Value
  | .len => .builtin "len"
  | .abs => .builtin "abs"
  | .int => .type "int"
  | .str => .type "str"
  | .repr => .builtin "repr"
  | .list => .type "list"
  | .tuple => .type "tuple"
  | .sorted => .builtin "sorted"
  | .sum => .builtin "sum"
  | .min => .builtin "min"
  | .max => .builtin "max"
  | .bool => .type "bool"
def rBlt (K : PySem.W.Frag) (f : Blt) : List V → Hp → VK → Prop := fun xs H Q => ∃ F ds r, Same F H ∧ RtA K F H xs ds ∧ bltF f ds = some r ∧ OutQ K F H r Q
/-- it wants that nothing is handled -/
def hotBad : Blt → Bool
  | .sum | .min | .max => true
  | _ => false
theorem perm_ins (x : Int) : ∀ l : List Int, (insI x l).Perm (x :: l)
  | [] => .refl _
  | y :: r => by
    unfold insI
    split
    · exact .refl _
    · exact ((perm_ins x r).cons y).trans (.swap x y r)
theorem perm_sort : ∀ l : List Int, (sortI l).Perm l
  | [] => .refl _
  | x :: r => (perm_ins x (sortI r)).trans ((perm_sort r).cons x)
theorem sorted_ins (x : Int) : ∀ l : List Int, l.Pairwise (· ≤ ·) → (insI x l).Pairwise (· ≤ ·)
  | [], _ => List.pairwise_singleton _ _
  | y :: r, h => by
    unfold insI
    rw [List.pairwise_cons] at h
    split
    · rename_i c
      rw [List.pairwise_cons]
      refine ⟨fun z hz => ?_, List.pairwise_cons.mpr h⟩
      rcases List.mem_cons.mp hz with rfl | hz
      · exact c
      · exact Int.le_trans c (h.1 z hz)
    · rename_i c
      rw [List.pairwise_cons]
      refine ⟨fun z hz => ?_, sorted_ins x r h.2⟩
      rcases List.mem_cons.mp ((perm_ins x r).mem_iff.mp hz) with rfl | hz
      · omega
      · exact h.1 z hz
theorem sorted_sort : ∀ l : List Int, (sortI l).Pairwise (· ≤ ·)
  | [] => .nil
  | x :: r => sorted_ins x _ (sorted_sort r)
theorem sort_unique {a l : List Int} (hp : a.Perm l) (h : a.Pairwise (· ≤ ·)) : a = sortI l   := PySem.W.ksm_same (hp.trans (perm_sort l).symm) h (sorted_sort l)
theorem log2_lt1900 {n : Nat} (h : n < 2 ^ 1900) : n.log2 < 1920 := by
  have := PySem.Flt.log2_lt_of (k := 1900) (n := n) (by decide) h
  omega
section
variable {prog : Program} {w : World} {A : Around} {E : Value → Shared → Prop} {s : Shared} {l : Addr} {its : List Value} {ns : List Int} {Q : Value → Shared → Prop}
theorem max_tup (hh : A.handled = none) (hl : s.heap.IsTuple l its.toArray) (hi : PyProof.Rows.IntsAre its ns) (hne : 0 < ns.length)
    (h : ∀ h' tk M t', (∀ b o, s.heap.get? b = some o → h'.get? b = some o) → M ∈ ns → (∀ a, a ∈ ns → a ≤ M) → Q (.int M t') { s with heap := h', toks := tk }) : wpAny (model prog w) A (call (.builtin "max") [.ref l]) Q E s := by
  obtain ⟨xs, e⟩ := hi.allInts.items
  have hn : numsOf (intItems xs).toList = ns := by rw [← e]; exact hi.numsOf
  rw [nums_intItems] at hn
  subst hn
  rw [e] at hl
  have hsz : 0 < xs.size := by simpa using hne
  have hlt : l < s.heap.objs.size := by obtain ⟨_, e, _⟩ := hl; exact Heap.lt_size e
  refine call_max_walk (wpAny_pyIter_tuple hl ?_)
  refine ⟨_, [_, l], [_], _, _, _, _, rfl, Walks.tuple (A := A.in1) hh _ l (Nat.ne_of_lt hlt) (intItems xs), ⟨⟨_, Heap.get?_push_size _ rfl, rfl, rfl⟩, hl.push _⟩, fun b hb => ?_, by simpa [intItems] using hsz, CmpOf.ints_gt (numAt xs) (fun _ _ => intItems_at), fun v h' tk hP hk => ?_⟩
  · show b < (s.heap.push _).objs.size
    rw [Heap.size_push]
    rcases List.mem_cons.mp hb with rfl | hb
    · exact Nat.lt_succ_self _
    · rcases List.mem_cons.mp hb with rfl | hb
      · exact Nat.lt_succ_of_lt hlt
      · cases hb
  · have hv : (intItems xs)[argBest (fun i j => decide (numAt xs i > numAt xs j)) (xs.size - 1)]? = some v := by simpa [intItems] using hP
    obtain ⟨t, rfl⟩ := intItems_at hv
    obtain ⟨h1, h2⟩ := argBest_gt (numAt xs) (xs.size - 1)
    refine h h' tk _ t (fun b o e => hk b o (fun hm => ?_) (Heap.get?_push_of_some _ e)) ?_ fun a ha => ?_
    · exact absurd (List.mem_singleton.mp hm ▸ Heap.lt_size e) (Nat.lt_irrefl _)
    · rw [numAt_eq]; exact PySem.getD_mem (by rw [List.length_map, Array.length_toList]; omega)
    · obtain ⟨j, hj, rfl⟩ := mem_getD ha
      rw [List.length_map, Array.length_toList] at hj
      rw [← numAt_eq]; exact h2 j (by omega)
theorem min_tup (hh : A.handled = none) (hl : s.heap.IsTuple l its.toArray) (hi : PyProof.Rows.IntsAre its ns) (hne : 0 < ns.length)
    (h : ∀ h' tk M t', (∀ b o, s.heap.get? b = some o → h'.get? b = some o) → M ∈ ns → (∀ a, a ∈ ns → M ≤ a) → Q (.int M t') { s with heap := h', toks := tk }) : wpAny (model prog w) A (call (.builtin "min") [.ref l]) Q E s := by
  obtain ⟨xs, e⟩ := hi.allInts.items
  have hn : numsOf (intItems xs).toList = ns := by rw [← e]; exact hi.numsOf
  rw [nums_intItems] at hn
  subst hn
  rw [e] at hl
  have hsz : 0 < xs.size := by simpa using hne
  have hlt : l < s.heap.objs.size := by obtain ⟨_, e, _⟩ := hl; exact Heap.lt_size e
  refine call_min_walk (wpAny_pyIter_tuple hl ?_)
  refine ⟨_, [_, l], [_], _, _, _, _, rfl, Walks.tuple (A := A.in1) hh _ l (Nat.ne_of_lt hlt) (intItems xs), ⟨⟨_, Heap.get?_push_size _ rfl, rfl, rfl⟩, hl.push _⟩, fun b hb => ?_, by simpa [intItems] using hsz, CmpOf.ints_lt (numAt xs) (fun _ _ => intItems_at), fun v h' tk hP hk => ?_⟩
  · show b < (s.heap.push _).objs.size
    rw [Heap.size_push]
    rcases List.mem_cons.mp hb with rfl | hb
    · exact Nat.lt_succ_self _
    · rcases List.mem_cons.mp hb with rfl | hb
      · exact Nat.lt_succ_of_lt hlt
      · cases hb
  · have hv : (intItems xs)[argBest (fun i j => decide (numAt xs i < numAt xs j)) (xs.size - 1)]? = some v := by simpa [intItems] using hP
    obtain ⟨t, rfl⟩ := intItems_at hv
    obtain ⟨h1, h2⟩ := argBest_lt (numAt xs) (xs.size - 1)
    refine h h' tk _ t (fun b o e => hk b o (fun hm => ?_) (Heap.get?_push_of_some _ e)) ?_ fun a ha => ?_
    · exact absurd (List.mem_singleton.mp hm ▸ Heap.lt_size e) (Nat.lt_irrefl _)
    · rw [numAt_eq]; exact PySem.getD_mem (by rw [List.length_map, Array.length_toList]; omega)
    · obtain ⟨j, hj, rfl⟩ := mem_getD ha
      rw [List.length_map, Array.length_toList] at hj
      rw [← numAt_eq]; exact h2 j (by omega)
end
theorem maxI_mem : ∀ {l : List Int} {m : Int}, maxI l = some m → m ∈ l ∧ ∀ y, y ∈ l → y ≤ m
  | x :: r, m, h => by
    unfold maxI at h
    cases e : maxI r with
    | none =>
      rw [e] at h
      cases h
      cases r with
      | nil => simp
      | cons a b => simp [maxI] at e
    | some y =>
      rw [e] at h
      obtain ⟨h1, h2⟩ := maxI_mem e
      dsimp only at h
      split at h
      · cases h
        refine ⟨List.mem_cons_of_mem _ h1, fun z hz => ?_⟩
        rcases List.mem_cons.mp hz with rfl | hz
        · omega
        · exact h2 z hz
      · cases h
        refine ⟨List.mem_cons_self .., fun z hz => ?_⟩
        rcases List.mem_cons.mp hz with rfl | hz
        · omega
        · have := h2 z hz; omega
theorem minI_mem : ∀ {l : List Int} {m : Int}, minI l = some m → m ∈ l ∧ ∀ y, y ∈ l → m ≤ y
  | x :: r, m, h => by
    unfold minI at h
    cases e : minI r with
    | none =>
      rw [e] at h
      cases h
      cases r with
      | nil => simp
      | cons a b => simp [minI] at e
    | some y =>
      rw [e] at h
      obtain ⟨h1, h2⟩ := minI_mem e
      dsimp only at h
      split at h
      · cases h
        refine ⟨List.mem_cons_of_mem _ h1, fun z hz => ?_⟩
        rcases List.mem_cons.mp hz with rfl | hz
        · omega
        · exact h2 z hz
      · cases h
        refine ⟨List.mem_cons_self .., fun z hz => ?_⟩
        rcases List.mem_cons.mp hz with rfl | hz
        · omega
        · have := h2 z hz; omega
theorem len_pos {l : List Int} {m : Int} (h : m ∈ l) : 0 < l.length := by
  cases l with
  | nil => cases h
  | cons a b => simp
section
variable {X : Cx}
theorem cr_maxT (hc : X.calm = true) : CallR X (.builtin "max") (fun vs H Q => ∃ (a : Addr) (ns : List Int), vs = [V.ref a] ∧ SqT X.K H a (ns.map V.int) ∧ 0 < ns.length ∧ ∀ m, m ∈ ns → (∀ y, y ∈ ns → y ≤ m) → Q (.int m) H) := by
  intro pins s σ H vs us Q I r h
  obtain ⟨a, ns, rfl, hs, hne, q⟩ := h
  obtain ⟨its, rv, hl, _⟩ := I.tuple hs
  rw [Vals.ref1 r]
  exact max_tup (I.ok.hd hc) hl rv.ints hne fun h' tk m t' hk h1 h2 => ⟨.int _, H, I.kept hk, ⟨_, rfl⟩, q m h1 h2⟩
theorem cr_minT (hc : X.calm = true) : CallR X (.builtin "min") (fun vs H Q => ∃ (a : Addr) (ns : List Int), vs = [V.ref a] ∧ SqT X.K H a (ns.map V.int) ∧ 0 < ns.length ∧ ∀ m, m ∈ ns → (∀ y, y ∈ ns → m ≤ y) → Q (.int m) H) := by
  intro pins s σ H vs us Q I r h
  obtain ⟨a, ns, rfl, hs, hne, q⟩ := h
  obtain ⟨its, rv, hl, _⟩ := I.tuple hs
  rw [Vals.ref1 r]
  exact min_tup (I.ok.hd hc) hl rv.ints hne fun h' tk m t' hk h1 h2 => ⟨.int _, H, I.kept hk, ⟨_, rfl⟩, q m h1 h2⟩
theorem call_blt (f : Blt) (hc : hotBad f = true → X.calm = true) : CallR X (bltVal f) (rBlt X.K f) := by
  intro pins s σ H xs us Q I r ⟨F, ds, res, sm, tx, e, q⟩
  unfold bltF at e
  split at e
  · cases e
    obtain ⟨v, rfl, a, ys, rfl, h, rr⟩ := tx.one
    exact call_len pins s σ H _ us Q I r ⟨_, _, rfl, .inl ⟨ys, h, rfl⟩, by rw [rr.length]; exact q.same sm (.int _)⟩
  · cases e
    obtain ⟨v, rfl, a, ys, rfl, h, rr⟩ := tx.one
    exact call_len pins s σ H _ us Q I r ⟨_, _, rfl, .inr ⟨ys, SqT.of h, rfl⟩, by rw [rr.length]; exact q.same sm (.int _)⟩
  · split at e
    · rename_i hz
      cases e
      obtain ⟨v, rfl, rfl⟩ := tx.one
      exact call_len pins s σ H _ us Q I r ⟨_, _, rfl, ⟨by rw [← big_eq]; exact hz, rfl⟩, q.same sm (.int _)⟩
    · cases e
  · cases e
    obtain ⟨v, rfl, rfl⟩ := tx.one
    exact call_abs pins s σ H _ us Q I r ⟨_, rfl, q.same sm (.int _)⟩
  · cases e
    obtain ⟨v, rfl, rfl⟩ := tx.one
    exact call_int1 pins s σ H _ us Q I r (.inl ⟨_, rfl, q.same sm (.int _)⟩)
  · cases e
    obtain ⟨v, rfl, rfl⟩ := tx.one
    exact call_int1 pins s σ H _ us Q I r (.inr ⟨_, rfl, q.same sm (.int _)⟩)
  · split at e
    · rename_i hz
      cases e
      obtain ⟨v, rfl, rfl⟩ := tx.one
      exact call_str_int pins s σ H _ us Q I r ⟨_, rfl, log2_lt1900 hz, q.same sm (.str _)⟩
    · cases e
  · cases e
    obtain ⟨v, rfl, rfl⟩ := tx.one
    exact SkE.call_str_str pins s σ H _ us Q I r ⟨_, rfl, q.same sm (.str _)⟩
  · cases e
    obtain ⟨v, rfl, a, ys, rfl, h, rr⟩ := tx.one
    exact call_list_of pins s σ H _ us Q I r ⟨a, ys, rfl, .inl h, fun l hl => q.list sm hl rr⟩
  · cases e
    obtain ⟨v, rfl, a, ys, rfl, h, rr⟩ := tx.one
    exact call_list_of pins s σ H _ us Q I r ⟨a, ys, rfl, .inr (SqT.of h), fun l hl => q.list sm hl rr⟩
  · cases e
    obtain ⟨v, rfl, a, ys, rfl, h, rr⟩ := tx.one
    have el : ∀ {xs : List V} {ds : List D}, RpA X.K F xs ds → xs.isEmpty = ds.isEmpty := fun r => by cases r <;> rfl
    exact call_boolL pins s σ H _ us Q I r ⟨a, ys, rfl, h, by rw [el rr]; exact q.same sm (.bl _)⟩
  · cases e
    obtain ⟨v, rfl, a, ys, rfl, h, rr⟩ := tx.one
    obtain ⟨u, rfl, ru⟩ := r.one
    exact rl_tuple pins s σ H _ _ Q I ru (.inl ⟨a, ys, rfl, h, fun l hl => q.tup sm hl rr⟩)
  · rw [Option.map_eq_some_iff] at e
    obtain ⟨ns, e, rfl⟩ := e
    obtain ⟨v, rfl, a, ys, rfl, h, rr⟩ := tx.one
    obtain ⟨g1, g2⟩ := rr.ints e
    subst g1
    exact cr_sortedI pins s σ H _ us Q I r ⟨a, ns, rfl, h, fun ns' p hp hs hn => by rw [sort_unique hp hs]; exact q.list sm hn (.of_ints _)⟩
  · rw [Option.map_eq_some_iff] at e
    obtain ⟨ns, e, rfl⟩ := e
    obtain ⟨v, rfl, a, ys, rfl, h, rr⟩ := tx.one
    obtain ⟨g1, g2⟩ := rr.ints e
    subst g1
    exact cr_sum (hc rfl) pins s σ H _ us Q I r ⟨a, ns, rfl, h, q.same sm (.int _)⟩
  · cases e
    obtain ⟨v, w, rfl, rfl, rfl⟩ := tx.two
    exact call_max2 (hc rfl) pins s σ H _ us Q I r ⟨_, _, rfl, q.same sm (.int _)⟩
  · cases e
    obtain ⟨v, w, rfl, rfl, rfl⟩ := tx.two
    exact call_min2 (hc rfl) pins s σ H _ us Q I r ⟨_, _, rfl, q.same sm (.int _)⟩
  · rw [Option.map_eq_some_iff] at e
    obtain ⟨m, e, rfl⟩ := e
    obtain ⟨ns, e, em⟩ := Option.bind_eq_some_iff.mp e
    obtain ⟨v, rfl, a, ys, rfl, h, rr⟩ := tx.one
    obtain ⟨g1, g2⟩ := rr.ints e
    subst g1
    obtain ⟨m1, m2⟩ := maxI_mem em
    refine cr_max (hc rfl) pins s σ H _ us Q I r ⟨a, ns, rfl, h, len_pos m1, fun m' k1 k2 => ?_⟩
    rw [show m' = m from Int.le_antisymm (m2 _ k1) (k2 _ m1)]
    exact q.same sm (.int _)
  · rw [Option.map_eq_some_iff] at e
    obtain ⟨m, e, rfl⟩ := e
    obtain ⟨ns, e, em⟩ := Option.bind_eq_some_iff.mp e
    obtain ⟨v, rfl, a, ys, rfl, h, rr⟩ := tx.one
    obtain ⟨g1, g2⟩ := rr.ints e
    subst g1
    obtain ⟨m1, m2⟩ := maxI_mem em
    refine cr_maxT (hc rfl) pins s σ H _ us Q I r ⟨a, ns, rfl, SqT.of h, len_pos m1, fun m' k1 k2 => ?_⟩
    rw [show m' = m from Int.le_antisymm (m2 _ k1) (k2 _ m1)]
    exact q.same sm (.int _)
  · rw [Option.map_eq_some_iff] at e
    obtain ⟨m, e, rfl⟩ := e
    obtain ⟨ns, e, em⟩ := Option.bind_eq_some_iff.mp e
    obtain ⟨v, rfl, a, ys, rfl, h, rr⟩ := tx.one
    obtain ⟨g1, g2⟩ := rr.ints e
    subst g1
    obtain ⟨m1, m2⟩ := minI_mem em
    refine cr_min (hc rfl) pins s σ H _ us Q I r ⟨a, ns, rfl, h, len_pos m1, fun m' k1 k2 => ?_⟩
    rw [show m' = m from Int.le_antisymm (k2 _ m1) (m2 _ k1)]
    exact q.same sm (.int _)
  · rw [Option.map_eq_some_iff] at e
    obtain ⟨m, e, rfl⟩ := e
    obtain ⟨ns, e, em⟩ := Option.bind_eq_some_iff.mp e
    obtain ⟨v, rfl, a, ys, rfl, h, rr⟩ := tx.one
    obtain ⟨g1, g2⟩ := rr.ints e
    subst g1
    obtain ⟨m1, m2⟩ := minI_mem em
    refine cr_minT (hc rfl) pins s σ H _ us Q I r ⟨a, ns, rfl, SqT.of h, len_pos m1, fun m' k1 k2 => ?_⟩
    rw [show m' = m from Int.le_antisymm (k2 _ m1) (m2 _ k1)]
    exact q.same sm (.int _)
  · cases e

/-! ### places, slices -/
def rIdx (K : PySem.W.Frag) : R2 := fun x y H Q => ∃ F dx dy d, Same F H ∧ Rt K F H x dx ∧ Rt K F H y dy ∧ idxF dx dy = some d ∧ OutQ K F H (.val d) Q
theorem atI_rel {K : PySem.W.Frag} {F : Hp} {vs : List V} {ds : List D} {i : Int} {d : D} (r : RpA K F vs ds) (h : atI ds i = some d) : ∃ v, atI vs i = some v ∧ Rp K F v d := by
  unfold atI at h ⊢
  rw [← r.length] at h
  cases e : ixN vs.length i with
  | none => rw [e] at h; cases h
  | some j =>
    rw [e] at h
    exact r.get (show ds[j]? = some d from h)
theorem ix_any : IxR X (rIdx X.K) := by
  intro va sl pins s σ H x y v u Q I rx ry ⟨F, dx, dy, d, sm, tx, ty, e, q⟩ hs
  unfold idxF at e
  split at e
  · obtain ⟨a, xs, rfl, h, rr⟩ := tx
    cases ty
    obtain ⟨w, hw, rw'⟩ := atI_rel rr e
    exact ix_list va sl pins s σ H _ _ v u Q I rx ry ⟨a, xs, _, w, rfl, rfl, h, hw, q.same sm rw'⟩ hs
  · obtain ⟨a, xs, rfl, h, rr⟩ := tx
    cases ty
    obtain ⟨w, hw, rw'⟩ := atI_rel rr e
    exact ix_tup va sl pins s σ H _ _ v u Q I rx ry ⟨a, xs, _, w, rfl, rfl, SqT.of h, hw, q.same sm rw'⟩ hs
  · split at e
    · rename_i hz
      rw [Option.map_eq_some_iff] at e
      obtain ⟨c, e, rfl⟩ := e
      cases tx; cases ty
      exact ix_str va sl pins s σ H _ _ v u Q I rx ry ⟨_, _, c, rfl, rfl, by rw [← big_eq]; exact hz, e, q.same sm (.str _)⟩ hs
    · cases e
  · cases e
def rSlc (K : PySem.W.Frag) : V → Option Int → Option Int → Hp → VK → Prop := fun x lo hi H Q => ∃ F dx r, Same F H ∧ Rt K F H x dx ∧ slcF dx lo hi = some r ∧ OutQ K F H r Q
theorem sl_any : SlR X (rSlc X.K) := by
  intro pins s σ H x vx vl vh lo hi sl Q I rx hs hl hh ⟨F, dx, r, sm, tx, e, q⟩
  unfold slcF at e
  split at e
  · cases e
    obtain ⟨a, xs, rfl, h, rr⟩ := tx
    refine sl_list pins s σ H _ vx vl vh lo hi sl Q I rx hs hl hh ⟨a, xs, rfl, h, fun p hp => q.list sm hp ?_⟩
    unfold cutV cutD
    rw [rr.length]
    exact (rr.drop _).take _
  · rename_i ds
    split at e
    · cases e
    · rename_i hw
      cases e
      obtain ⟨a, xs, rfl, h, rr⟩ := tx
      refine sl_tup pins s σ H _ vx vl vh lo hi sl Q I rx hs hl hh ⟨a, xs, rfl, .of h, by rw [rr.length]; exact hw, fun p hp => q.tup sm hp ?_⟩
      unfold cutV cutD
      rw [rr.length]
      exact (rr.drop _).take _
  · cases e

/-! ### truth -/
theorem tru_of {K : PySem.W.Frag} {F H : Hp} {v : V} {d : D} {k : Bool} (h : Rt K F H v d) (e : truthF d = some k) : TruV K v H k := by
  unfold truthF at e
  split at e
  · cases h; cases e; rfl
  · cases h; cases e; rfl
  · cases h; cases e; rfl
  · cases h
    split at e
    · rename_i hz
      cases e
      exact ⟨by rw [← big_eq]; exact hz, rfl⟩
    · cases e
  · obtain ⟨a, xs, rfl, h, rr⟩ := h
    cases e
    refine .inl ⟨xs, h, ?_⟩
    cases rr <;> rfl
  · obtain ⟨a, xs, rfl, h, rr⟩ := h
    cases e
    refine .inr (.inl ⟨xs, SqT.of h, ?_⟩)
    cases rr <;> rfl
  · cases e
end
end MP

set_option linter.all false
set_option maxRecDepth 100000
set_option maxHeartbeats 2000000
/-! MP: expressions. What the evaluator gives is what the model does. -/
namespace MP
open PySem L2

structure Pm where
  K : PySem.W.Frag
  Γ : Cfg
  xc : Nat → Addr
  nx : Nat
/-- an error of kind x -/
def XRel (M : Pm) (x : Nat) (p : D) (cls : Value) (d : Option Addr) (F H : Hp) : Prop := x < M.nx ∧ cls = .ref (M.xc x) ∧ match p with
  | .none => d = none
  | p => ∃ dd f v, d = some dd ∧ H dd = some (.xd [(f, v)]) ∧ Rp M.K F v p
def Post (M : Pm) (G : Gh) (W : WX) (F : Hp) (σ : L2.St) (res : R Res) (Q : VK) : Prop := match res with
  | .ok r s' => ∀ as' F' H' v aT, Same F F' → StA M.K G as' F' s' σ H' → RRel M.K G as' F' σ H' v r aT → Q v H'
  | .ex x p s' => ∀ as' F' H' cls d, Same F F' → StA M.K G as' F' s' σ H' → XRel M x p cls d F' H' → W cls d σ H'
  | .stk => False
def tE (M : Pm) (W : WX) (ce : E) : TE := fun σ H Q => ∃ G as F s, StA M.K G as F s σ H ∧ Post M G W F σ (ev M.Γ false ce s) Q
def bOf : V → Option Bool
  | .bl b => some b
  | _ => none
def tT (M : Pm) (W : WX) (ce : E) : TT := fun σ H Q => ∃ G as F s, StA M.K G as F s σ H ∧ Post M G W F σ (ev M.Γ true ce s) (fun v H' => ∃ b, v = .bl b ∧ Q b H')
/-- around a body nothing is let out -/
theorem takesN0 {X : Cx} : L2N.Takes X (fun _ _ _ _ => False) := fun _ _ x => by
  obtain ⟨_, _, _, _, _, _, _, _, _, _, _, _, _, _, _, _, z⟩ := x
  exact z.elim
structure EV (M : Pm) (X : Cx) (e : Expr) (ce : E) : Prop where
  run : ∀ W, L2N.Takes X W → PE X e (tE M W ce)
structure TV (M : Pm) (X : Cx) (e : Expr) (ce : E) : Prop where
  run : ∀ W, L2N.Takes X W → PT X e (tT M W ce)
theorem PE.imp {X : Cx} {e : Expr} {t t' : TE} (h : PE X e t) (i : ∀ σ H Q, t' σ H Q → t σ H Q) : PE X e t' := ⟨fun pins s σ H Q I q => h.run pins s σ H Q I (i _ _ _ q)⟩
theorem PT.imp {X : Cx} {e : Expr} {t t' : TT} (h : PT X e t) (i : ∀ σ H Q, t' σ H Q → t σ H Q) : PT X e t' := ⟨fun pins s σ H Q I q => h.run pins s σ H Q I (i _ _ _ q)⟩
section
variable {M : Pm} {G : Gh} {W : WX} {F F' : Hp} {σ : L2.St} {Q Q' : VK}
theorem Post.mono {res : R Res} (h : Post M G W F σ res Q) (s : Same F F') : Post M G W F' σ res Q := by
  cases res with
  | ok r s' => exact fun as' F2 H' v aT sf => h as' F2 H' v aT (s.trans sf)
  | ex x p s' => exact fun as' F2 H' cls d sf => h as' F2 H' cls d (s.trans sf)
  | stk => exact h
theorem Post.imp {res : R Res} (h : Post M G W F σ res Q) (i : ∀ v H, Q v H → Q' v H) : Post M G W F σ res Q' := by
  cases res with
  | ok r s' => exact fun as' F2 H' v aT sf S R => i _ _ (h as' F2 H' v aT sf S R)
  | ex x p s' => exact h
  | stk => exact h
/-- one thing evaluated, then the rest -/
theorem Post.bind {r : R Res} {f : Res → Env → R Res} (h : Post M G W F σ (r.bind f) Q)
    (hk : ∀ a s' as' F' H' v aT, r = .ok a s' → Same F F' → StA M.K G as' F' s' σ H' → RRel M.K G as' F' σ H' v a aT → Post M G W F' σ (f a s') Q → Q' v H') : Post M G W F σ r Q' := by
  cases r with
  | ok a s' => exact fun as' F' H' v aT sf S R => hk a s' as' F' H' v aT rfl sf S R (Post.mono h sf)
  | ex x p s' => exact h
  | stk => exact h
/-- an operand that waits -/
def Held (K : PySem.W.Frag) (F : Hp) (σ : L2.St) (v : V) : Res → Prop
  | .val d => Rp K F v d
  | .bor i => σ[i]? = some (some v)
  | .tmp _ => False
theorem Held.mono {v : V} {ra : Res} (h : Held M.K F σ v ra) (s : Same F F') : Held M.K F' σ v ra := by
  cases ra with
  | val d => exact Rp.mono s h
  | bor i => exact h
  | tmp c => exact h
theorem StA.lookH {as : Nat → List Addr} {s : Env} {H : Hp} {v : V} {ra : Res} {d : D} (S : StA M.K G as F s σ H) (h : Held M.K F σ v ra) (e : look s ra = some d) : Rt M.K F H v d := by
  refine S.rt (aT := []) ?_ e
  cases ra with
  | val d => exact ⟨h, rfl⟩
  | bor i => exact ⟨h, rfl⟩
  | tmp c => exact h.elim
theorem hold_ok {as' : Nat → List Addr} {H' : Hp} {s' : Env} {v : V} {a : Res} {aT : List Addr} {k : Res → R Res} (S : StA M.K G as' F s' σ H') (R : RRel M.K G as' F σ H' v a aT)
    (h : Post M G W F σ (match hold a with | none => .stk | some ra => k ra) Q) :
    ∃ F' ra, Same F F' ∧ StA M.K G as' F' s' σ H' ∧ Held M.K F' σ v ra ∧ Post M G W F' σ (k ra) Q := by
  cases a with
  | val d => exact ⟨F, .val d, .refl _, S, R.1, h⟩
  | bor i => exact ⟨F, .bor i, .refl _, S, R.1, h⟩
  | tmp c =>
    obtain ⟨rc, nd, fr, di⟩ := R
    cases e : c.d? with
    | none =>
      simp only [hold, e, Option.map_none] at h
      exact h.elim
    | some d =>
      have sm : Same F (ovr F H' aT) := same_ovr fun p hp => (fr p hp).1
      refine ⟨ovr F H' aT, .val d, sm, S.hold fr di, rc.freeze e sm fun p hp o q => by rw [ovr_in hp]; exact q, ?_⟩
      simp only [hold, e, Option.map_some] at h
      exact Post.mono h sm
theorem fin_false (r : R Res) : fin false r = r := rfl
theorem fin_true (r : R Res) : fin true r = truthR r := rfl
/-- a new result is the expression's -/
theorem StA.new {as : Nat → List Addr} {s : Env} {H F' H' : Hp} {v : V} {r : Res} {aT : List Addr} (S : StA M.K G as F s σ H) (g : Grow F H F' H') (n : RNew M.K F' H H' v r aT) :
    StA M.K G as F' s σ H' ∧ RRel M.K G as F' σ H' v r aT := by
  refine ⟨S.grow g, ?_⟩
  cases r with
  | val d => exact n
  | bor i => exact n.elim
  | tmp c =>
    refine ⟨n.1, n.2.1, fun p hp => ⟨(n.2.2 p hp).1, ?_⟩, fun i p hi hp => S.there hi (n.2.2 p hp).2⟩
    cases e : G.H0 p with
    | none => rfl
    | some o => exact absurd (n.2.2 p hp).2 (S.dom p (by rw [e]; simp))
theorem Post.opt {as : Nat → List Addr} {s : Env} {H : Hp} {o : Option Res} (S : StA M.K G as F s σ H) (h : Post M G W F σ (R.opt o s) Q) : ∃ r, o = some r ∧ OutQ M.K F H r Q := by
  cases o with
  | none => exact h.elim
  | some r => exact ⟨r, rfl, fun F' H' v aT g n => h as F' H' v aT g.f (S.new g n).1 (S.new g n).2⟩
theorem bind_some {A B : Type} {o : Option A} {f : A → Option B} {b : B} (h : o.bind f = some b) : ∃ a, o = some a ∧ f a = some b := by
  cases o with
  | none => cases h
  | some a => exact ⟨a, rfl, h⟩

/-! ### names, constants -/
variable {X : Cx} {e a b c : Expr} {ca cb cc : E} {pos : Pos}
theorem ev_var (i : Nat) {x : Str} (hN : X.N[i]? = some x := by rfl) (hv : Vis X.env.scope x := by first | exact Or.inl rfl | exact Or.inr (Or.inl rfl) | exact Or.inr (Or.inr rfl)) (hd : (x == ("__debug__" : Str)) = false := by decide)
    (hcd : (x == ("__classdict__" : Str)) = false := by decide) : EV M X (.Name x pos) (.var i) := by
  refine ⟨fun W _ => PE.imp (pe_var (i := i) hN hv hd hcd) fun σ H Q ⟨G, as, F, s, S, h⟩ => ?_⟩
  simp only [ev, fin_false] at h
  split at h
  · rename_i m d q
    obtain ⟨v, h1, h2⟩ := S.cell _ _ _ q
    generalize as i = l at h2
    cases h2 with
    | val r => exact ⟨v, h1, h as F H v [] (.refl _) S ⟨r, rfl⟩⟩
  · rename_i m c q
    obtain ⟨v, h1, h2⟩ := S.cell _ _ _ q
    exact ⟨v, h1, h as F H v [] (.refl _) S ⟨h1, rfl⟩⟩
  · exact h.elim
theorem cst_of {t : TE} {d : D} (h : PE X e t) (i : ∀ σ H Q, (∀ F v, Same F H → Rp M.K F v d → Q v H) → t σ H Q) : PE X e t := h
theorem ev_int {i : Int} {j : Nat} : EV M X (.Constant (.int i) j pos) (.cst (.int i)) :=
  ⟨fun W _ => PE.imp pe_int fun σ H Q ⟨G, as, F, s, S, h⟩ => h as F H _ [] (.refl _) S ⟨.int i, rfl⟩⟩
theorem ev_str {i : Str} {j : Nat} : EV M X (.Constant (.str i) j pos) (.cst (.str i)) :=
  ⟨fun W _ => PE.imp pe_str fun σ H Q ⟨G, as, F, s, S, h⟩ => h as F H _ [] (.refl _) S ⟨.str i, rfl⟩⟩
theorem ev_bl {i : Bool} {j : Nat} : EV M X (.Constant (.bool i) j pos) (.cst (.bool i)) :=
  ⟨fun W _ => PE.imp pe_bl fun σ H Q ⟨G, as, F, s, S, h⟩ => h as F H _ [] (.refl _) S ⟨.bl i, rfl⟩⟩
theorem ev_non {j : Nat} : EV M X (.Constant .none j pos) (.cst .none) :=
  ⟨fun W _ => PE.imp pe_non fun σ H Q ⟨G, as, F, s, S, h⟩ => h as F H _ [] (.refl _) S ⟨.non, rfl⟩⟩
/-- a constant of a module -/
theorem ev_glob {x : Str} {v : V} {u : Value} {d : D} (hg : Gl X x) (hm : X.mg x = some u) (r : RelV v u) (hr : ∀ F, Rp M.K F v d) (hd : (x == ("__debug__" : Str)) = false := by decide) : EV M X (.Name x pos) (.cst d) :=
  ⟨fun W _ => PE.imp (pe_glob hg hm r hd) fun σ H Q ⟨G, as, F, s, S, h⟩ => h as F H _ [] (.refl _) S ⟨hr F, rfl⟩⟩

/-! ### operators -/
theorem ev_bin (op : BOp) (ha : EV M X a ca) (hb : EV M X b cb) (hK : X.K = M.K := by rfl) : EV M X (.BinOp a (opOf op) b pos) (.bin op ca cb) := by
  refine ⟨fun W tk => PE.imp (pe_op (op_bin op) (ha.run W tk) (hb.run W tk)) fun σ H Q ⟨G, as, F, s, S, h⟩ => ?_⟩
  simp only [ev, fin_false] at h
  refine ⟨G, as, F, s, S, Post.bind h fun ra s1 as1 F1 H1 x aT _ _ S1 R1 h1 => ?_⟩
  obtain ⟨F2, ra', sf2, S2, R2, h2⟩ := hold_ok (k := fun ra => (ev M.Γ false cb s1).bind fun rb s2 => R.opt ((look s2 ra).bind fun x => (look s2 rb).bind fun y => binF op x y) s2) S1 R1 h1
  refine ⟨G, as1, F2, s1, S2, Post.bind h2 fun rb s2 as3 F3 H3 y bT _ sf3 S3 R3 h3 => ?_⟩
  obtain ⟨r, e3, q⟩ := Post.opt S3 h3
  obtain ⟨dx, l1, e3⟩ := bind_some e3
  obtain ⟨dy, l2, e3⟩ := bind_some e3
  rw [hK]
  exact ⟨F3, dx, dy, r, S3.same, S3.lookH (R2.mono sf3) l1, S3.rt R3 l2, e3, q⟩
theorem ev_neg (ha : EV M X a ca) : EV M X (.UnaryOp .USub a pos) (.neg ca) := by
  refine ⟨fun W tk => PE.imp (pe_un un_neg (ha.run W tk)) fun σ H Q ⟨G, as, F, s, S, h⟩ => ?_⟩
  simp only [ev, fin_false] at h
  refine ⟨G, as, F, s, S, Post.bind h fun ra s1 as1 F1 H1 x aT _ _ S1 R1 h1 => ?_⟩
  split at h1
  · rename_i i e
    have hx : x = .int i := S1.rt R1 e
    exact ⟨i, hx, h1 as1 F1 H1 _ [] (.refl _) S1 ⟨.int _, rfl⟩⟩
  · exact h1.elim

/-! ### comparisons -/
theorem cmp_core (op : COp) {as : Nat → List Addr} {F : Hp} {s : Env} {H : Hp} {Q : VK} {ta tb : TE} (S : StA M.K G as F s σ H) (t : Bool) (h : Post M G W F σ (ev M.Γ t (.cmp op ca cb) s) Q)
    (ia : ∀ Q', (∃ G as F s, StA M.K G as F s σ H ∧ Post M G W F σ (ev M.Γ false ca s) Q') → ta σ H Q') (ib : ∀ H Q', (∃ G as F s, StA M.K G as F s σ H ∧ Post M G W F σ (ev M.Γ false cb s) Q') → tb σ H Q') :
    tOp (rCmp M.K op) ta tb σ H Q := by
  simp only [ev] at h
  refine ia _ ⟨G, as, F, s, S, Post.bind h fun ra s1 as1 F1 H1 x aT _ _ S1 R1 h1 => ?_⟩
  obtain ⟨F2, ra', sf2, S2, R2, h2⟩ := hold_ok (k := fun ra => (ev M.Γ false cb s1).bind fun rb s2 => R.opt (((look s2 ra).bind fun x => (look s2 rb).bind fun y => cmpF op x y).map fun k => .val (.bool k)) s2) S1 R1 h1
  refine ib _ _ ⟨G, as1, F2, s1, S2, Post.bind h2 fun rb s2 as3 F3 H3 y bT _ sf3 S3 R3 h3 => ?_⟩
  obtain ⟨r, e3, q⟩ := Post.opt S3 h3
  rw [Option.map_eq_some_iff] at e3
  obtain ⟨k, e3, rfl⟩ := e3
  obtain ⟨dx, l1, e3⟩ := bind_some e3
  obtain ⟨dy, l2, e3⟩ := bind_some e3
  exact ⟨F3, dx, dy, k, S3.same, S3.lookH (R2.mono sf3) l1, S3.rt R3 l2, e3, q.same S3.same (.bl _)⟩
theorem ev_cmp (op : COp) (hu : X.A.units + 65 < cLine) (ha : EV M X a ca) (hb : EV M X b cb) (hm : behindInMarks (cmpOf op) b = false) (hK : X.K = M.K := by rfl) : EV M X (.Compare a [cmpOf op] [b] pos) (.cmp op ca cb) := by
  refine ⟨fun W tk => PE.imp (pe_cmpR (op_cmp hu op) (ha.run W tk) (hb.run W tk) hm) fun σ H Q ⟨G, as, F, s, S, h⟩ => ?_⟩
  rw [hK]
  exact cmp_core op S false h (fun _ h => h) fun _ _ h => h
theorem tv_cmp (op : COp) (hu : X.A.units + 65 < cLine) (ha : EV M X a ca) (hb : EV M X b cb) (hm : behindInMarks (cmpOf op) b = false) (hK : X.K = M.K := by rfl) : TV M X (.Compare a [cmpOf op] [b] pos) (.cmp op ca cb) := by
  refine ⟨fun W tk => PT.imp (pt_cmpR (op_cmp hu op) (ha.run W tk) (hb.run W tk) hm) fun σ H Q ⟨G, as, F, s, S, h⟩ => ?_⟩
  rw [hK]
  exact cmp_core op S true h (fun _ h => h) fun _ _ h => h
theorem cmp2_core (o1 o2 : COp) {as : Nat → List Addr} {F : Hp} {s : Env} {H : Hp} {Q : VK} {ta tb tc : TE} (S : StA M.K G as F s σ H) (t : Bool) (h : Post M G W F σ (ev M.Γ t (.cmp2 o1 o2 ca cb cc) s) Q)
    (ia : ∀ Q', (∃ G as F s, StA M.K G as F s σ H ∧ Post M G W F σ (ev M.Γ false ca s) Q') → ta σ H Q') (ib : ∀ H Q', (∃ G as F s, StA M.K G as F s σ H ∧ Post M G W F σ (ev M.Γ false cb s) Q') → tb σ H Q')
    (ic : ∀ H Q', (∃ G as F s, StA M.K G as F s σ H ∧ Post M G W F σ (ev M.Γ false cc s) Q') → tc σ H Q') :
    tChain (rCmp M.K o1) (rCmp M.K o2) ta tb tc σ H Q := by
  simp only [ev] at h
  refine ia _ ⟨G, as, F, s, S, Post.bind h fun ra s1 as1 F1 H1 x aT _ _ S1 R1 h1 => ?_⟩
  obtain ⟨F2, ra', sf2, S2, R2, h2⟩ := hold_ok (k := fun ra => (ev M.Γ false cb s1).bind fun rb s2 => match hold rb with
      | none => .stk
      | some rb => match (look s2 ra).bind fun x => (look s2 rb).bind fun y => cmpF o1 x y with
        | none => .stk
        | some false => .ok (.val (.bool false)) s2
        | some true => (ev M.Γ false cc s2).bind fun rc s3 => R.opt (((look s3 rb).bind fun x => (look s3 rc).bind fun y => cmpF o2 x y).map fun k => .val (.bool k)) s3) S1 R1 h1
  refine ib _ _ ⟨G, as1, F2, s1, S2, Post.bind h2 fun rb s2 as3 F3 H3 y bT _ sf3 S3 R3 h3 => ?_⟩
  obtain ⟨F4, rb', sf4, S4, R4, h4⟩ := hold_ok (k := fun rb => match (look s2 ra').bind fun x => (look s2 rb).bind fun y => cmpF o1 x y with
        | none => .stk
        | some false => .ok (.val (.bool false)) s2
        | some true => (ev M.Γ false cc s2).bind fun rc s3 => R.opt (((look s3 rb).bind fun x => (look s3 rc).bind fun y => cmpF o2 x y).map fun k => .val (.bool k)) s3) S3 R3 h3
  split at h4
  · exact h4.elim
  · rename_i e4
    obtain ⟨dx, l1, e4⟩ := bind_some e4
    obtain ⟨dy, l2, e4⟩ := bind_some e4
    exact ⟨F4, dx, dy, _, S4.same, S4.lookH ((R2.mono sf3).mono sf4) l1, S4.lookH R4 l2, e4, false, rfl, h4 as3 F4 H3 _ [] (.refl _) S4 ⟨.bl _, rfl⟩⟩
  · rename_i e4
    obtain ⟨dx, l1, e4⟩ := bind_some e4
    obtain ⟨dy, l2, e4⟩ := bind_some e4
    refine ⟨F4, dx, dy, _, S4.same, S4.lookH ((R2.mono sf3).mono sf4) l1, S4.lookH R4 l2, e4, true, rfl, ?_⟩
    refine ic _ _ ⟨G, as3, F4, s2, S4, Post.bind h4 fun rc s3 as5 F5 H5 z cT _ sf5 S5 R5 h5 => ?_⟩
    obtain ⟨r, e5, q⟩ := Post.opt S5 h5
    rw [Option.map_eq_some_iff] at e5
    obtain ⟨k, e5, rfl⟩ := e5
    obtain ⟨dz, l3, e5⟩ := bind_some e5
    obtain ⟨dw, l4, e5⟩ := bind_some e5
    exact ⟨F5, dz, dw, k, S5.same, S5.lookH (R4.mono sf5) l3, S5.rt R5 l4, e5, q.same S5.same (.bl _)⟩
theorem ev_cmp2 (o1 o2 : COp) (hu : X.A.units + 65 < cLine) (ha : EV M X a ca) (hb : EV M X b cb) (hc : EV M X c cc) (hm : lastMarks [cmpOf o1, cmpOf o2] [b, c] = false := by with_unfolding_all rfl) (hK : X.K = M.K := by rfl) :
    EV M X (.Compare a [cmpOf o1, cmpOf o2] [b, c] pos) (.cmp2 o1 o2 ca cb cc) := by
  refine ⟨fun W tk => PE.imp (pe_chain (op_cmp hu o1) (op_cmp hu o2) (ha.run W tk) (hb.run W tk) (hc.run W tk) hm) fun σ H Q ⟨G, as, F, s, S, h⟩ => ?_⟩
  rw [hK]
  exact cmp2_core o1 o2 S false h (fun _ h => h) (fun _ _ h => h) fun _ _ h => h
theorem tv_cmp2 (o1 o2 : COp) (hu : X.A.units + 65 < cLine) (ha : EV M X a ca) (hb : EV M X b cb) (hc : EV M X c cc) (hm : lastMarks [cmpOf o1, cmpOf o2] [b, c] = false := by with_unfolding_all rfl) (hK : X.K = M.K := by rfl) :
    TV M X (.Compare a [cmpOf o1, cmpOf o2] [b, c] pos) (.cmp2 o1 o2 ca cb cc) := by
  refine ⟨fun W tk => PT.imp (pt_chain (op_cmp hu o1) (op_cmp hu o2) (ha.run W tk) (hb.run W tk) (hc.run W tk) hm) fun σ H Q ⟨G, as, F, s, S, h⟩ => ?_⟩
  rw [hK]
  exact cmp2_core o1 o2 S true h (fun _ h => h) (fun _ _ h => h) fun _ _ h => h
/-- is None -/
theorem isNone_rt {K : PySem.W.Frag} {F H : Hp} {v : V} {d : D} (r : Rt K F H v d) : decide (v = .non) = isNone d := by
  cases d with
  | none => cases r; simp [isNone]
  | bool b => cases r; simp [isNone]
  | int i => cases r; simp [isNone]
  | str z => cases r; simp [isNone]
  | list ds => obtain ⟨a, xs, rfl, _⟩ := r; simp [isNone]
  | tuple ds => obtain ⟨a, xs, rfl, _⟩ := r; simp [isNone]
  | dict kvs => rcases r with ⟨a, ks, ds, rfl, _⟩ | ⟨a, ks, ds, rfl, _⟩ <;> simp [isNone]
theorem isn_core {as : Nat → List Addr} {F : Hp} {s : Env} {H : Hp} {Q : VK} (n t : Bool) (S : StA M.K G as F s σ H) (h : Post M G W F σ (ev M.Γ t (.isN ca n) s) Q) :
    Post M G W F σ (ev M.Γ false ca s) fun v H' => Q (.bl (if n then !decide (v = .non) else decide (v = .non))) H' := by
  simp only [ev] at h
  refine Post.bind h fun ra s1 as1 F1 H1 x aT _ _ S1 R1 h1 => ?_
  obtain ⟨r, e, q⟩ := Post.opt S1 h1
  rw [Option.map_eq_some_iff] at e
  obtain ⟨d, e, rfl⟩ := e
  rw [isNone_rt (S1.rt R1 e)]
  exact q.same S1.same (.bl _)
theorem ev_isN {j : Nat} {pos' : Pos} (ha : EV M X a ca) : EV M X (.Compare a [.Is] [.Constant .none j pos'] pos) (.isN ca false) :=
  ⟨fun W tk => PE.imp (pe_cmp (pc_isN (ha.run W tk)) rfl) fun σ H Q ⟨G, as, F, s, S, h⟩ => ⟨G, as, F, s, S, isn_core false false S h⟩⟩
theorem ev_notN {j : Nat} {pos' : Pos} (ha : EV M X a ca) : EV M X (.Compare a [.IsNot] [.Constant .none j pos'] pos) (.isN ca true) :=
  ⟨fun W tk => PE.imp (pe_cmp (pc_notN (ha.run W tk)) rfl) fun σ H Q ⟨G, as, F, s, S, h⟩ => ⟨G, as, F, s, S, isn_core true false S h⟩⟩
theorem tv_isN {j : Nat} {pos' : Pos} (ha : EV M X a ca) : TV M X (.Compare a [.Is] [.Constant .none j pos'] pos) (.isN ca false) :=
  ⟨fun W tk => PT.imp (pt_cmp (pc_isN (ha.run W tk)) rfl) fun σ H Q ⟨G, as, F, s, S, h⟩ => ⟨G, as, F, s, S, isn_core false true S h⟩⟩
theorem tv_notN {j : Nat} {pos' : Pos} (ha : EV M X a ca) : TV M X (.Compare a [.IsNot] [.Constant .none j pos'] pos) (.isN ca true) :=
  ⟨fun W tk => PT.imp (pt_cmp (pc_notN (ha.run W tk)) rfl) fun σ H Q ⟨G, as, F, s, S, h⟩ => ⟨G, as, F, s, S, isn_core true true S h⟩⟩

/-! ### and, or, not -/
structure WV (M : Pm) (X : Cx) (e : Expr) (ce : E) : Prop where
  run : ∀ W, L2N.Takes X W → PW X e (tT M W ce)
theorem WV.tv (h : WV M X e ca) : TV M X e ca := ⟨fun W tk => (h.run W tk).pt⟩
theorem PW.imp {e : Expr} {t t' : TT} (h : PW X e t) (i : ∀ σ H Q, t' σ H Q → t σ H Q) : PW X e t' := ⟨fun wh pins s σ H Q I q => h.run wh pins s σ H Q I (i _ _ _ q)⟩
theorem boolR_rel {as : Nat → List Addr} {F : Hp} {H : Hp} {v : V} {r : Res} {aT : List Addr} {k : Bool} (R : RRel M.K G as F σ H v r aT) (e : boolR r = some k) : v = .bl k ∧ r = .val (.bool k) := by
  unfold boolR at e
  split at e
  · cases e
    obtain ⟨r, _⟩ := R
    cases r
    exact ⟨rfl, rfl⟩
  · cases e
theorem wv_and1 (ha : TV M X a ca) : WV M X (.BoolOp .And [a] pos) ca := ⟨fun W tk => pw_and1 (ha.run W tk)⟩
theorem wv_or1 (ha : TV M X a ca) : WV M X (.BoolOp .Or [a] pos) ca := ⟨fun W tk => pw_or1 (ha.run W tk)⟩
theorem wv_and {rest : List Expr} (ha : TV M X a ca) (hb : WV M X (.BoolOp .And (b :: rest) pos) cb) : WV M X (.BoolOp .And (a :: b :: rest) pos) (.andE ca cb) := by
  refine ⟨fun W tk => PW.imp (pw_and (ha.run W tk) (hb.run W tk)) fun σ H Q ⟨G, as, F, s, S, h⟩ => ?_⟩
  simp only [ev] at h
  refine ⟨G, as, F, s, S, Post.bind h fun ra s1 as1 F1 H1 x aT _ _ S1 R1 h1 => ?_⟩
  split at h1
  · rename_i e
    exact ⟨true, (boolR_rel R1 e).1, ⟨G, as1, F1, s1, S1, h1⟩⟩
  · rename_i e
    obtain ⟨b', eb, q⟩ := h1 as1 F1 H1 _ [] (.refl _) S1 ⟨.bl false, rfl⟩
    cases eb
    exact ⟨false, (boolR_rel R1 e).1, q⟩
  · exact h1.elim
theorem wv_or {rest : List Expr} (ha : TV M X a ca) (hb : WV M X (.BoolOp .Or (b :: rest) pos) cb) : WV M X (.BoolOp .Or (a :: b :: rest) pos) (.orE ca cb) := by
  refine ⟨fun W tk => PW.imp (pw_or (ha.run W tk) (hb.run W tk)) fun σ H Q ⟨G, as, F, s, S, h⟩ => ?_⟩
  simp only [ev] at h
  refine ⟨G, as, F, s, S, Post.bind h fun ra s1 as1 F1 H1 x aT _ _ S1 R1 h1 => ?_⟩
  split at h1
  · rename_i e
    obtain ⟨b', eb, q⟩ := h1 as1 F1 H1 _ [] (.refl _) S1 ⟨.bl true, rfl⟩
    cases eb
    exact ⟨true, (boolR_rel R1 e).1, q⟩
  · rename_i e
    exact ⟨false, (boolR_rel R1 e).1, ⟨G, as1, F1, s1, S1, h1⟩⟩
  · exact h1.elim
theorem tv_not (ha : TV M X a ca) : TV M X (.UnaryOp .Not a pos) (.notE ca) := by
  refine ⟨fun W tk => PT.imp (pt_not (ha.run W tk)) fun σ H Q ⟨G, as, F, s, S, h⟩ => ?_⟩
  simp only [ev, if_true] at h
  refine ⟨G, as, F, s, S, Post.bind h fun ra s1 as1 F1 H1 x aT _ _ S1 R1 h1 => ?_⟩
  split at h1
  · rename_i k e
    obtain ⟨b', eb, q⟩ := h1 as1 F1 H1 _ [] (.refl _) S1 ⟨.bl _, rfl⟩
    cases eb
    exact ⟨k, (boolR_rel R1 e).1, q⟩
  · exact h1.elim
/-- as values -/
theorem ev_one {op : BoolOp} (ha : EV M X a ca) : EV M X (.BoolOp op [a] pos) ca := ⟨fun W tk => pe_one (ha.run W tk)⟩
theorem ev_and {rest : List Expr} (ha : EV M X a ca) (hb : EV M X (.BoolOp .And (b :: rest) pos) cb) : EV M X (.BoolOp .And (a :: b :: rest) pos) (.andE ca cb) := by
  refine ⟨fun W tk => PE.imp (pe_and (ha.run W tk) (hb.run W tk)) fun σ H Q ⟨G, as, F, s, S, h⟩ => ?_⟩
  simp only [ev] at h
  refine ⟨G, as, F, s, S, Post.bind h fun ra s1 as1 F1 H1 x aT _ _ S1 R1 h1 => ?_⟩
  split at h1
  · rename_i e
    exact ⟨true, (boolR_rel R1 e).1, ⟨G, as1, F1, s1, S1, h1⟩⟩
  · rename_i e
    exact ⟨false, (boolR_rel R1 e).1, h1 as1 F1 H1 _ [] (.refl _) S1 ⟨.bl false, rfl⟩⟩
  · exact h1.elim
theorem ev_or {rest : List Expr} (ha : EV M X a ca) (hb : EV M X (.BoolOp .Or (b :: rest) pos) cb) : EV M X (.BoolOp .Or (a :: b :: rest) pos) (.orE ca cb) := by
  refine ⟨fun W tk => PE.imp (pe_or (ha.run W tk) (hb.run W tk)) fun σ H Q ⟨G, as, F, s, S, h⟩ => ?_⟩
  simp only [ev] at h
  refine ⟨G, as, F, s, S, Post.bind h fun ra s1 as1 F1 H1 x aT _ _ S1 R1 h1 => ?_⟩
  split at h1
  · rename_i e
    exact ⟨true, (boolR_rel R1 e).1, h1 as1 F1 H1 _ [] (.refl _) S1 ⟨.bl true, rfl⟩⟩
  · rename_i e
    exact ⟨false, (boolR_rel R1 e).1, ⟨G, as1, F1, s1, S1, h1⟩⟩
  · exact h1.elim
/-- not: of anything that has a truth -/
theorem ev_not (ha : EV M X a ca) (hK : X.K = M.K := by rfl) : EV M X (.UnaryOp .Not a pos) (.notE ca) := by
  refine ⟨fun W tk => PE.imp (pe_notT (ha.run W tk)) fun σ H Q ⟨G, as, F, s, S, h⟩ => ?_⟩
  simp only [ev] at h
  refine ⟨G, as, F, s, S, Post.bind h fun ra s1 as1 F1 H1 x aT he _ S1 R1 h1 => ?_⟩
  cases e : (look s1 ra).bind truthF with
  | none =>
    rw [e] at h1
    exact h1.elim
  | some k =>
    rw [e] at h1
    obtain ⟨d, l, e⟩ := bind_some e
    rw [hK]
    exact ⟨k, tru_of (S1.rt R1 l) e, h1 as1 F1 H1 _ [] (.refl _) S1 ⟨.bl _, rfl⟩⟩
end
end MP

set_option linter.all false
set_option maxRecDepth 100000
set_option maxHeartbeats 2000000
/-! MP: truth of values, displays, arguments, places, calls of built-ins. -/
namespace MP
open PySem L2
section
variable {M : Pm} {G : Gh} {W : WX} {F F' : Hp} {σ : L2.St} {Q Q' : VK} {X : Cx} {e a b c : Expr} {ca cb cc : E} {pos : Pos} {es : List Expr} {ces : List E}

theorem tv_of (ha : EV M X a ca) (he : ∀ whole, isTrue a X.env whole = (do let v ← whole; standAt a.pos; holding [v] (truthy v))) (hf : ∀ s, ev M.Γ true ca s = truthR (ev M.Γ false ca s)) (hK : X.K = M.K := by rfl) : TV M X a ca := by
  refine ⟨fun W tk => PT.imp (pt_truth (ha.run W tk) he) fun σ H Q ⟨G, as, F, s, S, h⟩ => ?_⟩
  rw [hf] at h
  unfold truthR at h
  refine ⟨G, as, F, s, S, Post.bind h fun ra s1 as1 F1 H1 x aT he _ S1 R1 h1 => ?_⟩
  obtain ⟨r, e, q⟩ := Post.opt S1 h1
  rw [Option.map_eq_some_iff] at e
  obtain ⟨k, e, rfl⟩ := e
  obtain ⟨d, l, e⟩ := bind_some e
  obtain ⟨k', ek, q'⟩ := q.same S1.same (.bl k)
  cases ek
  rw [hK]
  exact ⟨k, tru_of (S1.rt R1 l) e, q'⟩
theorem ev_ife (hc : TV M X c cc) (ha : EV M X a ca) (hb : EV M X b cb) : EV M X (.IfExp c a b pos) (.ife cc ca cb) := by
  refine ⟨fun W tk => PE.imp (pe_ifExp (hc.run W tk) (ha.run W tk) (hb.run W tk)) fun σ H Q ⟨G, as, F, s, S, h⟩ => ?_⟩
  simp only [ev, fin_false] at h
  refine ⟨G, as, F, s, S, Post.bind h fun ra s1 as1 F1 H1 x aT he _ S1 R1 h1 => ?_⟩
  split at h1
  · rename_i e
    exact ⟨true, (boolR_rel R1 e).1, ⟨G, as1, F1, s1, S1, h1⟩⟩
  · rename_i e
    exact ⟨false, (boolR_rel R1 e).1, ⟨G, as1, F1, s1, S1, h1⟩⟩
  · exact h1.elim

/-! ### freezing -/
theorem StA.freezeSlot {as : Nat → List Addr} {s : Env} {H : Hp} (S : StA M.K G as F s σ H) {i : Nat} {c : Cell} {d : D} (h : s[i]? = some (some (.fr, c))) (e : c.d? = some d) :
    ∃ F' v, Same F F' ∧ σ[i]? = some (some v) ∧ Rp M.K F' v d ∧ StA M.K G (fun j => if j = i then [] else as j) F' (s.set i (some (.fr, .val d))) σ H ∧ F' = ovr F H (as i) := by
  obtain ⟨v, hv, rc⟩ := S.cell _ _ _ h
  have hF : ∀ p ∈ as i, F p = none := fun p hp => S.fr i p hp
  have sm : Same F (ovr F H (as i)) := same_ovr hF
  have rp : Rp M.K (ovr F H (as i)) v d := rc.freeze e sm fun p hp o q => by rw [ovr_in hp]; exact q
  have hi : i < s.length := (List.getElem?_eq_some_iff.mp h).1
  refine ⟨ovr F H (as i), v, sm, hv, rp, ?_, rfl⟩
  have get : ∀ (j : Nat) m c', (s.set i (some (Mode.fr, Cell.val d)))[j]? = some (some (m, c')) → (j = i ∧ m = .fr ∧ c' = .val d) ∨ (j ≠ i ∧ s[j]? = some (some (m, c'))) := fun j m c' q => by
    by_cases z : j = i
    · subst z
      rw [List.getElem?_set_self hi] at q
      cases q
      exact .inl ⟨rfl, rfl, rfl⟩
    · rw [List.getElem?_set_ne (Ne.symm z)] at q
      exact .inr ⟨z, q⟩
  exact {
    len := by rw [List.length_set]; exact S.len
    cell := fun j m c' q => by
      rcases get j m c' q with ⟨rfl, rfl, rfl⟩ | ⟨z, q⟩
      · exact ⟨v, hv, by rw [if_pos rfl]; exact .val rp⟩
      · obtain ⟨w, h1, h2⟩ := S.cell _ _ _ q
        exact ⟨w, h1, by rw [if_neg z]; exact h2.mono sm fun p _ o q => q⟩
    emp := fun j q => by
      by_cases z : j = i
      · rw [if_pos z]
      · rw [if_neg z]
        refine S.emp j fun m c' q' => q m c' ?_
        rw [List.getElem?_set_ne (Ne.symm z)]
        exact q'
    dis := fun j k p hj hk => by
      split at hj
      · cases hj
      · split at hk
        · cases hk
        · exact S.dis j k p hj hk
    nd := fun j => by
      split
      · exact .nil
      · exact S.nd j
    fr := fun j p hj => by
      split at hj
      · cases hj
      · rename_i z
        rw [ovr_out fun y => z (S.dis j i p hj y)]
        exact S.fr j p hj
    md := fun j m c' p q hp => by
      rcases get j m c' q with ⟨rfl, rfl, rfl⟩ | ⟨z, q⟩
      · rw [if_pos rfl] at hp; cases hp
      · rw [if_neg z] at hp
        exact S.md j m c' p q hp
    same := ovr_same S.same
    f0 := S.f0.trans sm
    fnew := fun q hq => by
      by_cases z : q ∈ as i
      · rcases S.md i _ _ q h z with y | y | y | y
        · cases y.1
        · exact .inr (.inl y)
        · cases y.1
        · exact .inr (.inr (.inl y.2.2))
      · rw [ovr_out z] at hq; exact S.fnew q hq
    fra := S.fra
    dom := S.dom
    pin := fun j m c' q hm => by
      rcases get j m c' q with ⟨rfl, rfl, rfl⟩ | ⟨z, q⟩
      · exact absurd rfl hm
      · exact S.pin j m c' q hm }
theorem frz_ok {as : Nat → List Addr} {s s' : Env} {H : Hp} {v : V} {r : Res} {aT : List Addr} {d : D} (S : StA M.K G as F s σ H) (R : RRel M.K G as F σ H v r aT) (e : frz s r = some (d, s')) :
    ∃ as' F', Same F F' ∧ StA M.K G as' F' s' σ H ∧ Rp M.K F' v d := by
  cases r with
  | val d' =>
    simp only [frz, Option.some.injEq, Prod.mk.injEq] at e
    obtain ⟨rfl, rfl⟩ := e
    exact ⟨as, F, .refl _, S, R.1⟩
  | bor i =>
    simp only [frz] at e
    split at e
    · rename_i c h
      rw [Option.map_eq_some_iff] at e
      obtain ⟨d', e, e2⟩ := e
      cases e2
      obtain ⟨F', w, sm, hw, rp, S', _⟩ := S.freezeSlot h e
      have : w = v := by
        have := R.1
        rw [hw] at this
        cases this
        rfl
      subst this
      exact ⟨_, F', sm, S', rp⟩
    · cases e
  | tmp c =>
    simp only [frz, Option.map_eq_some_iff, Prod.mk.injEq] at e
    obtain ⟨d', e, rfl, rfl⟩ := e
    obtain ⟨rc, nd, fr, di⟩ := R
    have sm : Same F (ovr F H aT) := same_ovr fun p hp => (fr p hp).1
    exact ⟨as, ovr F H aT, sm, S.hold fr di, rc.freeze e sm fun p hp o q => by rw [ovr_in hp]; exact q⟩

/-! ### lists of expressions -/
def PostF (M : Pm) (G : Gh) (W : WX) (F : Hp) (σ : L2.St) (res : R (List D)) (Q : List V → Hp → Prop) : Prop := match res with
  | .ok ds s' => ∀ as' F' H' vs, Same F F' → StA M.K G as' F' s' σ H' → RpA M.K F' vs ds → Q vs H'
  | .ex x p s' => ∀ as' F' H' cls d, Same F F' → StA M.K G as' F' s' σ H' → XRel M x p cls d F' H' → W cls d σ H'
  | .stk => False
inductive HeldA (K : PySem.W.Frag) (F : Hp) (σ : L2.St) : List V → List Res → Prop
  | nil : HeldA K F σ [] []
  | cons {v : V} {vs : List V} {r : Res} {rs : List Res} : Held K F σ v r → HeldA K F σ vs rs → HeldA K F σ (v :: vs) (r :: rs)
theorem HeldA.mono : ∀ {vs : List V} {rs : List Res}, HeldA M.K F σ vs rs → Same F F' → HeldA M.K F' σ vs rs
  | _, _, .nil, _ => .nil
  | _, _, .cons h t, s => .cons (h.mono s) (t.mono s)
def PostR (M : Pm) (G : Gh) (W : WX) (F : Hp) (σ : L2.St) (res : R (List Res)) (Q : List V → Hp → Prop) : Prop := match res with
  | .ok rs s' => ∀ as' F' H' vs, Same F F' → StA M.K G as' F' s' σ H' → HeldA M.K F' σ vs rs → Q vs H'
  | .ex x p s' => ∀ as' F' H' cls d, Same F F' → StA M.K G as' F' s' σ H' → XRel M x p cls d F' H' → W cls d σ H'
  | .stk => False
def tF (M : Pm) (W : WX) (ces : List E) : TA := fun σ H Q => ∃ G as F s, StA M.K G as F s σ H ∧ PostF M G W F σ (evs M.Γ ces s) Q
def tR (M : Pm) (W : WX) (ces : List E) : TA := fun σ H Q => ∃ G as F s, StA M.K G as F s σ H ∧ PostR M G W F σ (evr M.Γ ces s) Q
structure AF (M : Pm) (X : Cx) (es : List Expr) (ces : List E) : Prop where
  run : ∀ W, L2N.Takes X W → PA X es (tF M W ces)
structure AR (M : Pm) (X : Cx) (es : List Expr) (ces : List E) : Prop where
  run : ∀ W, L2N.Takes X W → PA X es (tR M W ces)
theorem PA.imp {es : List Expr} {t t' : TA} (h : PA X es t) (i : ∀ σ H Q, t' σ H Q → t σ H Q) : PA X es t' := ⟨fun pos pins s σ H Q I q => h.run pos pins s σ H Q I (i _ _ _ q)⟩
theorem af_nil : AF M X [] [] := ⟨fun W _ => PA.imp pa_nil fun σ H Q ⟨G, as, F, s, S, h⟩ => h as F H [] (.refl _) S .nil⟩
theorem ar_nil : AR M X [] [] := ⟨fun W _ => PA.imp pa_nil fun σ H Q ⟨G, as, F, s, S, h⟩ => h as F H [] (.refl _) S .nil⟩
theorem af_cons (ha : EV M X a ca) (hr : AF M X es ces) (hs : starEach (a :: es) X.env = (false, eval a X.env) :: starEach es X.env := by rfl) : AF M X (a :: es) (ca :: ces) := by
  refine ⟨fun W tk => PA.imp (pa_cons (ha.run W tk) (hr.run W tk) hs) fun σ H Q ⟨G, as, F, s, S, h⟩ => ⟨G, as, F, s, S, ?_⟩⟩
  simp only [evs] at h
  cases e1 : ev M.Γ false ca s with
  | stk => rw [e1] at h; exact h
  | ex x p s' => rw [e1] at h; exact h
  | ok r s1 =>
    intro as1 F1 H1 v aT sf1 S1 R1
    rw [e1] at h
    have h : PostF M G W F σ (match frz s1 r with | none => .stk | some (d, s2) => (evs M.Γ ces s2).bind fun ds s3 => .ok (d :: ds) s3) Q := h
    cases e2 : frz s1 r with
    | none => rw [e2] at h; exact h.elim
    | some ds2 =>
      obtain ⟨d, s2⟩ := ds2
      rw [e2] at h
      obtain ⟨as2, F2, sf2, S2, rp⟩ := frz_ok S1 R1 e2
      refine ⟨G, as2, F2, s2, S2, ?_⟩
      have h : PostF M G W F σ ((evs M.Γ ces s2).bind fun ds s3 => .ok (d :: ds) s3) Q := h
      cases e3 : evs M.Γ ces s2 with
      | stk => rw [e3] at h; exact h
      | ex x p s' => rw [e3] at h; exact fun as' F' H' cls d sf => h as' F' H' cls d ((sf1.trans sf2).trans sf)
      | ok ds s3 =>
        rw [e3] at h
        exact fun as' F' H' vs sf S3 rr => h as' F' H' (v :: vs) ((sf1.trans sf2).trans sf) S3 (.cons (rp.mono sf) rr)
theorem ar_cons (ha : EV M X a ca) (hr : AR M X es ces) (hs : starEach (a :: es) X.env = (false, eval a X.env) :: starEach es X.env := by rfl) : AR M X (a :: es) (ca :: ces) := by
  refine ⟨fun W tk => PA.imp (pa_cons (ha.run W tk) (hr.run W tk) hs) fun σ H Q ⟨G, as, F, s, S, h⟩ => ⟨G, as, F, s, S, ?_⟩⟩
  simp only [evr] at h
  cases e1 : ev M.Γ false ca s with
  | stk => rw [e1] at h; exact h
  | ex x p s' => rw [e1] at h; exact h
  | ok r s1 =>
    intro as1 F1 H1 v aT sf1 S1 R1
    rw [e1] at h
    have h : PostR M G W F σ (match hold r with | none => .stk | some r => (evr M.Γ ces s1).bind fun rs s2 => .ok (r :: rs) s2) Q := h
    have key : ∃ F2 r', hold r = some r' ∧ Same F1 F2 ∧ StA M.K G as1 F2 s1 σ H1 ∧ Held M.K F2 σ v r' := by
      cases r with
      | val d => exact ⟨F1, .val d, rfl, .refl _, S1, R1.1⟩
      | bor i => exact ⟨F1, .bor i, rfl, .refl _, S1, R1.1⟩
      | tmp c =>
        obtain ⟨rc, nd, fr, di⟩ := R1
        cases e : c.d? with
        | none =>
          simp only [hold, e, Option.map_none] at h
          exact h.elim
        | some d =>
          have sm : Same F1 (ovr F1 H1 aT) := same_ovr fun p hp => (fr p hp).1
          exact ⟨ovr F1 H1 aT, .val d, by simp only [hold, e, Option.map_some], sm, S1.hold fr di, rc.freeze e sm fun p hp o q => by rw [ovr_in hp]; exact q⟩
    obtain ⟨F2, r', e2, sf2, S2, hd⟩ := key
    rw [e2] at h
    refine ⟨G, as1, F2, s1, S2, ?_⟩
    have h : PostR M G W F σ ((evr M.Γ ces s1).bind fun rs s2 => .ok (r' :: rs) s2) Q := h
    cases e3 : evr M.Γ ces s1 with
    | stk => rw [e3] at h; exact h
    | ex x p s' => rw [e3] at h; exact fun as' F' H' cls d sf => h as' F' H' cls d ((sf1.trans sf2).trans sf)
    | ok rs s3 =>
      rw [e3] at h
      exact fun as' F' H' vs sf S3 rr => h as' F' H' (v :: vs) ((sf1.trans sf2).trans sf) S3 (.cons (hd.mono sf) rr)
/-- behind a list of frozen things -/
theorem PostF.bind {r : R (List D)} {f : List D → Env → R Res} {Q' : List V → Hp → Prop} (h : Post M G W F σ (r.bind f) Q)
    (hk : ∀ ds s' as' F' H' vs, r = .ok ds s' → Same F F' → StA M.K G as' F' s' σ H' → RpA M.K F' vs ds → Post M G W F' σ (f ds s') Q → Q' vs H') : PostF M G W F σ r Q' := by
  cases r with
  | ok ds s' => exact fun as' F' H' vs sf S R => hk ds s' as' F' H' vs rfl sf S R (Post.mono h sf)
  | ex x p s' => exact h
  | stk => exact h
theorem PostR.bind {r : R (List Res)} {f : List Res → Env → R Res} {Q' : List V → Hp → Prop} (h : Post M G W F σ (r.bind f) Q)
    (hk : ∀ ds s' as' F' H' vs, r = .ok ds s' → Same F F' → StA M.K G as' F' s' σ H' → HeldA M.K F' σ vs ds → Post M G W F' σ (f ds s') Q → Q' vs H') : PostR M G W F σ r Q' := by
  cases r with
  | ok ds s' => exact fun as' F' H' vs sf S R => hk ds s' as' F' H' vs rfl sf S R (Post.mono h sf)
  | ex x p s' => exact h
  | stk => exact h
theorem evs_len (Γ : Cfg) : ∀ (ces : List E) (s : Env) (ds : List D) (s' : Env), evs Γ ces s = .ok ds s' → ds.length = ces.length
  | [], s, ds, s', h => by
    simp only [evs] at h
    cases h
    rfl
  | e :: es, s, ds, s', h => by
    simp only [evs] at h
    cases e1 : ev Γ false e s with
    | stk => rw [e1] at h; cases h
    | ex x p s' => rw [e1] at h; cases h
    | ok r s1 =>
      rw [e1] at h
      simp only [R.bind] at h
      split at h
      · cases h
      · rename_i d s2 e2
        cases e3 : evs Γ es s2 with
        | stk => rw [e3] at h; cases h
        | ex x p s' => rw [e3] at h; cases h
        | ok ds' s3 =>
          rw [e3] at h
          cases h
          rw [List.length_cons, List.length_cons, evs_len Γ es s2 ds' _ e3]
theorem small_len {n : Nat} (h : n ≤ 1000) : n ≤ sizeLine := Nat.le_of_lt (small1000 h)
theorem ev_list (he : AF M X es ces) (hl : ces.length ≤ 1000 := by decide) : EV M X (.List es pos) (.list ces) := by
  refine ⟨fun W tk => PE.imp (pe_lst (he.run W tk)) fun σ H Q ⟨G, as, F, s, S, h⟩ => ⟨G, as, F, s, S, ?_⟩⟩
  simp only [ev, fin_false] at h
  refine PostF.bind h fun ds s1 as1 F1 H1 vs e _ S1 R1 h1 => ⟨small_len (by rw [R1.length, evs_len _ _ _ _ _ e]; exact hl), fun p hp => ?_⟩
  have q : OutQ M.K F1 H1 (.tmp (.lst ds)) Q := fun F' H' v aT g n => h1 as1 F' H' v aT g.f (S1.new g n).1 (S1.new g n).2
  exact q.list S1.same hp R1
theorem ev_tup {k : Nat} (he : AF M X es ces) (hl : ces.length ≤ 1000 := by decide) : EV M X (.Tuple es k pos) (.tup ces) := by
  refine ⟨fun W tk => PE.imp (pe_tup (he.run W tk)) fun σ H Q ⟨G, as, F, s, S, h⟩ => ⟨G, as, F, s, S, ?_⟩⟩
  simp only [ev, fin_false] at h
  refine PostF.bind h fun ds s1 as1 F1 H1 vs e _ S1 R1 h1 => ⟨small_len (by rw [R1.length, evs_len _ _ _ _ _ e]; exact hl), fun p hp => ?_⟩
  have q : OutQ M.K F1 H1 (.val (.tuple ds)) Q := fun F' H' v aT g n => h1 as1 F' H' v aT g.f (S1.new g n).1 (S1.new g n).2
  exact q.tup S1.same hp R1
theorem ev_idx (ha : EV M X a ca) (hb : EV M X b cb) (hs : PlainIx b) (hK : X.K = M.K := by rfl) : EV M X (.Subscript a b pos) (.idx ca cb) := by
  refine ⟨fun W tk => PE.imp (pe_ix ix_any (ha.run W tk) (hb.run W tk) hs) fun σ H Q ⟨G, as, F, s, S, h⟩ => ?_⟩
  simp only [ev, fin_false] at h
  refine ⟨G, as, F, s, S, Post.bind h fun ra s1 as1 F1 H1 x aT _ _ S1 R1 h1 => ?_⟩
  obtain ⟨F2, ra', sf2, S2, R2, h2⟩ := hold_ok (k := fun ra => (ev M.Γ false cb s1).bind fun rb s2 => R.opt (((look s2 ra).bind fun x => (look s2 rb).bind fun y => idxF x y).map .val) s2) S1 R1 h1
  refine ⟨G, as1, F2, s1, S2, Post.bind h2 fun rb s2 as3 F3 H3 y bT _ sf3 S3 R3 h3 => ?_⟩
  obtain ⟨r, e3, q⟩ := Post.opt S3 h3
  rw [Option.map_eq_some_iff] at e3
  obtain ⟨d, e3, rfl⟩ := e3
  obtain ⟨dx, l1, e3⟩ := bind_some e3
  obtain ⟨dy, l2, e3⟩ := bind_some e3
  rw [hK]
  exact ⟨F3, dx, dy, d, S3.same, S3.lookH (R2.mono sf3) l1, S3.rt R3 l2, e3, q⟩

/-! ### slices -/
def PostO (M : Pm) (G : Gh) (W : WX) (F : Hp) (σ : L2.St) (res : R (Option Int)) (Q : Option Int → Hp → Prop) : Prop := match res with
  | .ok o s' => ∀ as' F' H', Same F F' → StA M.K G as' F' s' σ H' → Q o H'
  | .ex x p s' => ∀ as' F' H' cls d, Same F F' → StA M.K G as' F' s' σ H' → XRel M x p cls d F' H' → W cls d σ H'
  | .stk => False
structure OV (M : Pm) (X : Cx) (e : Option Expr) (ce : Option E) : Prop where
  run : ∀ W, L2N.Takes X W → PO X e fun σ H Q => ∃ G as F s, StA M.K G as F s σ H ∧ PostO M G W F σ (evo M.Γ ce s) Q
theorem PO.imp {e : Option Expr} {t t' : TO} (h : PO X e t) (i : ∀ σ H Q, t' σ H Q → t σ H Q) : PO X e t' := ⟨fun pins s σ H Q I q => h.run pins s σ H Q I (i _ _ _ q)⟩
theorem ov_none : OV M X none none := ⟨fun W _ => PO.imp po_none fun σ H Q ⟨G, as, F, s, S, h⟩ => h as F H (.refl _) S⟩
theorem ov_some (ha : EV M X a ca) : OV M X (some a) (some ca) := by
  refine ⟨fun W tk => PO.imp (po_some (ha.run W tk)) fun σ H Q ⟨G, as, F, s, S, h⟩ => ⟨G, as, F, s, S, ?_⟩⟩
  simp only [evo] at h
  cases e1 : ev M.Γ false ca s with
  | stk => rw [e1] at h; exact h
  | ex x p s' => rw [e1] at h; exact h
  | ok r s1 =>
    intro as1 F1 H1 v aT sf1 S1 R1
    rw [e1] at h
    simp only [R.bind] at h
    split at h
    · rename_i i e
      exact ⟨i, S1.rt R1 e, h as1 F1 H1 sf1 S1⟩
    · exact h.elim
theorem PostO.bind {r : R (Option Int)} {f : Option Int → Env → R Res} {Q' : Option Int → Hp → Prop} (h : Post M G W F σ (r.bind f) Q)
    (hk : ∀ o s' as' F' H', r = .ok o s' → Same F F' → StA M.K G as' F' s' σ H' → Post M G W F' σ (f o s') Q → Q' o H') : PostO M G W F σ r Q' := by
  cases r with
  | ok ds s' => exact fun as' F' H' sf S => hk ds s' as' F' H' rfl sf S (Post.mono h sf)
  | ex x p s' => exact h
  | stk => exact h
theorem ev_slc {lo hi : Option Expr} {clo chi : Option E} {p2 : Pos} (ha : EV M X a ca) (hl : OV M X lo clo) (hh : OV M X hi chi) (hK : X.K = M.K := by rfl) : EV M X (.Subscript a (.Slice lo hi none p2) pos) (.slc ca clo chi) := by
  refine ⟨fun W tk => PE.imp (pe_slice sl_any (ha.run W tk) (hl.run W tk) (hh.run W tk)) fun σ H Q ⟨G, as, F, s, S, h⟩ => ?_⟩
  simp only [ev, fin_false] at h
  refine ⟨G, as, F, s, S, Post.bind h fun ra s1 as1 F1 H1 x aT _ _ S1 R1 h1 => ?_⟩
  obtain ⟨F2, ra', sf2, S2, R2, h2⟩ := hold_ok (k := fun ra => (evo M.Γ clo s1).bind fun l s2 => (evo M.Γ chi s2).bind fun h s3 => R.opt ((look s3 ra).bind fun x => slcF x l h) s3) S1 R1 h1
  refine ⟨G, as1, F2, s1, S2, PostO.bind h2 fun l s2 as3 F3 H3 _ sf3 S3 h3 => ?_⟩
  refine ⟨G, as3, F3, s2, S3, PostO.bind h3 fun u s3 as4 F4 H4 _ sf4 S4 h4 => ?_⟩
  obtain ⟨r, e4, q⟩ := Post.opt S4 h4
  obtain ⟨dx, l1, e4⟩ := bind_some e4
  rw [hK]
  exact ⟨F4, dx, r, S4.same, S4.lookH ((R2.mono sf3).mono sf4) l1, e4, q⟩

/-! ### built-ins -/
theorem StA.lookAll {as : Nat → List Addr} {s : Env} {H : Hp} (S : StA M.K G as F s σ H) : ∀ {vs : List V} {rs : List Res} {ds : List D}, HeldA M.K F σ vs rs → MP.lookAll s rs = some ds → RtA M.K F H vs ds
  | _, _, ds, .nil, e => by
    simp only [MP.lookAll, Option.some.injEq] at e
    subst e
    exact .nil
  | _, _, ds, .cons h t, e => by
    simp only [MP.lookAll] at e
    obtain ⟨d, l, e⟩ := bind_some e
    rw [Option.map_eq_some_iff] at e
    obtain ⟨ds', e', rfl⟩ := e
    exact .cons (S.lookH h l) (StA.lookAll S t e')
def bltName : Blt → Str
  | .len => "len"
  | .abs => "abs"
  | .int => "int"
  | .str => "str"
  | .repr => "repr"
  | .list => "list"
  | .tuple => "tuple"
  | .sorted => "sorted"
  | .sum => "sum"
  | .min => "min"
  | .max => "max"
  | .bool => "bool"
theorem boot_blt (f : Blt) : bootBuiltins (bltName f) = some (bltVal f) := by
  cases f <;> decide +kernel
theorem blt_ne (f : Blt) : bltName f ≠ "__name__" ∧ (bltName f == ("__debug__" : Str)) = false := by
  cases f <;> decide +kernel
theorem ev_blt (f : Blt) {p : Pos} (hx : hotBad f = true → X.calm = true) (hg : Gl X (bltName f)) (hm : X.mg (bltName f) = none) (ha : AR M X (a :: es) ces) (hK : X.K = M.K := by rfl)
    (he : starEach (a :: es) X.env = (false, eval a X.env) :: starEach es X.env := by rfl) (hpl : (backTo pos (starEach es X.env)).any (·.1) = false := by rfl) : EV M X (.Call (.Name (bltName f) p) (a :: es) [] pos) (.blt f ces) := by
  have hv := boot_blt f
  have key : ∀ W, L2N.Takes X W → PE X (.Call (.Name (bltName f) p) (a :: es) [] pos) (tCB (rBlt X.K f) (tR M W ces)) := fun W tk => by
    have hr := call_blt (X := X) f hx
    cases hb : bltVal f with
    | builtin id =>
      rw [hb] at hr hv
      exact pe_callB hr hg hm hv (ha.run W tk) (blt_ne f).1 (blt_ne f).2 he hpl
    | type T =>
      rw [hb] at hr hv
      exact pe_callTy hr hg hm hv (ha.run W tk) (blt_ne f).1 (blt_ne f).2 he hpl
    | _ => cases f <;> cases hb
  refine ⟨fun W tk => PE.imp (key W tk) fun σ H Q ⟨G, as, F, s, S, h⟩ => ⟨G, as, F, s, S, ?_⟩⟩
  simp only [ev, fin_false] at h
  refine PostR.bind h fun rs s1 as1 F1 H1 vs e _ S1 R1 h1 => ?_
  obtain ⟨r, e1, q⟩ := Post.opt S1 h1
  obtain ⟨ds, l, e1⟩ := bind_some e1
  rw [hK]
  exact ⟨F1, ds, r, S1.same, S1.lookAll R1 l, e1, q⟩
end
end MP

set_option linter.all false
set_option maxRecDepth 100000
set_option maxHeartbeats 2000000
/-! MP: isinstance, what loops walk, targets, comprehensions. -/
namespace MP
open PySem L2
section
variable {M : Pm} {G : Gh} {W : WX} {F F' : Hp} {σ : L2.St} {Q Q' : VK} {X : Cx} {e a b c : Expr} {ca cb cc : E} {pos : Pos} {es : List Expr} {ces : List E}

/-! ### isinstance -/
def tyName : Ty → String
  | .int => "int"
  | .bool => "bool"
  | .str => "str"
  | .list => "list"
  | .tuple => "tuple"
def kindName : D → String
  | .none => "NoneType"
  | .bool _ => "bool"
  | .int _ => "int"
  | .str _ => "str"
  | .list _ => "list"
  | .tuple _ => "tuple"
  | .dict _ => "dict"
theorem kit_tab (y : Ty) (d : D) : kitB (kindName d) (tyName y) = some (isTy y d) := by
  cases y <;> cases d <;> first | decide +kernel | rfl
theorem tyx_of {K : PySem.W.Frag} {F H : Hp} {v : V} {d : D} (h : Rt K F H v d) : TyX K H v (.type (kindName d)) := by
  cases d with
  | none => cases h; exact .base .non
  | bool b => cases h; exact .base (.bl _)
  | int i => cases h; exact .base (.int _)
  | str z => cases h; exact .base (.str _)
  | list ds =>
    obtain ⟨p, xs, rfl, hr, _⟩ := h
    rcases hr with (hr | ⟨o, hr⟩) | ⟨o, _, _, hk, hc, _⟩
    · exact .base (.lst hr)
    · exact .base (.frz hr)
    · exact .kList hk hc
  | tuple ds =>
    obtain ⟨p, xs, rfl, hr, _⟩ := h
    exact .base (.tup hr)
  | dict kvs =>
    rcases h with ⟨p, ks, ds, rfl, hr, _⟩ | ⟨p, ks, ds, rfl, hr, _⟩
    · rcases hr with hr | ⟨o, hr⟩
      · exact .base (.dK hr)
      · exact .fDict hr
    · exact .base (.dT hr.1)
theorem kit_all {K : PySem.W.Frag} (d : D) : ∀ ts : List Ty, PySem.W.kitAny K (.type (kindName d)) (ts.map fun y => .type (tyName y)) = some (ts.any fun y => isTy y d)
  | [] => rfl
  | y :: ts => by
    refine kitAny_cons (kit_ty (kit_tab y d)) (fun h => ?_) (fun h => ?_)
    · rw [List.any_cons, h, Bool.false_or]
      exact kit_all d ts
    · rw [List.any_cons, h, Bool.true_or]
theorem boot_ty (y : Ty) : bootBuiltins (tyName y) = some (.type (tyName y)) := by
  cases y <;> decide +kernel
theorem boot_isi : bootBuiltins "isinstance" = some (.builtin "isinstance") := by decide +kernel
theorem ty_ne (y : Ty) : (tyName y : Str) ≠ "__name__" ∧ ((tyName y : Str) == ("__debug__" : Str)) = false := by
  cases y <;> decide +kernel
/-- the class names of the second argument -/
def tyN (ps : List Pos) (ts : List Ty) : List Expr := (ps.zip ts).map fun (p, y) => .Name (tyName y : Str) p
theorem pe_ty (y : Ty) {p : Pos} (hg : Gl X (tyName y)) (hm : X.mg (tyName y) = none) : PE X (.Name (tyName y : Str) p) (tC (.ty (tyName y))) := pe_bltn hg hm (boot_ty y) (show RelV (.ty (tyName y)) (.type (tyName y)) from rfl) (ty_ne y).1 (ty_ne y).2
theorem isi_core {as : Nat → List Addr} {F : Hp} {s : Env} {H : Hp} {Q : VK} {ts : List Ty} (S : StA M.K G as F s σ H) (h : Post M G W F σ (ev M.Γ false (.isi ca ts) s) Q) :
    Post M G W F σ (ev M.Γ false ca s) fun v H1 => ∃ F d, Same F H1 ∧ Rt M.K F H1 v d ∧ OutQ M.K F H1 (.val (.bool (ts.any fun y => isTy y d))) Q := by
  simp only [ev, fin_false] at h
  refine Post.bind h fun ra s1 as1 F1 H1 x aT _ _ S1 R1 h1 => ?_
  obtain ⟨r, e, q⟩ := Post.opt S1 h1
  rw [Option.map_eq_some_iff] at e
  obtain ⟨d, e, rfl⟩ := e
  exact ⟨F1, d, S1.same, S1.rt R1 e, q⟩
theorem ev_isi (y : Ty) {p p2 : Pos} (ha : EV M X a ca) (hg : Gl X "isinstance") (hm : X.mg "isinstance" = none) (hg2 : Gl X (tyName y)) (hm2 : X.mg (tyName y) = none) (hK : X.K = M.K := by rfl)
    (he : starEach (a :: [.Name (tyName y : Str) p2]) X.env = (false, eval a X.env) :: starEach [.Name (tyName y : Str) p2] X.env := by rfl) : EV M X (.Call (.Name "isinstance" p) [a, .Name (tyName y : Str) p2] [] pos) (.isi ca [y]) := by
  refine ⟨fun W tk => PE.imp (pe_callB call_isi hg hm boot_isi (pa_cons (ha.run W tk) (pa_cons (pe_ty y hg2 hm2) pa_nil) he) (by decide) (by decide) he) fun σ H Q ⟨G, as, F, s, S, h⟩ => ⟨G, as, F, s, S, (isi_core S h).imp fun v H1 ⟨F1, d, sm, r, q⟩ => ?_⟩⟩
  refine ⟨v, .ty (tyName y), _, _, _, rfl, .ty _, by rw [hK]; exact tyx_of r, kit_ty (kit_tab y d), ?_⟩
  have q' := q.same sm (.bl _)
  rw [List.any_cons, List.any_nil, Bool.or_false] at q'
  exact q'
theorem ev_isi2 (y z : Ty) {k : Nat} {p p2 p3 p4 : Pos} (ha : EV M X a ca) (hg : Gl X "isinstance") (hm : X.mg "isinstance" = none) (hg2 : Gl X (tyName y)) (hm2 : X.mg (tyName y) = none) (hg3 : Gl X (tyName z)) (hm3 : X.mg (tyName z) = none) (hK : X.K = M.K := by rfl)
    (he : starEach (a :: [.Tuple [.Name (tyName y : Str) p2, .Name (tyName z : Str) p4] k p3]) X.env = (false, eval a X.env) :: starEach [.Tuple [.Name (tyName y : Str) p2, .Name (tyName z : Str) p4] k p3] X.env := by rfl) :
    EV M X (.Call (.Name "isinstance" p) [a, .Tuple [.Name (tyName y : Str) p2, .Name (tyName z : Str) p4] k p3] [] pos) (.isi ca [y, z]) := by
  refine ⟨fun W tk => PE.imp (pe_callB call_isiT hg hm boot_isi (pa_cons (ha.run W tk) (pa_cons (pe_tup (pa_cons (pe_ty y hg2 hm2) (pa_cons (pe_ty z hg3 hm3) pa_nil))) pa_nil) he) (by decide) (by decide) he) fun σ H Q ⟨G, as, F, s, S, h⟩ => ⟨G, as, F, s, S, (isi_core S h).imp fun v H1 ⟨F1, d, sm, r, q⟩ => ?_⟩⟩
  refine ⟨small_len (by show 2 ≤ 1000; decide), fun t ht => ?_⟩
  have g := grow_newF (o := .tup [.ty (tyName y), .ty (tyName z)]) sm ht
  refine ⟨v, t, [.ty (tyName y), .ty (tyName z)], _, [.type (tyName y), .type (tyName z)], _, rfl, upd_same, .cons (.ty _) (.cons (.ty _) .nil), by rw [hK]; exact tyx_of (r.mono g.f g.h), kit_all d [y, z], ?_⟩
  exact q _ _ _ [] g ⟨.bl _, rfl⟩

/-! ### what loops walk -/
/-- it walks the items, as long as what is frozen and what no slot may change stands -/
def WalkD (K : PySem.W.Frag) (F H : Hp) (s : Env) (as : Nat → List Addr) (J : It) (items : List D) : Prop :=
  ∃ st : Hp → Prop, (∀ H', Same F H' → (∀ (i : Nat) (m : Mode) (c : Cell) (q : Addr) (o : HO), s[i]? = some (some (m, c)) → notRo m = false → q ∈ as i → H q = some o → H' q = some o) → st H') ∧
    Walk J items.length st fun i H x H' => H' = H ∧ ∃ d, items[i]? = some d ∧ Rp K F x d
def PostI (M : Pm) (G : Gh) (W : WX) (F : Hp) (σ : L2.St) (k : IK) (res : R (List Res)) (Rr : It → Hp → Prop) : Prop := match res with
  | .ok rs s1 => match (lookAll s1 rs).bind (itF k), srcE k s1 rs with
    | some items, some s2 => ∀ as' F' H' J, Same F F' → StA M.K G as' F' s2 σ H' → WalkD M.K F' H' s2 as' J items → Rr J H'
    | _, _ => False
  | .ex x p s' => ∀ as' F' H' cls d, Same F F' → StA M.K G as' F' s' σ H' → XRel M x p cls d F' H' → W cls d σ H'
  | .stk => False
structure IV (M : Pm) (X : Cx) (tg iter : Expr) (k : IK) (src : List E) : Prop where
  run : ∀ W, L2N.Takes X W → PI X tg iter fun σ H Rr => ∃ G as F s, StA M.K G as F s σ H ∧ PostI M G W F σ k (evr M.Γ src s) Rr
theorem PI.imp {tg iter : Expr} {t t' : TI} (h : PI X tg iter t) (i : ∀ σ H Q, t' σ H Q → t σ H Q) : PI X tg iter t' := ⟨fun pins s σ H Q I q => h.run pins s σ H Q I (i _ _ _ q)⟩
/-- a list, a tuple or a text -/
def iAny (K : PySem.W.Frag) (tl : TE) : TI := fun σ H Rr => tl σ H fun x H1 => (∃ p xs, x = .ref p ∧ SqL K H1 p xs ∧ Rr (Itl K p) H1) ∨ (∃ p xs, x = .ref p ∧ SqT K H1 p xs ∧ Rr (Itt K p) H1) ∨ ∃ z, x = .str z ∧ Rr (Its z) H1
theorem pi_any {tg : Expr} {tl : TE} (he : PE X e tl) : PI X tg e (iAny X.K tl) := by
  refine ⟨fun pins s σ H Rr I h => thn (he.run pins s σ H _ I h) fun v s1 ⟨x, H1, I1, rx, q⟩ => ?_⟩
  rcases q with ⟨p, xs, ex, hs, q⟩ | ⟨p, xs, ex, hs, q⟩ | ⟨z, ex, q⟩
  · subst ex
    cases rx
    obtain ⟨us, _, pl, _⟩ := I1.list hs
    exact wpAny_pyIter_list pl.isList (pi_one (tk := s1.toks) I1 _ (turn_list p _) ⟨_, Heap.get?_push_size _ rfl, rfl, rfl⟩ q)
  · subst ex
    cases rx
    obtain ⟨us, _, pl, _⟩ := I1.tuple hs
    exact wpAny_pyIter_tuple (show s1.heap.IsTuple p us.toArray from pl) (pi_one (tk := s1.toks) I1 _ (turn_tuple p _) ⟨_, Heap.get?_push_size _ rfl, rfl, rfl⟩ q)
  · subst ex
    obtain ⟨t, rfl⟩ := rx
    cases hz : z.cps.all (· < 128) with
    | false => exact wpAny_pyIter_wide hz (pi_one (tk := s1.toks) I1 _ (turn_str _ z t "str_iterator" (.inr rfl)) ⟨_, Heap.get?_push_size _ rfl, rfl, rfl⟩ q)
    | true => exact wpAny_pyIter_ascii hz (pi_one (tk := s1.toks) I1 _ (turn_str _ z t "str_ascii_iterator" (.inl rfl)) ⟨_, Heap.get?_push_size _ rfl, rfl, rfl⟩ q)
theorem evr_one (Γ : Cfg) (ca : E) (s : Env) : evr Γ [ca] s = (ev Γ false ca s).bind fun r s1 => match hold r with
    | none => .stk
    | some r => .ok [r] s1 := by
  simp only [evr]
  cases ev Γ false ca s with
  | ok r s1 =>
    first
      | (simp only [R.bind]; done)
      | (simp only [R.bind]; cases hold r <;> rfl)
  | ex x p s' => rfl
  | stk => rfl
/-- from a value's data to the walk: ks tells which iterator stands for which value -/
theorem src_core {as : Nat → List Addr} {F : Hp} {s : Env} {H : Hp} {k : IK} {Rr : It → Hp → Prop} {Q' : VK} (hr : k ≠ .rng) (S : StA M.K G as F s σ H) (h : PostI M G W F σ k (evr M.Γ [ca] s) Rr)
    (hk : ∀ as' F' H' s2 d items x, itF k [d] = some items → StA M.K G as' F' s2 σ H' → (Rp M.K F' x d ∨ ∃ (i : Nat) (c : Cell), s2[i]? = some (some (.ro, c)) ∧ c.d? = some d ∧ CRel M.K F' H' x c (as' i)) →
      (∀ J, WalkD M.K F' H' s2 as' J items → Rr J H') → Q' x H') : Post M G W F σ (ev M.Γ false ca s) Q' := by
  have sv : ∀ (s : Env) (d : D), srcE k s [.val d] = some s := fun s d => by cases k <;> rfl
  have sb : ∀ (s : Env) (i : Nat), srcE k s [.bor i] = match s[i]? with
    | some (some (.fr, c)) => c.d?.map fun d => s.set i (some (.fr, .val d))
    | some (some (.ro, _)) => some s
    | _ => none := fun s i => by
    cases k with
    | rng => exact absurd rfl hr
    | _ => rfl
  rw [evr_one] at h
  cases e1 : ev M.Γ false ca s with
  | stk => rw [e1] at h; exact h
  | ex x p s' => rw [e1] at h; exact h
  | ok r s1 =>
    intro as1 F1 H1 v aT sf1 S1 R1
    rw [e1] at h
    simp only [R.bind] at h
    cases r with
    | val d =>
      simp only [hold, PostI, lookAll, look, sv] at h
      split at h
      · rename_i items s2 ei es
        cases es
        obtain ⟨ds, e2, e3⟩ := bind_some ei
        cases e2
        exact hk as1 F1 H1 s1 d items v e3 S1 (.inl R1.1) fun J w => h as1 F1 H1 J sf1 S1 w
      · exact h.elim
    | tmp c =>
      obtain ⟨rc, nd, fr, di⟩ := R1
      cases e : c.d? with
      | none =>
        simp only [hold, e, Option.map_none] at h
        exact h.elim
      | some d =>
        simp only [hold, e, Option.map_some, PostI, lookAll, look, sv] at h
        have sm : Same F1 (ovr F1 H1 aT) := same_ovr fun p hp => (fr p hp).1
        split at h
        · rename_i items s2 ei es
          cases es
          obtain ⟨ds, e2, e3⟩ := bind_some ei
          cases e2
          exact hk as1 _ H1 s1 d items v e3 (S1.hold fr di) (.inl (rc.freeze e sm fun p hp o q => by rw [ovr_in hp]; exact q)) fun J w => h as1 _ H1 J (sf1.trans sm) (S1.hold fr di) w
        · exact h.elim
    | bor i =>
      have hv : σ[i]? = some (some v) := R1.1
      simp only [hold, PostI, lookAll, sb] at h
      cases q : s1[i]? with
      | none => simp only [look, q] at h; exact h.elim
      | some o =>
        cases o with
        | none => simp only [look, q] at h; exact h.elim
        | some mc =>
          obtain ⟨m, c⟩ := mc
          obtain ⟨v', hv', rc⟩ := S1.cell i m c q
          rw [hv] at hv'
          cases hv'
          simp only [look, q] at h
          cases ed : c.d? with
          | none => rw [ed] at h; exact h.elim
          | some d =>
            rw [ed] at h
            simp only [Option.bind_some, Option.map_some] at h
            cases m with
            | pin => cases e3 : itF k [d] <;> rw [e3] at h <;> exact h.elim
            | ro =>
              cases e3 : itF k [d] with
              | none => rw [e3] at h; exact h.elim
              | some items =>
                rw [e3] at h
                exact hk as1 F1 H1 s1 d items v e3 S1 (.inr ⟨i, c, q, ed, rc⟩) fun J w => h as1 F1 H1 J sf1 S1 w
            | fr =>
              cases e3 : itF k [d] with
              | none => rw [e3] at h; exact h.elim
              | some items =>
                rw [e3] at h
                obtain ⟨F2, w, sm, hw, rp, S2, _⟩ := S1.freezeSlot q ed
                simp only [ed, Option.map_some] at h
                rw [hv] at hw
                cases hw
                exact hk _ F2 H1 _ d items v e3 S2 (.inl rp) fun J w => h _ F2 H1 J (sf1.trans sm) S2 w
/-- the list that is walked -/
theorem walkd_list {as : Nat → List Addr} {s : Env} {H : Hp} {v : V} {ds : List D} {K : PySem.W.Frag} (S : StA K G as F s σ H) (h : Rp K F v (.list ds) ∨ ∃ (i : Nat) (c : Cell), s[i]? = some (some (.ro, c)) ∧ c.d? = some (.list ds) ∧ CRel K F H v c (as i)) :
    ∃ p xs, v = .ref p ∧ SqL K H p xs ∧ xs.length = ds.length ∧ WalkD K F H s as (Itl K p) ds ∧ WalkD K F H s as (Itv K p xs.length) ds.reverse := by
  have key : ∃ p xs, v = .ref p ∧ SqL K H p xs ∧ RpA K F xs ds ∧ (∀ H', Same F H' → (∀ (i : Nat) (m : Mode) (c : Cell) (q : Addr) (o : HO), s[i]? = some (some (m, c)) → notRo m = false → q ∈ as i → H q = some o → H' q = some o) → SqL K H' p xs) := by
    rcases h with h | ⟨i, c, q, ed, rc⟩
    · cases h with
      | lst h r => exact ⟨_, _, rfl, S.same.seq h, r, fun H' sf _ => sf.seq h⟩
    · generalize hl : as i = l at rc
      cases rc with
      | exn => cases ed
      | val r =>
        simp only [Cell.d?, Option.some.injEq] at ed
        subst ed
        cases r with
        | lst h r => exact ⟨_, _, rfl, S.same.seq h, r, fun H' sf _ => sf.seq h⟩
      | @lst p xs ds' h r =>
        simp only [Cell.d?, Option.some.injEq, PyData.list.injEq] at ed
        subst ed
        exact ⟨p, xs, rfl, .of h, r, fun H' _ st => .of (st i .ro _ p _ q rfl (by rw [hl]; simp) h)⟩
      | dK h r => cases ed
      | dT h r => cases ed
  obtain ⟨p, xs, rfl, hs, r, st⟩ := key
  refine ⟨p, xs, rfl, hs, r.length, ⟨fun H' => SqL K H' p xs, st, ?_⟩, ⟨fun H' => SqL K H' p xs, st, ?_⟩⟩
  · rw [← r.length]
    refine walk_list.mono (fun _ h => h) fun i H x H' hi _ y => ⟨y.1, ?_⟩
    exact r.getV y.2
  · rw [List.length_reverse, ← r.length]
    refine walk_rev.mono (fun _ h => h) fun i H x H' hi _ y => ⟨y.1, ?_⟩
    obtain ⟨d, h1, h2⟩ := r.getV y.2
    refine ⟨d, ?_, h2⟩
    rw [r.length] at h1 hi
    rw [List.getElem?_reverse hi]
    exact h1
theorem iv_seq {tg : Expr} (he : EV M X e ca) (hK : X.K = M.K := by rfl) : IV M X tg e .seq [ca] := by
  refine ⟨fun W tk => PI.imp (pi_any (he.run W tk)) fun σ H Rr ⟨G, as, F, s, S, h⟩ => ⟨G, as, F, s, S, src_core (by simp) S h fun as' F' H' s2 d items x ei S2 hd w => ?_⟩⟩
  rw [hK]
  unfold itF at ei
  split at ei
  · cases ei
    rename_i ds _ e0
    cases e0
    obtain ⟨p, xs, rfl, hs, _, w1, _⟩ := walkd_list S2 hd
    exact .inl ⟨p, xs, rfl, hs, w _ w1⟩
  · cases ei
    rename_i ds _ e0
    cases e0
    have key : ∃ p xs, x = .ref p ∧ F' p = some (.tup xs) ∧ RpA M.K F' xs items := by
      rcases hd with h | ⟨i, c, q, ed, rc⟩
      · cases h with
        | tup h r => exact ⟨_, _, rfl, h, r⟩
      · generalize as' i = l at rc
        cases rc with
        | val r =>
          simp only [Cell.d?, Option.some.injEq] at ed
          subst ed
          cases r with
          | tup h r => exact ⟨_, _, rfl, h, r⟩
        | _ => cases ed
    obtain ⟨p, xs, rfl, h, r⟩ := key
    refine .inr (.inl ⟨p, xs, rfl, .of (S2.same _ _ h), w _ ⟨fun H' => SqT M.K H' p xs, fun H' sf _ => .of (sf _ _ h), ?_⟩⟩)
    rw [← r.length]
    exact walk_tup.mono (fun _ h => h) fun i H x H' hi _ y => ⟨y.1, r.getV y.2⟩
  · cases ei
    rename_i z _ e0
    cases e0
    have key : x = .str z := by
      rcases hd with h | ⟨i, c, q, ed, rc⟩
      · cases h; rfl
      · generalize as' i = l at rc
        cases rc with
        | val r =>
          simp only [Cell.d?, Option.some.injEq] at ed
          subst ed
          cases r
          rfl
        | _ => cases ed
    subst key
    refine .inr (.inr ⟨z, rfl, w _ ⟨fun _ => True, fun _ _ _ => trivial, ?_⟩⟩)
    rw [List.length_map, Array.length_toList]
    refine walk_str.mono (fun _ h => h) fun i H x H' hi _ y => ⟨y.1, ?_⟩
    obtain ⟨c, h1, rfl⟩ := y.2
    refine ⟨.str ⟨#[c]⟩, ?_, .str _⟩
    rw [List.getElem?_map, Array.getElem?_toList, h1]
    rfl
  all_goals first | (cases ‹IK.seq = IK.rng›) | (cases ‹IK.seq = IK.rev›) | (cases ‹IK.seq = IK.dwn›) | cases ei
end
end MP

set_option linter.all false
set_option maxRecDepth 100000
set_option maxHeartbeats 2000000
/-! MP: range, reversed; targets; comprehensions. -/
namespace MP
open PySem L2
section
variable {M : Pm} {G : Gh} {W : WX} {F F' : Hp} {σ : L2.St} {Q Q' : VK} {X : Cx} {e a b c : Expr} {ca cb cc : E} {pos : Pos} {es : List Expr} {ces : List E}

theorem evr_len (Γ : Cfg) : ∀ (ces : List E) (s : Env) (rs : List Res) (s' : Env), evr Γ ces s = .ok rs s' → rs.length = ces.length
  | [], s, rs, s', h => by
    simp only [evr] at h
    cases h
    rfl
  | e :: es, s, rs, s', h => by
    simp only [evr] at h
    cases e1 : ev Γ false e s with
    | stk => rw [e1] at h; cases h
    | ex x p s' => rw [e1] at h; cases h
    | ok r s1 =>
      rw [e1] at h
      simp only [R.bind] at h
      split at h
      · cases h
      · cases e3 : evr Γ es s1 with
        | stk => rw [e3] at h; cases h
        | ex x p s' => rw [e3] at h; cases h
        | ok ds' s3 =>
          rw [e3] at h
          cases h
          rw [List.length_cons, List.length_cons, evr_len Γ es s1 ds' _ e3]
theorem HeldA.length {K : PySem.W.Frag} : ∀ {vs : List V} {rs : List Res}, HeldA K F σ vs rs → vs.length = rs.length
  | _, _, .nil => rfl
  | _, _, .cons _ t => by rw [List.length_cons, List.length_cons, HeldA.length t]
theorem rng_core {as : Nat → List Addr} {F : Hp} {s : Env} {H : Hp} {k : IK} {Rr : It → Hp → Prop} {Q' : List V → Hp → Prop} (S : StA M.K G as F s σ H) (h : PostI M G W F σ k (evr M.Γ ces s) Rr)
    (hk : ∀ as' F' H' s2 ds items vs, itF k ds = some items → StA M.K G as' F' s2 σ H' → RtA M.K F' H' vs ds → vs.length = ces.length → (∀ J, WalkD M.K F' H' s2 as' J items → Rr J H') → Q' vs H') (hs : k = .rng) :
    PostR M G W F σ (evr M.Γ ces s) Q' := by
  cases e1 : evr M.Γ ces s with
  | stk => rw [e1] at h; exact h
  | ex x p s' => rw [e1] at h; exact h
  | ok rs s1 =>
    intro as1 F1 H1 vs sf1 S1 R1
    rw [e1] at h
    simp only [PostI] at h
    split at h
    · rename_i items s2 ei es
      obtain ⟨ds, e2, e3⟩ := bind_some ei
      subst hs
      cases es
      exact hk as1 F1 H1 s1 ds items vs e3 S1 (S1.lookAll R1 e2) (by rw [R1.length, evr_len _ _ _ _ _ e1]) fun J w => h as1 F1 H1 J sf1 S1 w
    · exact h.elim
theorem walkd_rng {K : PySem.W.Frag} {F H : Hp} {s : Env} {as : Nat → List Addr} (a : Int) (n : Nat) : WalkD K F H s as (Itr a n) ((List.range n).map fun (k : Nat) => .int (a + k)) := by
  refine ⟨fun _ => True, fun _ _ _ => trivial, ?_⟩
  rw [List.length_map, List.length_range]
  refine walk_range.mono (fun _ h => h) fun i H x H' hi _ y => ⟨y.1, .int (a + i), ?_, ?_⟩
  · rw [List.getElem?_map, List.getElem?_range hi]
    rfl
  · rw [y.2]
    exact .int _
theorem rng1_read {σ : L2.St} {H : Hp} {Rr : It → Hp → Prop} (h : ∃ G as F s, StA M.K G as F s σ H ∧ PostI M G W F σ .rng (evr M.Γ [ca] s) Rr) : iRng1 (tR M W [ca]) σ H Rr := by
  obtain ⟨G, as, F, s, S, h⟩ := h
  refine ⟨G, as, F, s, S, rng_core S h (fun as' F' H' s2 ds items vs ei S2 rr hl w => ?_) rfl⟩
  unfold itF at ei
  split at ei
  all_goals first | (cases ‹IK.rng = IK.seq›) | (cases ‹IK.rng = IK.rev›) | (cases ‹IK.rng = IK.dwn›) | (cases ei; done) | skip
  · rename_i n _
    obtain ⟨v, rfl, hv⟩ := rr.one
    cases hv
    split at ei
    · rename_i hn
      cases ei
      refine ⟨n, rfl, by omega, by omega, w _ ?_⟩
      have := walkd_rng (K := M.K) (F := F') (H := H') (s := s2) (as := as') 0 n.toNat
      simp only [Int.zero_add] at this
      exact this
    · cases ei
  · obtain ⟨v, w', rfl, _⟩ := rr.two
    cases hl
theorem iv_rng1 {tg : Expr} {p : Pos} (hg : Gl X "range") (hm : X.mg "range" = none) (ha : AR M X [a] [ca]) (hs : starEach [a] X.env = [(false, eval a X.env)] := by rfl) : IV M X tg (.Call (.Name "range" p) [a] [] pos) .rng [ca] :=
  ⟨fun W tk => PI.imp (pi_range1 hg hm (ha.run W tk) hs) fun σ H Rr h => rng1_read h⟩
theorem iv_rng2 {tg : Expr} {p : Pos} (hg : Gl X "range") (hm : X.mg "range" = none) (ha : AR M X [a, b] [ca, cb]) (hs : starEach [a, b] X.env = [(false, eval a X.env), (false, eval b X.env)] := by rfl) (hs2 : starEach [b] X.env = [(false, eval b X.env)] := by rfl) :
    IV M X tg (.Call (.Name "range" p) [a, b] [] pos) .rng [ca, cb] := by
  refine ⟨fun W tk => PI.imp (pi_range2 hg hm (ha.run W tk) hs hs2) fun σ H Rr ⟨G, as, F, s, S, h⟩ => ⟨G, as, F, s, S, rng_core S h (fun as' F' H' s2 ds items vs ei S2 rr hl w => ?_) rfl⟩⟩
  unfold itF at ei
  split at ei
  all_goals first | (cases ‹IK.rng = IK.seq›) | (cases ‹IK.rng = IK.rev›) | (cases ‹IK.rng = IK.dwn›) | (cases ei; done) | skip
  · obtain ⟨v, rfl, _⟩ := rr.one
    cases hl
  · rename_i n m _
    obtain ⟨v, w', rfl, hv, hw⟩ := rr.two
    cases hv
    cases hw
    split at ei
    · rename_i hn
      cases ei
      exact ⟨n, m, rfl, ⟨by omega, by omega, by omega, by omega⟩, w _ (walkd_rng _ _)⟩
    · cases ei
theorem iv_rev {tg : Expr} {p : Pos} (hg : Gl X "reversed") (hm : X.mg "reversed" = none) (ha : EV M X a ca) (hK : X.K = M.K := by rfl) (hs : starEach [a] X.env = [(false, eval a X.env)] := by rfl) :
    IV M X tg (.Call (.Name "reversed" p) [a] [] pos) .rev [ca] := by
  refine ⟨fun W tk => PI.imp (pi_reversed hg hm (pa_cons (ha.run W tk) pa_nil hs) hs) fun σ H Rr ⟨G, as, F, s, S, h⟩ => ⟨G, as, F, s, S, src_core (by simp) S h fun as' F' H' s2 d items x ei S2 hd w => ?_⟩⟩
  rw [hK]
  unfold itF at ei
  split at ei
  all_goals first | (cases ‹IK.rev = IK.seq›) | (cases ‹IK.rev = IK.rng›) | (cases ‹IK.rev = IK.dwn›) | (cases ei; done) | skip
  cases ei
  rename_i ds _ e0
  cases e0
  obtain ⟨p, xs, rfl, hs, _, _, w2⟩ := walkd_list S2 hd
  exact ⟨p, xs, rfl, hs, w _ w2⟩

/-! ### targets -/
def setVs (σ : L2.St) : List Nat → List V → L2.St
  | i :: is, x :: xs => setVs (σ.set i (some x)) is xs
  | _, _ => σ
def tgT (t : Tg) : TG := fun v σ H Q => match t with
  | .name i => Q (σ.set i (some v)) H
  | .tup is => ∃ p xs, v = .ref p ∧ H p = some (.tup xs) ∧ xs.length = is.length ∧ Q (setVs σ is xs) H
theorem tg_name {i : Nat} {x : Str} (hN : X.N.Nodup) (hi : X.N[i]? = some x) (hx : Loc X.env.scope x) (hf : X.fn x = true ∨ X.env.scope.names.lookup x = some .local := by first | exact .inl rfl | exact .inr rfl | assumption) : PG X (.Name x pos) (tgT (.name i)) := pg_name hN hi hx hf
def tupG : List Nat → TGs
  | [] => gNil
  | i :: is => gCons (gName i) (tupG is)
theorem tupG_run {H : Hp} {Q : L2.St → Hp → Prop} : ∀ (is : List Nat) (xs : List V) (σ : L2.St), xs.length = is.length → Q (setVs σ is xs) H → tupG is xs σ H Q
  | [], [], σ, _, q => ⟨rfl, q⟩
  | i :: is, x :: xs, σ, hl, q => ⟨x, xs, rfl, tupG_run is xs _ (Nat.succ.inj hl) q⟩
  | [], _ :: _, _, hl, _ => by cases hl
  | _ :: _, [], _, hl, _ => by cases hl
theorem tg_tup {es : List Expr} {k : Nat} {is : List Nat} (hc : X.calm = true) (h : PGs X es (tupG is)) (hn : (assignEach es X.env).length = is.length := by rfl) (hst : (assignEach es X.env).findIdx? (·.1) = none := by rfl) : PG X (.Tuple es k pos) (tgT (.tup is)) := by
  have h0 := pg_tup (pos := pos) (k := k) hc h hn hst
  refine ⟨fun pins s σ H v u Q I r hw => h0.run pins s σ H v u Q I r ?_⟩
  obtain ⟨p, xs, e, hp, hl, q⟩ := hw
  exact ⟨p, xs, e, .of hp, hl, tupG_run is xs σ hl q⟩
theorem freeI_at {s : Env} {is : List Nat} (h : freeI s is = true) : ∀ i ∈ is, freeAt s i := fun i hi => by
  have := List.all_eq_true.mp h i hi
  split at this
  · rename_i c q
    exact .inr ⟨c, q⟩
  · rename_i q
    exact .inl q
  · cases this
theorem freeAt.set {s : Env} {i j : Nat} {c : Cell} (h : freeAt s j) (hi : i < s.length) : freeAt (s.set i (some (.fr, c))) j := by
  by_cases z : j = i
  · subst z
    exact .inr ⟨c, List.getElem?_set_self hi⟩
  · rcases h with h | ⟨c', h⟩
    · exact .inl (by rw [List.getElem?_set_ne (Ne.symm z)]; exact h)
    · exact .inr ⟨c', by rw [List.getElem?_set_ne (Ne.symm z)]; exact h⟩
theorem StA.setAll : ∀ (is : List Nat) (ds : List D) {as : Nat → List Addr} {s s' : Env} {H : Hp} {σ : L2.St} {xs : List V}, StA M.K G as F s σ H → (∀ i ∈ is, freeAt s i) → RpA M.K F xs ds → MP.setAll s is ds = some s' →
    xs.length = is.length ∧ ∃ as', StA M.K G as' F s' (setVs σ is xs) H ∧ ∀ p i, p ∈ as' i → ∃ j, p ∈ as j
  | [], [], as, s, s', H, σ, xs, S, hf, r, e => by
    simp only [MP.setAll, Option.some.injEq] at e
    subst e
    cases r
    exact ⟨rfl, as, S, fun p i h => ⟨i, h⟩⟩
  | i :: is, d :: ds, as, s, s', H, σ, xs, S, hf, r, e => by
    simp only [MP.setAll] at e
    cases r with
    | cons r t =>
      have hi := hf i (by simp)
      have S1 := S.putVal hi r
      obtain ⟨h1, as', S2, h2⟩ := StA.setAll is ds S1 (fun j hj => (hf j (by simp [hj])).set hi.lt) t e
      refine ⟨by rw [List.length_cons, List.length_cons, h1], as', S2, fun p k hk => ?_⟩
      obtain ⟨j, hj⟩ := h2 p k hk
      split at hj
      · cases hj
      · exact ⟨j, hj⟩
  | [], _ :: _, _, _, _, _, _, _, _, _, _, e => by cases e
  | _ :: _, [], _, _, _, _, _, _, _, _, _, e => by cases e
theorem setAll_len : ∀ (is : List Nat) (ds : List D) (s s' : Env), MP.setAll s is ds = some s' → s'.length = s.length
  | [], [], s, s', e => by
    simp only [MP.setAll, Option.some.injEq] at e
    rw [e]
  | i :: is, d :: ds, s, s', e => by
    simp only [MP.setAll] at e
    rw [setAll_len is ds _ _ e, List.length_set]
  | [], _ :: _, _, _, e => by cases e
  | _ :: _, [], _, _, e => by cases e
theorem bindT_len {t : Tg} {d : D} {s s' : Env} (e : bindT t d s = some s') : s'.length = s.length := by
  cases t with
  | name i =>
    simp only [bindT, Option.some.injEq] at e
    rw [← e, List.length_set]
  | tup is =>
    simp only [bindT] at e
    split at e
    · exact setAll_len _ _ _ _ e
    · cases e
theorem bindT_ok {t : Tg} {d : D} {as : Nat → List Addr} {s s' : Env} {H : Hp} {x : V} {Q : L2.St → Hp → Prop} (S : StA M.K G as F s σ H) (hf : ∀ i ∈ t.slots, freeAt s i) (r : Rp M.K F x d) (e : bindT t d s = some s')
    (h : ∀ as' σ', StA M.K G as' F s' σ' H → (∀ p i, p ∈ as' i → ∃ j, p ∈ as j) → (∀ i, i ∉ t.slots → σ'[i]? = σ[i]?) → Q σ' H) : tgT t x σ H Q := by
  cases t with
  | name i =>
    simp only [bindT, Option.some.injEq] at e
    subst e
    refine h _ _ (S.putVal (hf i (by simp [Tg.slots])) r) (fun p j hp => ?_) fun j hj => ?_
    · split at hp
      · cases hp
      · exact ⟨j, hp⟩
    · rw [List.getElem?_set_ne]
      intro z
      exact hj (by simp [Tg.slots, z])
  | tup is =>
    simp only [bindT] at e
    split at e
    · cases r with
      | tup hp rr =>
        obtain ⟨hl, as', S', hs⟩ := StA.setAll is _ S hf rr e
        refine ⟨_, _, rfl, S.same _ _ hp, hl, h as' _ S' hs fun j hj => ?_⟩
        have key : ∀ (is : List Nat) (xs : List V) (σ : L2.St), j ∉ is → (setVs σ is xs)[j]? = σ[j]? := by
          intro is
          induction is with
          | nil => intro xs σ _; cases xs <;> rfl
          | cons i is ih =>
            intro xs σ hn
            cases xs with
            | nil => rfl
            | cons x xs =>
              rw [List.mem_cons, not_or] at hn
              show (setVs (σ.set i (some x)) is xs)[j]? = _
              rw [ih xs _ hn.2, List.getElem?_set_ne (Ne.symm hn.1)]
        exact key is _ σ hj
    · cases e
end
end MP

set_option linter.all false
set_option maxRecDepth 100000
set_option maxHeartbeats 2000000
/-! MP: list comprehensions. -/
namespace MP
open PySem L2
theorem wipeE_len (s : Env) : ∀ own : List Nat, (wipeE s own).length = s.length
  | [] => rfl
  | i :: is => by
    show ((wipeE s is).set i none).length = _
    rw [List.length_set, wipeE_len s is]
theorem wipeE_out {s : Env} {i : Nat} : ∀ {own : List Nat}, i ∉ own → (wipeE s own)[i]? = s[i]?
  | [], _ => rfl
  | j :: is, h => by
    rw [List.mem_cons, not_or] at h
    show ((wipeE s is).set j none)[i]? = _
    rw [List.getElem?_set_ne (Ne.symm h.1), wipeE_out h.2]
theorem wipeE_in {s : Env} {i : Nat} : ∀ {own : List Nat}, i ∈ own → i < s.length → (wipeE s own)[i]? = some none
  | j :: is, h, hl => by
    show ((wipeE s is).set j none)[i]? = _
    by_cases z : i = j
    · subst z
      exact List.getElem?_set_self (by rw [wipeE_len]; exact hl)
    · rw [List.getElem?_set_ne (Ne.symm z)]
      exact wipeE_in ((List.mem_cons.mp h).resolve_left z) hl
theorem wipe_in {σ : L2.St} {i : Nat} : ∀ {own : List Nat}, i ∈ own → i < σ.length → (wipe σ own)[i]? = some none
  | j :: is, h, hl => by
    show ((wipe σ is).set j none)[i]? = _
    by_cases z : i = j
    · subst z
      exact List.getElem?_set_self (by rw [wipe_length]; exact hl)
    · rw [List.getElem?_set_ne (Ne.symm z)]
      exact wipe_in ((List.mem_cons.mp h).resolve_left z) hl
theorem restE_len (s0 s : Env) : ∀ own : List Nat, (restE s0 s own).length = s.length
  | [] => rfl
  | i :: is => by
    show ((restE s0 s is).set i _).length = _
    rw [List.length_set, restE_len s0 s is]
theorem restE_out {s0 s : Env} {i : Nat} : ∀ {own : List Nat}, i ∉ own → (restE s0 s own)[i]? = s[i]?
  | [], _ => rfl
  | j :: is, h => by
    rw [List.mem_cons, not_or] at h
    show ((restE s0 s is).set j _)[i]? = _
    rw [List.getElem?_set_ne (Ne.symm h.1), restE_out h.2]
theorem restE_in {s0 s : Env} {i : Nat} : ∀ {own : List Nat}, i ∈ own → i < s.length → (restE s0 s own)[i]? = some (s0[i]?.join)
  | j :: is, h, hl => by
    show ((restE s0 s is).set j _)[i]? = _
    by_cases z : i = j
    · subst z
      exact List.getElem?_set_self (by rw [restE_len]; exact hl)
    · rw [List.getElem?_set_ne (Ne.symm z)]
      exact restE_in ((List.mem_cons.mp h).resolve_left z) hl
section
variable {M : Pm} {G : Gh} {W : WX} {F F' : Hp} {σ : L2.St} {Q Q' : VK} {X : Cx} {e a b c : Expr} {ca cb cc : E} {pos : Pos} {es : List Expr} {ces : List E}
theorem StA.wipe {K : PySem.W.Frag} {as : Nat → List Addr} {s : Env} {H : Hp} : ∀ {own : List Nat}, StA K G as F s σ H → (∀ i ∈ own, freeAt s i) →
    ∃ asw, StA K G asw F (wipeE s own) (L2.wipe σ own) H ∧ ∀ i p, p ∈ asw i → p ∈ as i
  | [], S, _ => ⟨as, S, fun _ _ h => h⟩
  | i :: is, S, hf => by
    obtain ⟨asw, S1, h1⟩ := StA.wipe S fun j hj => hf j (List.mem_cons_of_mem _ hj)
    have hi : freeAt (wipeE s is) i := by
      by_cases z : i ∈ is
      · exact .inl (wipeE_in z (hf i (by simp)).lt)
      · have := hf i (by simp)
        unfold freeAt at this ⊢
        rw [wipeE_out z]
        exact this
    refine ⟨_, S1.drop hi, fun j p hp => ?_⟩
    split at hp
    · cases hp
    · exact h1 j p hp
theorem StA.rest {K : PySem.W.Frag} {as : Nat → List Addr} {s2 s3 : Env} {H : Hp} {own : List Nat} (S : StA K G as F s3 (L2.wipe σ own) H) (h3 : ∀ i ∈ own, s3[i]? = some none)
    (h2 : ∀ i ∈ own, s2[i]? = some none ∨ ∃ d v, s2[i]? = some (some (.fr, .val d)) ∧ σ[i]? = some (some v) ∧ Rp K F v d) : StA K G as F (restE s2 s3 own) σ H := by
  have hl : s3.length = σ.length := by rw [S.len, wipe_length]
  have emp : ∀ i ∈ own, as i = [] := fun i hi => S.emp i fun m c q => by rw [h3 i hi] at q; cases q
  have get : ∀ (i : Nat) (m : Mode) (c : Cell), (restE s2 s3 own)[i]? = some (some (m, c)) → (i ∈ own ∧ m = .fr ∧ ∃ d v, c = .val d ∧ σ[i]? = some (some v) ∧ Rp K F v d) ∨ (i ∉ own ∧ s3[i]? = some (some (m, c))) := fun i m c q => by
    by_cases z : i ∈ own
    · have hi : i < s3.length := (List.getElem?_eq_some_iff.mp (h3 i z)).1
      rw [restE_in z hi] at q
      rcases h2 i z with h | ⟨d, v, h, h', r⟩
      · rw [h] at q; cases q
      · rw [h] at q
        cases q
        exact .inl ⟨z, rfl, d, v, rfl, h', r⟩
    · rw [restE_out z] at q
      exact .inr ⟨z, q⟩
  exact {
    len := by rw [restE_len, hl]
    cell := fun i m c q => by
      rcases get i m c q with ⟨z, rfl, d, v, rfl, h', r⟩ | ⟨z, q⟩
      · exact ⟨v, h', by rw [emp i z]; exact .val r⟩
      · obtain ⟨v, h1, h2⟩ := S.cell i m c q
        rw [wipe_out z] at h1
        exact ⟨v, h1, h2⟩
    emp := fun i q => by
      by_cases z : i ∈ own
      · exact emp i z
      · refine S.emp i fun m c y => q m c ?_
        rw [restE_out z]
        exact y
    dis := S.dis
    nd := S.nd
    fr := S.fr
    md := fun i m c p q hp => by
      rcases get i m c q with ⟨z, _⟩ | ⟨z, q⟩
      · rw [emp i z] at hp; cases hp
      · exact S.md i m c p q hp
    same := S.same
    f0 := S.f0
    fnew := S.fnew
    fra := S.fra
    dom := S.dom
    pin := fun i m c q hm => by
      rcases get i m c q with ⟨z, y, _⟩ | ⟨z, q⟩
      · exact absurd y hm
      · have := S.pin i m c q hm
        rw [wipe_out z] at this
        exact this }
theorem plainE_at {s : Env} {own : List Nat} (h : plainE s own = true) : ∀ i ∈ own, s[i]? = some none ∨ ∃ d, s[i]? = some (some (.fr, .val d)) := fun i hi => by
  have := List.all_eq_true.mp h i hi
  split at this
  · rename_i d q
    exact .inr ⟨d, q⟩
  · rename_i q
    exact .inl q
  · cases this
abbrev W0 : WX := fun _ _ _ _ => False
/-- the test of a comprehension -/
inductive Cnd (M : Pm) : Option E → TT → Prop
  | no : Cnd M none tYes
  | yes (cc : E) : Cnd M (some cc) (tT M W0 cc)
theorem R.bind_ok {A B : Type} {r : R A} {f : A → Env → R B} {b : B} {s : Env} (h : r.bind f = .ok b s) : ∃ a s', r = .ok a s' ∧ f a s' = .ok b s := by
  cases r with
  | ok a s' => exact ⟨a, s', rfl, h⟩
  | ex x p s' => cases h
  | stk => cases h
/-- the body of a comprehension -/
def compBody (Γ : Cfg) (elt : E) (cnd : Option E) (own : List Nat) (se : Env) : R (Option D) := match cnd with
  | none => (ev Γ false elt se).bind fun r s' => keepR s' r own
  | some c => (ev Γ true c se).bind fun rc sc => match boolR rc with
    | some true => (ev Γ false elt sc).bind fun r s' => keepR s' r own
    | some false => if freeI sc own = true then .ok none (wipeE sc own) else .stk
    | none => .stk
theorem comp_coreP {k : IK} {src : List E} {t : Tg} {own : List Nat} {celt : E} {cnd : Option E} {wi : TI} {tt : TT} {as : Nat → List Addr} {s : Env} {H : Hp} (hown : ∀ i ∈ t.slots, i ∈ own) (htt : Cnd M cnd tt)
    (hwi : ∀ Rr, PostI M G W F σ k (evr M.Γ src s) Rr → wi σ H Rr)
    (S : StA M.K G as F s σ H) (h : Post M G W F σ (ev M.Γ false (.comp celt t k src cnd own) s) Q) : tLc wi (tgT t) tt (tE M W0 celt) own σ H Q := by
  refine hwi _ ?_
  have h : Post M G W F σ ((evr M.Γ src s).bind fun rs s1 => match (lookAll s1 rs).bind (itF k) with
    | none => .stk
    | some items => match srcE k s1 rs with
      | none => .stk
      | some s2 => if plainE s2 own = false ∨ big < items.length then .stk else match compLoop (compBody M.Γ celt cnd own) t items [] (wipeE s2 own) with
        | .ok acc s3 => .ok (.tmp (.lst acc)) (restE s2 s3 own)
        | _ => .stk) Q := by
    simp only [ev, fin_false] at h
    exact h
  cases e1 : evr M.Γ src s with
  | stk => rw [e1] at h; exact h
  | ex x p s' => rw [e1] at h; exact h
  | ok rs s1 =>
    rw [e1] at h
    simp only [R.bind] at h
    simp only [PostI]
    cases e2 : (lookAll s1 rs).bind (itF k) with
    | none => rw [e2] at h; exact h.elim
    | some items =>
      rw [e2] at h
      simp only at h
      cases e3 : srcE k s1 rs with
      | none => rw [e3] at h; exact h.elim
      | some s2 =>
        rw [e3] at h
        simp only at h
        intro as1 F1 H1 J sf1 S1 wd Dn hD
        split at h
        · exact h.elim
        rename_i hpl
        have pl : plainE s2 own = true := by
          cases q : plainE s2 own with
          | true => rfl
          | false => exact absurd (.inl q) hpl
        have hn : items.length ≤ sizeLine := by
          rw [← big_eq]
          exact Nat.le_of_not_lt fun z => hpl (.inr z)
        have pl2 := plainE_at pl
        obtain ⟨asw, Sw, hsw⟩ := S1.wipe (own := own) fun i hi => by
          rcases pl2 i hi with q | ⟨d, q⟩
          · exact .inl q
          · exact .inr ⟨_, q⟩
        cases e4 : compLoop (compBody M.Γ celt cnd own) t items [] (wipeE s2 own) with
        | stk => rw [e4] at h; exact h.elim
        | ex x p s' => rw [e4] at h; exact h.elim
        | ok acc s3 =>
          rw [e4] at h
          have h : Post M G W F σ (.ok (.tmp (.lst acc)) (restE s2 s3 own)) Q := h
          obtain ⟨st, hst, wk⟩ := wd
          have AD : Alien G asw F1 Dn := ⟨S1.same.free hD, by
            cases q : G.H0 Dn with
            | none => rfl
            | some o => exact absurd hD (S1.dom Dn (by rw [q]; simp)), fun i hi => S1.there (hsw i _ hi) hD⟩
          have SE := Sw.enter (.refl _) Sw.same
          have lenW : ∀ i ∈ own, i < s2.length := fun i hi => by
            rcases pl2 i hi with q | ⟨d, q⟩ <;> exact (List.getElem?_eq_some_iff.mp q).1
          refine lc_it wk (fun i H => ∃ (asi : Nat → List Addr) (Fi : Hp) (si : Env) (accV : List V) (accD : List D), StA M.K (G.reg F1 H1 (wipeE s2 own) asw) asi Fi si (L2.wipe σ own) H ∧ H Dn = some (.lst accV) ∧ RpA M.K Fi accV accD ∧
              Alien (G.reg F1 H1 (wipeE s2 own) asw) asi Fi Dn ∧ Same F1 Fi ∧ (∀ j ∈ own, si[j]? = some none) ∧ compLoop (compBody M.Γ celt cnd own) t (items.drop i) accD si = .ok acc s3 ∧ accV.length ≤ i) ?_ ?_ ?_ ?_
          · exact ⟨asw, F1, _, [], [], SE.other ⟨AD.f, hD, AD.a⟩, upd_same, .nil, ⟨AD.f, hD, AD.a⟩, .refl _, fun j hj => wipeE_in hj (lenW j hj), e4, Nat.le_refl _⟩
          · rintro i H2 _ ⟨asi, Fi, si, accV, accD, Si, _, _, _, sfi, _, _, _⟩
            refine hst H2 (sfi.trans Si.same) fun i' m' c' q o e' hm' hj' hq => Si.fra q o (fun z => ?_) hq
            obtain ⟨j, m, c, e, hm, hj⟩ := mem_ownAt.mp z
            have : s2[j]? = some (some (m, c)) := by
              by_cases y : j ∈ own
              · rw [wipeE_in y (lenW j y)] at e; cases e
              · rw [wipeE_out y] at e; exact e
            have ej : j = i' := S1.dis j i' q (hsw j q hj) hj'
            subst ej
            rw [this] at e'
            cases e'
            rw [hm] at hm'
            cases hm'
          · rintro i x H2 H3 hi ⟨asi, Fi, si, accV, accD, Si, hDi, ri, ADi, sfi, emi, li, ni⟩ ⟨rfl, d, hd, rx⟩
            have ed : items.drop i = d :: items.drop (i + 1) := by
              rw [List.drop_eq_getElem_cons hi]
              congr 1
              rw [List.getElem?_eq_getElem hi] at hd
              exact Option.some.inj hd
            rw [ed] at li
            unfold compLoop at li
            split at li
            · cases li
            rename_i s1' eb
            obtain ⟨o, s2', eo, li⟩ := R.bind_ok li
            have SI := Si.enter (.refl _) Si.same
            refine bindT_ok SI (fun j hj => .inl (emi j (hown j hj))) (rx.mono sfi) eb fun as' σ2 S2 hsub hout => ?_
            have hw : L2.wipe σ2 own = L2.wipe σ own := by
              have hl2 : σ2.length = σ.length := by
                rw [← S2.len, bindT_len eb, Si.len, wipe_length]
              apply List.ext_getElem?
              intro j
              by_cases z : j ∈ own
              · by_cases y : j < σ.length
                · rw [wipe_in z y, wipe_in z (by rw [hl2]; exact y)]
                · rw [List.getElem?_eq_none (by rw [wipe_length]; omega), List.getElem?_eq_none (by rw [wipe_length]; omega)]
              · rw [wipe_out z, hout j (fun y => z (hown j y))]
            refine ⟨hw, ?_⟩
            -- behind the slots of the names emptied: the next turn
            have nxt : ∀ {sb : Env} {asb : Nat → List Addr} {Fb Hb : Hp}, StA M.K ((G.reg F1 H1 (wipeE s2 own) asw).reg Fi H3 si asi) asb Fb sb σ2 Hb → freeI sb own = true →
                ∃ asc, StA M.K (G.reg F1 H1 (wipeE s2 own) asw) asc Fb (wipeE sb own) (L2.wipe σ own) Hb ∧ Hb Dn = some (.lst accV) ∧ Alien (G.reg F1 H1 (wipeE s2 own) asw) asc Fb Dn ∧ Same Fi Fb ∧ ∀ j ∈ own, (wipeE sb own)[j]? = some none := by
              intro sb asb Fb Hb Sb hf
              obtain ⟨asc, Sc, _⟩ := Sb.wipe (freeI_at hf)
              rw [hw] at Sc
              obtain ⟨A2, h2⟩ := Sc.alien ADi hDi
              exact ⟨asc, Si.leave (.refl _) Sc, h2, ⟨A2.f, ADi.o, A2.a⟩, Sc.f0, fun j hj => wipeE_in hj (freeI_at hf j hj).lt⟩
            have el : ∀ {sb : Env} {asb : Nat → List Addr} {Fb Hb : Hp}, StA M.K ((G.reg F1 H1 (wipeE s2 own) asw).reg Fi H3 si asi) asb Fb sb σ2 Hb → ((ev M.Γ false celt sb).bind fun r s' => keepR s' r own) = .ok o s2' →
                tE M W0 celt σ2 Hb fun y H4 => ∃ acc', H4 Dn = some (.lst acc') ∧ acc'.length < sizeLine ∧ ∃ (asi : Nat → List Addr) (Fi : Hp) (si : Env) (accV : List V) (accD : List D), StA M.K (G.reg F1 H1 (wipeE s2 own) asw) asi Fi si (L2.wipe σ own) (upd H4 Dn (.lst (acc' ++ [y]))) ∧ (upd H4 Dn (.lst (acc' ++ [y]))) Dn = some (.lst accV) ∧ RpA M.K Fi accV accD ∧
                  Alien (G.reg F1 H1 (wipeE s2 own) asw) asi Fi Dn ∧ Same F1 Fi ∧ (∀ j ∈ own, si[j]? = some none) ∧ compLoop (compBody M.Γ celt cnd own) t (items.drop (i + 1)) accD si = .ok acc s3 ∧ accV.length ≤ i + 1 := by
              intro sb asb Fb Hb Sb eo'
              obtain ⟨r, s5, e5, e6⟩ := R.bind_ok eo'
              refine ⟨_, asb, Fb, sb, Sb, ?_⟩
              rw [e5]
              intro as5 F5 H5 y aT sf5 S5 R5
              unfold keepR at e6
              split at e6
              · rename_i dd s6 e7
                split at e6
                · rename_i hf
                  cases e6
                  obtain ⟨as6, F6, sf6, S6, rp⟩ := frz_ok S5 R5 e7
                  obtain ⟨asc, Sc, h2, A2, sf7, emc⟩ := nxt S6 hf
                  refine ⟨accV, h2, by omega, asc, F6, _, accV ++ [y], accD ++ [dd], Sc.other A2, upd_same, (ri.mono sf7).append (.cons rp .nil), A2, sfi.trans sf7, emc, li, ?_⟩
                  rw [List.length_append, List.length_singleton]
                  omega
                · cases e6
              · cases e6
            cases htt with
            | no => exact el S2 eo
            | yes cc =>
              obtain ⟨rc, sc, e5, e6⟩ := R.bind_ok (show ((ev M.Γ true cc s1').bind fun rc sc => match boolR rc with
                | some true => (ev M.Γ false celt sc).bind fun r s' => keepR s' r own
                | some false => if freeI sc own = true then .ok none (wipeE sc own) else .stk
                | none => .stk) = .ok o s2' from eo)
              refine ⟨_, as', Fi, s1', S2, ?_⟩
              rw [e5]
              intro as5 F5 H5 v aT sf5 S5 R5
              cases eb5 : boolR rc with
              | none => rw [eb5] at e6; cases e6
              | some k =>
                rw [eb5] at e6
                refine ⟨k, (boolR_rel R5 eb5).1, ?_⟩
                cases k with
                | true =>
                  rw [if_pos rfl]
                  exact el S5 e6
                | false =>
                  rw [if_neg Bool.false_ne_true]
                  simp only at e6
                  split at e6
                  · rename_i hf
                    cases e6
                    obtain ⟨asc, Sc, h2, A2, sf7, emc⟩ := nxt S5 hf
                    exact ⟨asc, F5, _, accV, accD, Sc, h2, ri.mono sf7, A2, sfi.trans sf7, emc, li, by omega⟩
                  · cases e6
          · rintro H2 ⟨asi, Fi, si, accV, accD, Si, hDi, ri, ADi, sfi, emi, li, ni⟩
            rw [List.drop_length] at li
            unfold compLoop at li
            cases li
            have SL := Sw.leave (.refl _) Si
            have SR := SL.rest (s2 := s2) emi fun i hi => by
              rcases pl2 i hi with q | ⟨d, q⟩
              · exact .inl q
              · obtain ⟨v, h1, h2⟩ := S1.cell _ _ _ q
                generalize as1 i = l at h2
                cases h2 with
                | val r => exact .inr ⟨d, v, q, h1, r.mono sfi⟩
            refine h asi Fi H2 _ [Dn] (sf1.trans sfi) SR ⟨.lst hDi ri, by simp, fun p hp => ?_, fun i p hi hp => ?_⟩
            · have e : p = Dn := by simpa using hp
              subst e
              exact ⟨ADi.f, AD.o⟩
            · have e : p = Dn := by simpa using hp
              subst e
              exact ADi.a i hi
theorem comp_core {k : IK} {src : List E} {t : Tg} {own : List Nat} {celt : E} {cnd : Option E} {wi : TI} {tt : TT} {as : Nat → List Addr} {s : Env} {H : Hp} (hown : ∀ i ∈ t.slots, i ∈ own) (htt : Cnd M cnd tt)
    (hwi : ∀ Rr, (∃ G as F s, StA M.K G as F s σ H ∧ PostI M G W F σ k (evr M.Γ src s) Rr) → wi σ H Rr)
    (S : StA M.K G as F s σ H) (h : Post M G W F σ (ev M.Γ false (.comp celt t k src cnd own) s) Q) : tLc wi (tgT t) tt (tE M W0 celt) own σ H Q := 
  comp_coreP hown htt (fun Rr q => hwi Rr ⟨G, as, F, s, S, q⟩) S h
/-- [elt for tg in iter], [elt for tg in iter if c] as a value -/
theorem ev_comp {elt tg iter : Expr} {ifs : List Expr} {scope : Scope} {own : List (Str × Nat)} {k : IK} {src : List E} {t : Tg} {celt : E} {cnd : Option E} {tt : TT} (hc : X.calm = true) (hN : X.N.Nodup) (ok : BlkOk X.N X.env.scope scope own)
    (hi : IV M X tg iter k src) (hg : ∀ s H C cl fp, PG (X.blk s H scope (compEnvC scope cl C X.env) fp) tg (tgT t)) (ht : ∀ s H C cl fp, PTs (X.blk s H scope (compEnvC scope cl C X.env) fp) ifs tt) (htt : Cnd M cnd tt)
    (he : ∀ s H C cl fp, EV M (X.blk s H scope (compEnvC scope cl C X.env) fp) elt celt) (hown : ∀ i ∈ t.slots, i ∈ own.map (·.2)) (hf : ∀ x, foldedSetIterable iter X.env x = pure x := by intro _; rfl) :
    EV M X (.ListComp elt [⟨tg, iter, ifs, 0⟩] scope pos) (.comp celt t k src cnd (own.map (·.2))) :=
  ⟨fun W tk => PE.imp (pe_lc hc hN (hi.run W tk) ok hg ht (fun s H C cl fp => (he s H C cl fp).run W0 takesN0) hf) fun σ H Q ⟨G, as, F, s, S, h⟩ => comp_core hown htt (fun _ q => q) S h⟩
theorem ts_no : PTs X [] tYes := pts_nil
theorem ts_yes (h : TV M X c cc) : PTs X [c] (tT M W0 cc) := pts_one (h.run W0 takesN0)
end
end MP

set_option linter.all false
set_option maxRecDepth 100000
set_option maxHeartbeats 2000000
/-! MP: list comprehensions with two for. -/
namespace MP
open PySem L2
/-- the heap without p -/
def cutH (H : Hp) (p : Addr) : Hp := fun b => if b = p then none else H b
theorem cutH_ne {H : Hp} {p b : Addr} (h : b ≠ p) : cutH H p b = H b := if_neg h
theorem cutH_same {H : Hp} {p : Addr} : cutH H p p = none := if_pos rfl
theorem cutH_back {H : Hp} {p : Addr} {o : HO} (h : H p = some o) : upd (cutH H p) p o = H := by
  funext b
  by_cases z : b = p
  · rw [z, upd_same, h]
  · rw [upd_ne z, cutH_ne z]
section
variable {K : PySem.W.Frag} {G : Gh} {F : Hp} {σ : L2.St} {as : Nat → List Addr} {s : Env} {H : Hp}
theorem StA.cut (S : StA K G as F s σ H) {p : Addr} (A : Alien G as F p) : StA K G as F s σ (cutH H p) where
  len := S.len
  cell := fun i m c e => by
    obtain ⟨v, h1, h2⟩ := S.cell i m c e
    refine ⟨v, h1, h2.mono (.refl _) fun q hq o' e' => ?_⟩
    rw [cutH_ne fun z : q = p => A.a i (by rw [← z]; exact hq)]
    exact e'
  emp := S.emp
  dis := S.dis
  nd := S.nd
  fr := S.fr
  md := S.md
  same := fun q o' e => by
    rw [cutH_ne fun z => by rw [z, A.f] at e; cases e]
    exact S.same q o' e
  f0 := S.f0
  fnew := fun q hq => by
    rw [cutH_ne fun z => hq (by rw [z]; exact A.f)]
    exact S.fnew q hq
  fra := fun q o' hq e => by
    rw [cutH_ne fun z => by rw [z, A.o] at e; cases e]
    exact S.fra q o' hq e
  dom := fun q h => by
    rw [cutH_ne fun z => h (by rw [z, A.o])]
    exact S.dom q h
  pin := S.pin
end
theorem wipeE_id {s : Env} : ∀ {own : List Nat}, (∀ j ∈ own, s[j]? = some none) → wipeE s own = s := fun {own} h => by
  apply List.ext_getElem?
  intro j
  by_cases z : j ∈ own
  · rw [wipeE_in z (List.getElem?_eq_some_iff.mp (h j z)).1, h j z]
  · rw [wipeE_out z]
theorem emptyI_at {s : Env} {own : List Nat} (h : emptyI s own = true) : ∀ j ∈ own, s[j]? = some none := fun j hj => by
  have := List.all_eq_true.mp h j hj
  split at this
  · assumption
  · cases this
/-- a walk's turns, whatever a turn does -/
theorem walk_it {J : It} {n : Nat} {GG : Hp → Prop} {Y : Nat → Hp → V → Hp → Prop} (w : Walk J n GG Y) {H0 : Hp} {Qd : Hp → Prop} (Pv : Nat → Hp → Prop) (step : (Hp → Prop) → V → Hp → Prop) (h0 : Pv 0 H0) (hG : ∀ i H, i ≤ n → Pv i H → GG H)
    (hs : ∀ i x H H', i < n → Pv i H → Y i H x H' → step (Pv (i + 1)) x H') (hd : ∀ H, Pv n H → Qd H) :
    ∃ W1 : Nat → Nat → Hp → Prop, (∃ m, W1 0 m H0) ∧ ∀ i m H, W1 i m H → (J.stop i H ∧ Qd H) ∨ (J.go i H ∧ ∃ Nx : Hp → Prop, (∀ H', Nx H' → ∃ m', m' < m ∧ W1 (i + 1) m' H') ∧ ∀ x H', J.yld i H x H' → step Nx x H') := by
  refine ⟨fun i m H => m = n - i ∧ i ≤ n ∧ Pv i H, ⟨n - 0, rfl, Nat.zero_le _, h0⟩, fun i m H ⟨em, hi, p⟩ => ?_⟩
  subst em
  have gg := hG i H hi p
  rcases Nat.lt_or_ge i n with hl | hl
  · exact .inr ⟨w.goes i H hl gg, Pv (i + 1), fun H' q => ⟨n - (i + 1), by omega, rfl, hl, q⟩, fun x H' y => hs i x H H' hl p (w.yields i H x H' hl gg y)⟩
  · obtain rfl : i = n := by omega
    exact .inl ⟨w.stops H gg, hd H p⟩
section
variable {M : Pm} {G : Gh} {W : WX} {F F' : Hp} {σ : L2.St} {Q Q' : VK} {X : Cx} {e a b c : Expr} {ca cb cc : E} {pos : Pos} {es : List Expr} {ces : List E}
theorem drop_at {A : Type} {items : List A} {i : Nat} {d : A} (hi : i < items.length) (hd : items[i]? = some d) : items.drop i = d :: items.drop (i + 1) := by
  rw [List.drop_eq_getElem_cons hi]
  rw [List.getElem?_eq_getElem hi] at hd
  rw [Option.some.inj hd]
/-- one turn of the inner loop -/
theorem turn_in {own : List Nat} {t : Tg} {celt : E} {cnd : Option E} {tt : TT} {as : Nat → List Addr} {s : Env} {H : Hp} {D : Addr} {accV : List V} {accD acc : List MP.D} {d : MP.D} {ds : List MP.D} {x : V} {s3 : Env} {Nx : Hp → Prop} (hown : ∀ i ∈ t.slots, i ∈ own) (htt : Cnd M cnd tt)
    (S : StA M.K G as F s (L2.wipe σ own) H) (hD : H D = some (.lst accV)) (ri : RpA M.K F accV accD) (AD : Alien G as F D) (em : ∀ j ∈ own, s[j]? = some none) (lim : accV.length < sizeLine) (li : compLoop (compBody M.Γ celt cnd own) t (d :: ds) accD s = .ok acc s3) (rx : Rp M.K F x d)
    (nx : ∀ as' F' s' accV' accD' H', StA M.K G as' F' s' (L2.wipe σ own) H' → H' D = some (.lst accV') → RpA M.K F' accV' accD' → Alien G as' F' D → Same F F' → (∀ j ∈ own, s'[j]? = some none) → compLoop (compBody M.Γ celt cnd own) t ds accD' s' = .ok acc s3 → accV'.length ≤ accV.length + 1 → Nx H') :
    tgT t x (L2.wipe σ own) H fun σ2 H2 => L2.wipe σ2 own = L2.wipe σ own ∧ tt σ2 H2 fun b H3 => if b = true then tE M W0 celt σ2 H3 fun y H4 => ∃ acc', H4 D = some (.lst acc') ∧ acc'.length < sizeLine ∧ Nx (upd H4 D (.lst (acc' ++ [y]))) else Nx H3 := by
  unfold compLoop at li
  split at li
  · cases li
  rename_i s1' eb
  obtain ⟨o, s2', eo, li⟩ := R.bind_ok li
  have SI := S.enter (.refl _) S.same
  refine bindT_ok SI (fun j hj => .inl (em j (hown j hj))) rx eb fun as' σ2 S2 hsub hout => ?_
  have hl2 : σ2.length = (L2.wipe σ own).length := by rw [← S2.len, bindT_len eb, S.len]
  have hw : L2.wipe σ2 own = L2.wipe σ own := by
    apply List.ext_getElem?
    intro j
    by_cases z : j ∈ own
    · by_cases y : j < σ.length
      · rw [wipe_in z y, wipe_in z (by rw [hl2, wipe_length]; exact y)]
      · rw [List.getElem?_eq_none (by rw [wipe_length, hl2, wipe_length]; omega), List.getElem?_eq_none (by rw [wipe_length]; omega)]
    · rw [wipe_out z, hout j fun y => z (hown j y)]
  refine ⟨hw, ?_⟩
  have back : ∀ {sb : Env} {asb : Nat → List Addr} {Fb Hb : Hp}, StA M.K (G.reg F H s as) asb Fb sb σ2 Hb → freeI sb own = true →
      ∃ asc, StA M.K G asc Fb (wipeE sb own) (L2.wipe σ own) Hb ∧ Hb D = some (.lst accV) ∧ Alien G asc Fb D ∧ Same F Fb ∧ ∀ j ∈ own, (wipeE sb own)[j]? = some none := by
    intro sb asb Fb Hb Sb hf
    obtain ⟨asc, Sc, _⟩ := Sb.wipe (freeI_at hf)
    rw [hw] at Sc
    obtain ⟨A2, h2⟩ := Sc.alien AD hD
    exact ⟨asc, S.leave (.refl _) Sc, h2, ⟨A2.f, AD.o, A2.a⟩, Sc.f0, fun j hj => wipeE_in hj (freeI_at hf j hj).lt⟩
  have el : ∀ {sb : Env} {asb : Nat → List Addr} {Fb Hb : Hp}, StA M.K (G.reg F H s as) asb Fb sb σ2 Hb → ((ev M.Γ false celt sb).bind fun r s' => keepR s' r own) = .ok o s2' →
      tE M W0 celt σ2 Hb fun y H4 => ∃ acc', H4 D = some (.lst acc') ∧ acc'.length < sizeLine ∧ Nx (upd H4 D (.lst (acc' ++ [y]))) := by
    intro sb asb Fb Hb Sb eo'
    obtain ⟨r, s5, e5, e6⟩ := R.bind_ok eo'
    refine ⟨_, asb, Fb, sb, Sb, ?_⟩
    rw [e5]
    intro as5 F5 H5 y aT sf5 S5 R5
    unfold keepR at e6
    split at e6
    · rename_i dd s6 e7
      split at e6
      · rename_i hf
        cases e6
        obtain ⟨as6, F6, sf6, S6, rp⟩ := frz_ok S5 R5 e7
        obtain ⟨asc, Sc, h2, A2, sf7, emc⟩ := back S6 hf
        exact ⟨accV, h2, lim, nx asc F6 _ (accV ++ [y]) (accD ++ [dd]) _ (Sc.other A2) upd_same ((ri.mono sf7).append (.cons rp .nil)) A2 sf7 emc li (by rw [List.length_append, List.length_singleton] <;> omega)⟩
      · cases e6
    · cases e6
  cases htt with
  | no => exact el S2 eo
  | yes cc =>
    obtain ⟨rc, sc, e5, e6⟩ := R.bind_ok (show ((ev M.Γ true cc s1').bind fun rc sc => match boolR rc with
      | some true => (ev M.Γ false celt sc).bind fun r s' => keepR s' r own
      | some false => if freeI sc own = true then .ok none (wipeE sc own) else .stk
      | none => .stk) = .ok o s2' from eo)
    refine ⟨_, as', F, s1', S2, ?_⟩
    rw [e5]
    intro as5 F5 H5 v aT sf5 S5 R5
    cases eb5 : boolR rc with
    | none => rw [eb5] at e6; cases e6
    | some k =>
      rw [eb5] at e6
      refine ⟨k, (boolR_rel R5 eb5).1, ?_⟩
      cases k with
      | true =>
        rw [if_pos rfl]
        exact el S5 e6
      | false =>
        rw [if_neg Bool.false_ne_true]
        simp only at e6
        split at e6
        · rename_i hf
          cases e6
          obtain ⟨asc, Sc, h2, A2, sf7, emc⟩ := back S5 hf
          exact nx asc F5 _ accV accD _ Sc h2 (ri.mono sf7) A2 sf7 emc li (by omega)
        · cases e6
/-- the inner loop -/
theorem in_core {items : List MP.D} {J : It} {own : List Nat} {t : Tg} {celt : E} {cnd : Option E} {tt : TT} {as : Nat → List Addr} {s : Env} {H : Hp} {D : Addr} {accV : List V} {accD acc : List MP.D} {s3 : Env} {Nx : Hp → Prop} (hown : ∀ i ∈ t.slots, i ∈ own) (htt : Cnd M cnd tt)
    (wd : WalkD M.K F H s as J items) (S : StA M.K G as F s σ H) (em : ∀ j ∈ own, s[j]? = some none) (hD : H D = some (.lst accV)) (ri : RpA M.K F accV accD) (AD : Alien G as F D) (lim : accV.length + items.length ≤ sizeLine)
    (li : compLoop (compBody M.Γ celt cnd own) t items accD s = .ok acc s3)
    (fin : ∀ as' F' accV' H', StA M.K G as' F' s3 (L2.wipe σ own) H' → H' D = some (.lst accV') → RpA M.K F' accV' acc → Alien G as' F' D → Same F F' → accV'.length ≤ accV.length + items.length → Nx H') :
    ∃ W1 : Nat → Nat → Hp → Prop, (∃ m, W1 0 m H) ∧ ∀ i m H, W1 i m H → (J.stop i H ∧ Nx H) ∨ (J.go i H ∧ ∃ Nx1 : Hp → Prop, (∀ H', Nx1 H' → ∃ m', m' < m ∧ W1 (i + 1) m' H') ∧ ∀ x H', J.yld i H x H' →
      tgT t x (L2.wipe σ own) H' fun σ2 H2 => L2.wipe σ2 own = L2.wipe σ own ∧ tt σ2 H2 fun b H3 => if b = true then tE M W0 celt σ2 H3 fun y H4 => ∃ acc', H4 D = some (.lst acc') ∧ acc'.length < sizeLine ∧ Nx1 (upd H4 D (.lst (acc' ++ [y]))) else Nx1 H3) := by
  obtain ⟨st, hst, wk⟩ := wd
  have Sm := S.cut AD
  have SE := Sm.enter (.refl _) Sm.same
  obtain ⟨asw, Sw, hsw⟩ := SE.wipe (own := own) fun i hi => .inl (em i hi)
  rw [wipeE_id em] at Sw
  have AR : Alien (G.reg F (cutH H D) s as) asw F D := ⟨AD.f, cutH_same, fun i hi => AD.a i (hsw i D hi)⟩
  have So := Sw.other (o := .lst accV) AR
  rw [cutH_back hD] at So
  refine walk_it wk (fun i H' => ∃ (asi : Nat → List Addr) (Fi : Hp) (si : Env) (accVi : List V) (accDi : List MP.D), StA M.K (G.reg F (cutH H D) s as) asi Fi si (L2.wipe σ own) H' ∧ H' D = some (.lst accVi) ∧ RpA M.K Fi accVi accDi ∧
      Alien (G.reg F (cutH H D) s as) asi Fi D ∧ Same F Fi ∧ (∀ j ∈ own, si[j]? = some none) ∧ compLoop (compBody M.Γ celt cnd own) t (items.drop i) accDi si = .ok acc s3 ∧ accVi.length ≤ accV.length + i)
    (fun Nx1 x H' => tgT t x (L2.wipe σ own) H' fun σ2 H2 => L2.wipe σ2 own = L2.wipe σ own ∧ tt σ2 H2 fun b H3 => if b = true then tE M W0 celt σ2 H3 fun y H4 => ∃ acc', H4 D = some (.lst acc') ∧ acc'.length < sizeLine ∧ Nx1 (upd H4 D (.lst (acc' ++ [y]))) else Nx1 H3) ?_ ?_ ?_ ?_
  · exact ⟨asw, F, s, accV, accD, So, hD, ri, AR, .refl _, em, li, by omega⟩
  · rintro i H2 _ ⟨asi, Fi, si, accVi, accDi, Si, _, _, _, sfi, _, _, _⟩
    refine hst H2 (sfi.trans Si.same) fun i' m' c' q o e' hm' hj' hq => ?_
    have nD : q ≠ D := fun z => AD.a i' (by rw [← z]; exact hj')
    refine Si.fra q o (fun z => ?_) (by show cutH H D q = some o; rw [cutH_ne nD]; exact hq)
    obtain ⟨j, m, c, e, hm, hj⟩ := mem_ownAt.mp z
    have ej : j = i' := S.dis j i' q hj hj'
    subst ej
    rw [e] at e'
    cases e'
    rw [hm] at hm'
    cases hm'
  · rintro i x H2 H3 hi ⟨asi, Fi, si, accVi, accDi, Si, hDi, rii, ADi, sfi, emi, lii, ni⟩ ⟨rfl, d, hd, rx⟩
    rw [drop_at hi hd] at lii
    exact turn_in hown htt Si hDi rii ADi emi (by omega) lii (rx.mono sfi) fun as' F' s' accV' accD' H' h1 h2 h3 h4 h5 h6 h7 h8 => ⟨as', F', s', accV', accD', h1, h2, h3, h4, sfi.trans h5, h6, h7, by omega⟩
  · rintro H2 ⟨asi, Fi, si, accVi, accDi, Si, hDi, rii, ADi, sfi, emi, lii, ni⟩
    rw [List.drop_length] at lii
    unfold compLoop at lii
    cases lii
    exact fin asi Fi accVi H2 (Sm.leave (.refl _) Si) hDi rii ⟨ADi.f, AD.o, ADi.a⟩ sfi ni
/-- the body of the outer loop -/
def body2 (Γ : Cfg) (elt : E) (t2 : Tg) (k2 : IK) (src2 : List E) (cnd : Option E) (own own2 : List Nat) (acc : List MP.D) (se : Env) : R (List MP.D) := (evr Γ src2 se).bind fun rs2 s3 => match (lookAll s3 rs2).bind (itF k2) with
  | none => .stk
  | some items2 => match srcE k2 s3 rs2 with
    | none => .stk
    | some s4 => if emptyI s4 own2 = false ∨ big < acc.length + items2.length then .stk else (compLoop (compBody Γ elt cnd own2) t2 items2 acc s4).bind fun acc' s5 => if freeI s5 own = true then .ok acc' (wipeE s5 own) else .stk
abbrev tIv (M : Pm) (W : WX) (k : IK) (src : List E) : TI := fun σ H Rr => ∃ G as F s, StA M.K G as F s σ H ∧ PostI M G W F σ k (evr M.Γ src s) Rr
theorem comp2_core {k k2 : IK} {src src2 : List E} {t t2 : Tg} {own own2 : List Nat} {celt : E} {cnd : Option E} {wi : TI} {tt : TT} {as : Nat → List Addr} {s : Env} {H : Hp} (hown : ∀ i ∈ t.slots, i ∈ own) (hown2 : ∀ i ∈ t2.slots, i ∈ own2) (h2own : ∀ i ∈ own2, i ∈ own) (htt : Cnd M cnd tt)
    (hwi : ∀ Rr, (∃ G as F s, StA M.K G as F s σ H ∧ PostI M G W F σ k (evr M.Γ src s) Rr) → wi σ H Rr)
    (S : StA M.K G as F s σ H) (h : Post M G W F σ (ev M.Γ false (.comp2 celt t k src t2 k2 src2 cnd own own2) s) Q) : tLc2 wi (tgT t) tYes (tIv M W0 k2 src2) (tgT t2) tt (tE M W0 celt) own own2 σ H Q := by
  refine hwi _ ⟨G, as, F, s, S, ?_⟩
  have h : Post M G W F σ ((evr M.Γ src s).bind fun rs s1 => match (lookAll s1 rs).bind (itF k) with
    | none => .stk
    | some items => match srcE k s1 rs with
      | none => .stk
      | some s2 => if plainE s2 own = false ∨ big < items.length then .stk else match compLoop2 (body2 M.Γ celt t2 k2 src2 cnd own own2) t items [] (wipeE s2 own) with
        | .ok acc s3 => .ok (.tmp (.lst acc)) (restE s2 s3 own)
        | _ => .stk) Q := by
    simp only [ev, fin_false] at h
    exact h
  cases e1 : evr M.Γ src s with
  | stk => rw [e1] at h; exact h
  | ex x p s' => rw [e1] at h; exact h
  | ok rs s1 =>
    rw [e1] at h
    simp only [R.bind] at h
    simp only [PostI]
    cases e2 : (lookAll s1 rs).bind (itF k) with
    | none => rw [e2] at h; exact h.elim
    | some items =>
      rw [e2] at h
      simp only at h
      cases e3 : srcE k s1 rs with
      | none => rw [e3] at h; exact h.elim
      | some s2 =>
        rw [e3] at h
        simp only at h
        intro as1 F1 H1 J sf1 S1 wd Dn hD
        split at h
        · exact h.elim
        rename_i hpl
        have pl : plainE s2 own = true := by
          cases q : plainE s2 own with
          | true => rfl
          | false => exact absurd (.inl q) hpl
        have pl2 := plainE_at pl
        obtain ⟨asw, Sw, hsw⟩ := S1.wipe (own := own) fun i hi => by
          rcases pl2 i hi with q | ⟨d, q⟩
          · exact .inl q
          · exact .inr ⟨_, q⟩
        cases e4 : compLoop2 (body2 M.Γ celt t2 k2 src2 cnd own own2) t items [] (wipeE s2 own) with
        | stk => rw [e4] at h; exact h.elim
        | ex x p s' => rw [e4] at h; exact h.elim
        | ok acc s3 =>
          rw [e4] at h
          have h : Post M G W F σ (.ok (.tmp (.lst acc)) (restE s2 s3 own)) Q := h
          obtain ⟨st, hst, wk⟩ := wd
          have AD : Alien G asw F1 Dn := ⟨S1.same.free hD, by
            cases q : G.H0 Dn with
            | none => rfl
            | some o => exact absurd hD (S1.dom Dn (by rw [q]; simp)), fun i hi => S1.there (hsw i _ hi) hD⟩
          have SE := Sw.enter (.refl _) Sw.same
          have lenW : ∀ i ∈ own, i < s2.length := fun i hi => by
            rcases pl2 i hi with q | ⟨d, q⟩ <;> exact (List.getElem?_eq_some_iff.mp q).1
          refine walk_it wk (fun i H => ∃ (asi : Nat → List Addr) (Fi : Hp) (si : Env) (accV : List V) (accD : List MP.D), StA M.K (G.reg F1 H1 (wipeE s2 own) asw) asi Fi si (L2.wipe σ own) H ∧ H Dn = some (.lst accV) ∧ RpA M.K Fi accV accD ∧
              Alien (G.reg F1 H1 (wipeE s2 own) asw) asi Fi Dn ∧ Same F1 Fi ∧ (∀ j ∈ own, si[j]? = some none) ∧ compLoop2 (body2 M.Γ celt t2 k2 src2 cnd own own2) t (items.drop i) accD si = .ok acc s3)
            (fun Nx x H' => tgT t x (L2.wipe σ own) H' fun σ2 H2 => L2.wipe σ2 own = L2.wipe σ own ∧ tYes σ2 H2 fun b H3 => if b = true then tIv M W0 k2 src2 σ2 H3 fun J1 H4 => ∃ W1 : Nat → Nat → Hp → Prop, (∃ m, W1 0 m H4) ∧ ∀ j k H, W1 j k H →
              (J1.stop j H ∧ Nx H) ∨ (J1.go j H ∧ ∃ Nx1 : Hp → Prop, (∀ H', Nx1 H' → ∃ k', k' < k ∧ W1 (j + 1) k' H') ∧ ∀ x H', J1.yld j H x H' → tgT t2 x (L2.wipe σ2 own2) H' fun σ3 H5 => L2.wipe σ3 own2 = L2.wipe σ2 own2 ∧ tt σ3 H5 fun b H6 =>
                if b = true then tE M W0 celt σ3 H6 fun y H7 => ∃ acc, H7 Dn = some (.lst acc) ∧ acc.length < sizeLine ∧ Nx1 (upd H7 Dn (.lst (acc ++ [y]))) else Nx1 H6) else Nx H3) ?_ ?_ ?_ ?_
          · exact ⟨asw, F1, _, [], [], SE.other ⟨AD.f, hD, AD.a⟩, upd_same, .nil, ⟨AD.f, hD, AD.a⟩, .refl _, fun j hj => wipeE_in hj (lenW j hj), e4⟩
          · rintro i H2 _ ⟨asi, Fi, si, accV, accD, Si, _, _, _, sfi, _, _⟩
            refine hst H2 (sfi.trans Si.same) fun i' m' c' q o e' hm' hj' hq => Si.fra q o (fun z => ?_) hq
            obtain ⟨j, m, c, e, hm, hj⟩ := mem_ownAt.mp z
            have : s2[j]? = some (some (m, c)) := by
              by_cases y : j ∈ own
              · rw [wipeE_in y (lenW j y)] at e; cases e
              · rw [wipeE_out y] at e; exact e
            have ej : j = i' := S1.dis j i' q (hsw j q hj) hj'
            subst ej
            rw [this] at e'
            cases e'
            rw [hm] at hm'
            cases hm'
          · rintro i x H2 H3 hi ⟨asi, Fi, si, accV, accD, Si, hDi, ri, ADi, sfi, emi, li⟩ ⟨rfl, d, hd, rx⟩
            rw [drop_at hi hd] at li
            unfold compLoop2 at li
            split at li
            · cases li
            rename_i s1' eb
            obtain ⟨acc2, s2', eo, li⟩ := R.bind_ok li
            have SI := Si.enter (.refl _) Si.same
            refine bindT_ok SI (fun j hj => .inl (emi j (hown j hj))) (rx.mono sfi) eb fun as' σ2 S2 hsub hout => ?_
            have hl2 : σ2.length = σ.length := by rw [← S2.len, bindT_len eb, Si.len, wipe_length]
            have hw : L2.wipe σ2 own = L2.wipe σ own := by
              apply List.ext_getElem?
              intro j
              by_cases z : j ∈ own
              · by_cases y : j < σ.length
                · rw [wipe_in z y, wipe_in z (by rw [hl2]; exact y)]
                · rw [List.getElem?_eq_none (by rw [wipe_length]; omega), List.getElem?_eq_none (by rw [wipe_length]; omega)]
              · rw [wipe_out z, hout j fun y => z (hown j y), wipe_out z]
            refine ⟨hw, ?_⟩
            show tIv M W0 k2 src2 σ2 _ _
            refine ⟨_, as', Fi, s1', S2, ?_⟩
            unfold body2 at eo
            obtain ⟨rs2, s3', e5, e6⟩ := R.bind_ok eo
            rw [e5]
            cases e7 : (lookAll s3' rs2).bind (itF k2) with
            | none => rw [e7] at e6; cases e6
            | some items2 =>
              rw [e7] at e6
              simp only at e6
              cases e8 : srcE k2 s3' rs2 with
              | none => rw [e8] at e6; cases e6
              | some s4 =>
                rw [e8] at e6
                simp only at e6
                split at e6
                · cases e6
                rename_i hne
                have em2 : emptyI s4 own2 = true := by
                  cases q : emptyI s4 own2 with
                  | true => rfl
                  | false => exact absurd (.inl q) hne
                have lim2 : accD.length + items2.length ≤ sizeLine := by
                  rw [← big_eq]
                  exact Nat.le_of_not_lt fun z => hne (.inr z)
                obtain ⟨acc3, s5, e9, e10⟩ := R.bind_ok e6
                split at e10
                · rename_i hf5
                  cases e10
                  simp only [PostI, e7, e8]
                  intro as4 F4 H4 J1 sf4 S4 wd4
                  obtain ⟨A4, h4⟩ := S4.alien ADi hDi
                  have S4' := Si.leave (.refl _) S4
                  refine in_core hown2 htt wd4 S4' (emptyI_at em2) h4 (ri.mono S4.f0) ⟨A4.f, ADi.o, A4.a⟩ (by rw [ri.length]; exact lim2) e9 fun as6 F6 accV6 H6 S6 hD6 r6 A6 sf6 _ => ?_
                  obtain ⟨as7, S7, hs7⟩ := S6.wipe (freeI_at hf5)
                  have ww : L2.wipe (L2.wipe σ2 own2) own = L2.wipe σ own := by
                    rw [← hw]
                    apply List.ext_getElem?
                    intro j
                    by_cases z : j ∈ own
                    · by_cases y : j < σ2.length
                      · rw [wipe_in z y, wipe_in z (by rw [wipe_length]; exact y)]
                      · rw [List.getElem?_eq_none (by rw [wipe_length, wipe_length]; omega), List.getElem?_eq_none (by rw [wipe_length]; omega)]
                    · rw [wipe_out z, wipe_out z, wipe_out fun y => z (h2own j y)]
                  rw [ww] at S7
                  exact ⟨as7, F6, _, accV6, _, S7, hD6, r6, ⟨A6.f, A6.o, fun i hi => A6.a i (hs7 i _ hi)⟩, sfi.trans (S4.f0.trans sf6), fun j hj => wipeE_in hj (freeI_at hf5 j hj).lt, li⟩
                · cases e10
          · rintro H2 ⟨asi, Fi, si, accV, accD, Si, hDi, ri, ADi, sfi, emi, li⟩
            rw [List.drop_length] at li
            unfold compLoop2 at li
            cases li
            have SL := Sw.leave (.refl _) Si
            have SR := SL.rest (s2 := s2) emi fun i hi => by
              rcases pl2 i hi with q | ⟨d, q⟩
              · exact .inl q
              · obtain ⟨v, h1, h2⟩ := S1.cell _ _ _ q
                generalize as1 i = l at h2
                cases h2 with
                | val r => exact .inr ⟨d, v, q, h1, r.mono sfi⟩
            refine h asi Fi H2 _ [Dn] (sf1.trans sfi) SR ⟨.lst hDi ri, by simp, fun p hp => ?_, fun i p hi hp => ?_⟩
            · have e : p = Dn := by simpa using hp
              subst e
              exact ⟨ADi.f, AD.o⟩
            · have e : p = Dn := by simpa using hp
              subst e
              exact ADi.a i hi
/-- [elt for tg in iter for tg1 in iter1 if c] as a value -/
theorem ev_comp2 {elt tg iter tg1 iter1 : Expr} {ifs1 : List Expr} {scope : Scope} {own : List (Str × Nat)} {own2 : List Nat} {k k2 : IK} {src src2 : List E} {t t2 : Tg} {celt : E} {cnd : Option E} {tt : TT} (hc : X.calm = true) (hN : X.N.Nodup) (ok : BlkOk X.N X.env.scope scope own)
    (hi : IV M X tg iter k src) (hg : ∀ s H C cl fp, PG (X.blk s H scope (compEnvC scope cl C X.env) fp) tg (tgT t)) (hi1 : ∀ s H C cl fp, IV M (X.blk s H scope (compEnvC scope cl C X.env) fp) tg1 iter1 k2 src2) (hg1 : ∀ s H C cl fp, PG (X.blk s H scope (compEnvC scope cl C X.env) fp) tg1 (tgT t2))
    (ht1 : ∀ s H C cl fp, PTs (X.blk s H scope (compEnvC scope cl C X.env) fp) ifs1 tt) (htt : Cnd M cnd tt) (he : ∀ s H C cl fp, EV M (X.blk s H scope (compEnvC scope cl C X.env) fp) elt celt) (hown : ∀ i ∈ t.slots, i ∈ own.map (·.2)) (hown2 : ∀ i ∈ t2.slots, i ∈ own2) (h2 : ∀ i ∈ own2, i ∈ own.map (·.2))
    (hf : ∀ x, foldedSetIterable iter X.env x = pure x := by intro _; rfl) (hf1 : ∀ env x, foldedSetIterable iter1 env x = pure x := by intro _ _; rfl) :
    EV M X (.ListComp elt [⟨tg, iter, [], 0⟩, ⟨tg1, iter1, ifs1, 0⟩] scope pos) (.comp2 celt t k src t2 k2 src2 cnd (own.map (·.2)) own2) :=
  ⟨fun W tk => PE.imp (pe_lc2 hc hN (hi.run W tk) ok h2 hg (fun _ _ _ _ _ => ts_no) (fun s H C cl fp => (hi1 s H C cl fp).run W0 takesN0) hg1 ht1 (fun s H C cl fp => (he s H C cl fp).run W0 takesN0) hf hf1) fun σ H Q ⟨G, as, F, s, S, h⟩ => comp2_core hown hown2 h2 htt (fun _ q => q) S h⟩
end
end MP

set_option linter.all false
set_option maxRecDepth 100000
set_option maxHeartbeats 2000000
/-! MP: methods that change a list; calls of defs. -/
namespace MP
open PySem L2
section
variable {X : Cx}
/-- what a method that changes a list asks -/
def rMut (K : PySem.W.Frag) (m : Mut) : V → List V → Hp → VK → Prop := fun x vs H Q => ∃ F l xs ds ys d ds', x = .ref l ∧ H l = some (.lst xs) ∧ Same F H ∧ RpA K F xs ds ∧ RpA K F vs ys ∧ mutF m ds ys = some (d, ds') ∧
  ∀ v xs', Rp K F v d → RpA K F xs' ds' → Q v (upd H l (.lst xs'))
def mutName : Mut → Str
  | .append => "append"
  | .extend => "extend"
  | .insert => "insert"
  | .pop => "pop"
  | .reverse => "reverse"
  | .remove => "remove"
def mutId : Mut → String
  | .append => "list.append"
  | .extend => "list.extend"
  | .insert => "list.insert"
  | .pop => "list.pop"
  | .reverse => "list.reverse"
  | .remove => "list.remove"
theorem list_extendW (l b : Addr) (us ws : Array Value) (n m : Nat) (dd : Option Addr) (sl : Array (Option Value)) (h0 : ¬ (!us.isEmpty && Builtin.List.listTooLong (us.size + ws.size)) = true) (h1 : us.size ≤ sizeLine) (h2 : (us ++ ws).size ≤ sizeLine + 1) :
    Meets (Builtin.«list.extend» ⟨[.ref l, .ref b], []⟩) fun _ R s => s.heap.get? l = some { cls := .type "list", data := .seq us n } ∧ s.heap.get? b = some { cls := .type "list", dict := dd, data := .seq ws m, slots := sl } ∧
      R (.ok (.ret Value.none)) { s with heap := s.heap.update l (Obj.mapSeq fun x => x ++ ws), toks := s.toks } :=
  .of_wp fun prog w A R s h => by
    obtain ⟨hp, g, d, tk, os⟩ := s
    obtain ⟨gl, gb, h⟩ := h
    have i1 := AutoSeq1.idx_int
    have i2 := AutoSeq1.sub_tuple_tuple
    have i3 := AutoSeq1.sub_list_list
    have i4 := AutoSeq1.sub_tuple_list
    have i5 := AutoSeq1.sub_list_tuple
    wp_walk using (wpAny_updateSeq gl rfl (hz := h1) (_hz' := h2)), AutoSeq1.wpAny_loadPart' gl, AutoSeq1.wpAny_loadPart' gb
    exact ⟨_, rfl, h⟩
theorem mt_extR : MtM X "list.extend" (fun x vs H Q => ∃ l b xs zs, x = .ref l ∧ vs = [.ref b] ∧ H l = some (.lst xs) ∧ SqL X.K H b zs ∧ xs.length + zs.length ≤ sizeLine ∧ Q .non (upd H l (.lst (xs ++ zs)))) := by
  intro pins s σ H x vs v us Q I rx rv ⟨l, b, xs, zs, ex, ev, hH, hB, hz, q⟩
  subst ex ev
  cases rx
  obtain ⟨u, e0, ru⟩ := rv.one
  subst e0
  cases ru
  obtain ⟨_, w1, n1, r1, l1, e1⟩ := I.lstM hH
  obtain ⟨w2, r2, p2, _⟩ := I.list hB
  obtain ⟨⟨c2, d2, t2, k2⟩, g2, y2, n2, z2⟩ := p2.isList
  dsimp only at y2 z2
  subst y2 z2
  have l2 := r2.length
  have small : w1.toArray.size + w2.toArray.size ≤ sizeLine := by simp only [List.size_toArray]; omega
  refine call_meets PySem.F.slot_list_extend ⟨_, e1, rfl⟩ PySem.F.entry_list_extend (PySem.F.args_list_extend_2 _ _)
    (list_extendW l b w1.toArray w2.toArray n1 n2 d2 k2 (by rw [notLongL small, Bool.and_false]; simp) (by simp only [List.size_toArray]; omega) (by rw [Array.size_append]; omega)) ⟨e1, g2, ?_⟩
  exact ⟨.non, _, I.lset (its' := w1 ++ w2) hH e1 (by simp) (r1.append r2) (by rw [List.length_append]; exact hz), rfl, q⟩
theorem mt_mut (m : Mut) : MtR X (mutId m) (rMut X.K m) := by
  intro pins s σ H x vs v us Q I rx rv ⟨F, l, xs, ds, ys, d, ds', ex, hl, sm, rr, ra, e, q⟩
  unfold mutF at e
  split at e
  · split at e
    · rename_i hz
      cases e
      cases ra with
      | cons r t =>
        cases t
        exact mt_append pins s σ H _ _ v us Q I rx rv ⟨l, xs, _, ex, rfl, hl, by rw [← big_eq, rr.length]; exact hz, q _ _ .non (rr.append (.cons r .nil))⟩
    · cases e
  · split at e
    · rename_i hz
      cases e
      cases ra with
      | cons r t =>
        cases t
        cases r with
        | lst hb rb => exact mt_extR pins s σ H _ _ v us Q I rx rv ⟨l, _, xs, _, ex, rfl, hl, sm.seq hb, by rw [← big_eq, rr.length, rb.length]; exact hz, q _ _ .non (rr.append rb)⟩
    · cases e
  · rw [Option.map_eq_some_iff] at e
    obtain ⟨y, e, e2⟩ := e
    cases e2
    cases ra
    obtain ⟨w, hw, rw'⟩ := rr.get e
    rw [← rr.length] at hw
    exact mt_pop pins s σ H _ _ v us Q I rx rv ⟨l, xs, w, ex, rfl, hl, hw, q _ _ rw' rr.dropLast⟩
  · split at e
    · rename_i hz
      cases e
      cases ra with
      | cons r t =>
        cases t with
        | cons r2 t =>
          cases t
          cases r
          exact mt_insert pins s σ H _ _ v us Q I rx rv ⟨l, xs, _, _, ex, rfl, hl, by rw [← big_eq, rr.length]; exact hz.1, hz.2.1, by omega, q _ _ .non (((rr.take _).append (.cons r2 .nil)).append (rr.drop _))⟩
    · cases e
  · cases e
end
section
variable {K : PySem.W.Frag} {G : Gh} {as : Nat → List Addr} {F F' H H' : Hp} {s : Env} {σ : L2.St} {v : V}
/-- the list of a slot is changed -/
theorem StA.change (S : StA K G as F s σ H) {i : Nat} {m : Mode} {ds ds' : List D} {xs' : List V} {l : Addr} (h : s[i]? = some (some (m, .lst ds))) (hm : m ≠ .ro) (hv : σ[i]? = some (some (.ref l))) (r : RpA K F xs' ds') :
    StA K G as F (s.set i (some (m, .lst ds'))) σ (upd H l (.lst xs')) := by
  obtain ⟨v, hv', rc⟩ := S.cell _ _ _ h
  rw [hv] at hv'
  cases hv'
  have hi : i < s.length := (List.getElem?_eq_some_iff.mp h).1
  have ha : as i = [l] ∧ ∃ xs, H l = some (.lst xs) := by
    generalize as i = a at rc
    cases rc with
    | lst h r => exact ⟨rfl, _, h⟩
  obtain ⟨ha, xs, hl⟩ := ha
  have lin : l ∈ as i := by rw [ha]; simp
  have get : ∀ (j : Nat) m' c', (s.set i (some (m, Cell.lst ds')))[j]? = some (some (m', c')) → (j = i ∧ m' = m ∧ c' = .lst ds') ∨ (j ≠ i ∧ s[j]? = some (some (m', c'))) := fun j m' c' q => by
    by_cases z : j = i
    · subst z
      rw [List.getElem?_set_self hi] at q
      cases q
      exact .inl ⟨rfl, rfl, rfl⟩
    · rw [List.getElem?_set_ne (Ne.symm z)] at q
      exact .inr ⟨z, q⟩
  exact {
    len := by rw [List.length_set]; exact S.len
    cell := fun j m' c' q => by
      rcases get j m' c' q with ⟨rfl, rfl, rfl⟩ | ⟨z, q⟩
      · exact ⟨.ref l, hv, by rw [ha]; exact .lst upd_same r⟩
      · obtain ⟨w, h1, h2⟩ := S.cell _ _ _ q
        refine ⟨w, h1, h2.mono (.refl _) fun p hp o e => ?_⟩
        rw [upd_ne fun y : p = l => z (S.dis j i l (by rw [← y]; exact hp) lin)]
        exact e
    emp := fun j q => by
      by_cases z : j = i
      · subst z
        exact absurd (List.getElem?_set_self hi) (q _ _)
      · refine S.emp j fun m' c' q' => q m' c' ?_
        rw [List.getElem?_set_ne (Ne.symm z)]
        exact q'
    dis := S.dis
    nd := S.nd
    fr := S.fr
    md := fun j m' c' p q hp => by
      rcases get j m' c' q with ⟨rfl, rfl, rfl⟩ | ⟨z, q⟩
      · exact S.md j _ _ p h hp
      · exact S.md j m' c' p q hp
    same := fun q o e => by
      rw [upd_ne fun z : q = l => by rw [z, S.fr i l lin] at e; cases e]
      exact S.same q o e
    f0 := S.f0
    fnew := fun q hq => by
      rw [upd_ne fun z => hq (by rw [z]; exact S.fr i l lin)]
      exact S.fnew q hq
    fra := fun q o hq e => by
      rw [upd_ne fun z : q = l => by
        rw [z] at hq e
        rcases S.md i _ _ l h lin with y | y | y | y
        · exact hm y.1
        · rw [y] at e; cases e
        · exact hq y.2
        · exact hq y.2.1]
      exact S.fra q o hq e
    dom := fun q hq => by
      by_cases z : q = l
      · rw [z, upd_same]; simp
      · rw [upd_ne z]; exact S.dom q hq
    pin := fun j m' c' q hm' => by
      rcases get j m' c' q with ⟨rfl, rfl, rfl⟩ | ⟨z, q⟩
      · exact S.pin j _ _ h hm'
      · exact S.pin j m' c' q hm' }
end
section
variable {M : Pm} {G : Gh} {W : WX} {F F' : Hp} {σ : L2.St} {Q Q' : VK} {X : Cx} {e a b c : Expr} {ca cb cc : E} {pos : Pos} {es : List Expr} {ces : List E}
theorem mut_slot (m : Mut) : Slot "list" (mutName m) (mutId m) := by
  cases m
  · exact PySem.F.slot_list_append
  · exact PySem.F.slot_list_extend
  · exact PySem.F.slot_list_insert
  · exact PySem.F.slot_list_pop
  · exact PySem.F.slot_list_reverse
  · exact PySem.F.slot_list_remove
theorem mut_type (m : Mut) : typeOf (.builtin (mutId m)) = pure (.type "method_descriptor") := by
  cases m
  · exact PySem.F.type_list_append
  · exact PySem.F.type_list_extend
  · exact PySem.F.type_list_insert
  · exact PySem.F.type_list_pop
  · exact PySem.F.type_list_reverse
  · exact PySem.F.type_list_remove
theorem mut_core {m : Mut} {i : Nat} {as : Nat → List Addr} {s : Env} {H : Hp} {t : TA} (S : StA M.K G as F s σ H) (h : Post M G W F σ (ev M.Γ false (.mut m i ces) s) Q)
    (ht : ∀ Q', PostF M G W F σ (evs M.Γ ces s) Q' → t σ H Q') : tBM M.K "list" (rMut M.K m) (tVar i) t σ H Q := by
  simp only [ev, fin_false] at h
  split at h
  · rename_i md0 xs0 q0
    obtain ⟨v, hv, rc⟩ := S.cell _ _ _ q0
    generalize as i = a0 at rc
    cases rc with
    | @lst l ws _ hl rr =>
      refine ⟨.ref l, hv, .inl ⟨rfl, _, .of hl⟩, ht _ (PostF.bind h fun ds s1 as1 F1 H1 vs e _ S1 R1 h1 => ?_)⟩
      split at h1
      · rename_i md xs q
        split at h1
        · exact h1.elim
        · rename_i hm
          split at h1
          · rename_i d xs' e2
            obtain ⟨v', hv', rc'⟩ := S1.cell _ _ _ q
            rw [hv] at hv'
            cases hv'
            generalize as1 i = a1 at rc'
            cases rc' with
            | @lst _ ws' _ hl' rr' =>
              exact ⟨F1, l, ws', xs, ds, d, xs', rfl, hl', S1.same, rr', R1, e2, fun v xs2 r1 r2 => h1 as1 F1 _ v [] (.refl _) (S1.change q hm hv r2) ⟨r1, rfl⟩⟩
          · exact h1.elim
      · exact h1.elim
  · exact h.elim
theorem ev_mut (m : Mut) (i : Nat) {x : Str} {p apos : Pos} (ha : AF M X (a :: es) ces) (hN : X.N[i]? = some x := by rfl) (hv : Vis X.env.scope x := by first | exact Or.inl rfl | exact Or.inr (Or.inl rfl) | exact Or.inr (Or.inr rfl)) (hK : X.K = M.K := by rfl)
    (hd : (x == ("__debug__" : Str)) = false := by decide) (hcd : (x == ("__classdict__" : Str)) = false := by decide)
    (hbase : attributeBase (.Name x p) (mutName m) X.env (eval (.Name x p) X.env) = eval (.Name x p) X.env := by rfl)
    (hfew : ((backTo pos (starEach (a :: es) X.env)).all (fun x => !x.1) && (backToKw pos (keywordEach [] X.env)).all (fun x => x.1.isSome)
      && decide ((a :: es).length + ([] : List Keyword).length + (if ([] : List Keyword).isEmpty then 0 else 1) < 30)) = true := by rfl)
    (hline : (apos.endLine == pos.line) = true := by rfl) (hs : starEach (a :: es) X.env = (false, eval a X.env) :: starEach es X.env := by rfl) (hpl : (backTo pos (starEach es X.env)).any (·.1) = false := by rfl) :
    EV M X (.Call (.Attribute (.Name x p) (mutName m) apos) (a :: es) [] pos) (.mut m i ces) := by
  refine ⟨fun W tk => PE.imp (pe_bm PySem.F.plainAttrs_list (mut_slot m) (mut_type m) (mt_mut m) (pe_var (i := i) hN hv hd hcd) (ha.run W tk) hbase hfew hline hs hpl) fun σ H Q ⟨G, as, F, s, S, h⟩ => ?_⟩
  rw [hK]
  exact mut_core S h fun Q' q => ⟨G, as, F, s, S, q⟩
theorem ev_mut0 (m : Mut) (i : Nat) {x : Str} {p apos : Pos} (hN : X.N[i]? = some x := by rfl) (hv : Vis X.env.scope x := by first | exact Or.inl rfl | exact Or.inr (Or.inl rfl) | exact Or.inr (Or.inr rfl)) (hK : X.K = M.K := by rfl)
    (hd : (x == ("__debug__" : Str)) = false := by decide) (hcd : (x == ("__classdict__" : Str)) = false := by decide)
    (hbase : attributeBase (.Name x p) (mutName m) X.env (eval (.Name x p) X.env) = eval (.Name x p) X.env := by rfl) (hline : (apos.endLine == pos.line) = true := by rfl) :
    EV M X (.Call (.Attribute (.Name x p) (mutName m) apos) [] [] pos) (.mut m i []) := by
  refine ⟨fun W tk => PE.imp (pe_bm0 PySem.F.plainAttrs_list (mut_slot m) (mut_type m) (mt_mut m) (pe_var (i := i) hN hv hd hcd) hbase hline) fun σ H Q ⟨G, as, F, s, S, h⟩ => ?_⟩
  rw [hK]
  exact mut_core (t := fun _ H Q => Q [] H) S h fun Q' q => q as F H [] (.refl _) S .nil
end
end MP

set_option linter.all false
set_option maxRecDepth 100000
set_option maxHeartbeats 2000000
/-! MP: calls of defs. -/
namespace MP
open PySem L2
section
variable {K : PySem.W.Frag} {G : Gh} {as : Nat → List Addr} {F F' H H' : Hp} {s : Env} {σ : L2.St} {v : V}
theorem StA.take (S : StA K G as F s σ H) {i : Nat} (h : i < s.length) : StA K G (fun j => if j = i then [] else as j) F (s.set i none) σ H where
  len := by rw [List.length_set]; exact S.len
  cell := fun j m c e => by
    by_cases z : j = i
    · subst z
      rw [List.getElem?_set_self h] at e
      cases e
    · rw [List.getElem?_set_ne (Ne.symm z)] at e
      rw [if_neg z]
      exact S.cell j m c e
  emp := fun j e => by
    by_cases z : j = i
    · rw [if_pos z]
    · rw [if_neg z]
      refine S.emp j fun m c q => e m c ?_
      rw [List.getElem?_set_ne (Ne.symm z)]
      exact q
  dis := fun j k p hj hk => by
    split at hj
    · cases hj
    · split at hk
      · cases hk
      · exact S.dis j k p hj hk
  nd := fun j => by
    split
    · exact .nil
    · exact S.nd j
  fr := fun j p hj => by
    split at hj
    · cases hj
    · exact S.fr j p hj
  md := fun j m c p e hj => by
    split at hj
    · cases hj
    · rename_i z
      rw [List.getElem?_set_ne (Ne.symm z)] at e
      exact S.md j m c p e hj
  same := S.same
  f0 := S.f0
  fnew := S.fnew
  fra := S.fra
  dom := S.dom
  pin := fun j m c e hm => by
    by_cases z : j = i
    · subst z
      rw [List.getElem?_set_self h] at e
      cases e
    · rw [List.getElem?_set_ne (Ne.symm z)] at e
      exact S.pin j m c e hm
theorem StA.give {as2 : Nat → List Addr} {s2 : Env} {i : Nat} {m : Mode} {c : Cell} (S : StA K G as F s σ H) (h : s[i]? = some (some (m, c))) (S2 : StA K G as2 F' s2 σ H) (e2 : s2[i]? = some none) (sf : Same F F')
    (hsub : ∀ j p, p ∈ as2 j → p ∈ as j) (hn : ∀ p ∈ as i, F' p = none) : StA K G (fun j => if j = i then as i else as2 j) F' (s2.set i (some (m, c))) σ H := by
  have hi : i < s2.length := (List.getElem?_eq_some_iff.mp e2).1
  have get : ∀ (j : Nat) m' c', (s2.set i (some (m, c)))[j]? = some (some (m', c')) → (j = i ∧ m' = m ∧ c' = c) ∨ (j ≠ i ∧ s2[j]? = some (some (m', c'))) := fun j m' c' q => by
    by_cases z : j = i
    · subst z
      rw [List.getElem?_set_self hi] at q
      cases q
      exact .inl ⟨rfl, rfl, rfl⟩
    · rw [List.getElem?_set_ne (Ne.symm z)] at q
      exact .inr ⟨z, q⟩
  exact {
    len := by rw [List.length_set]; exact S2.len
    cell := fun j m' c' q => by
      rcases get j m' c' q with ⟨rfl, rfl, rfl⟩ | ⟨z, q⟩
      · obtain ⟨w, h1, h2⟩ := S.cell _ _ _ h
        exact ⟨w, h1, by rw [if_pos rfl]; exact h2.mono sf fun _ _ _ e => e⟩
      · rw [if_neg z]
        exact S2.cell _ _ _ q
    emp := fun j q => by
      by_cases z : j = i
      · subst z
        exact absurd (List.getElem?_set_self hi) (q _ _)
      · rw [if_neg z]
        refine S2.emp j fun m' c' q' => q m' c' ?_
        rw [List.getElem?_set_ne (Ne.symm z)]
        exact q'
    dis := fun j k p hj hk => by
      by_cases z1 : j = i
      · by_cases z2 : k = i
        · rw [z1, z2]
        · rw [if_pos z1] at hj
          rw [if_neg z2] at hk
          exact absurd (S.dis k i p (hsub k p hk) hj) z2
      · rw [if_neg z1] at hj
        by_cases z2 : k = i
        · rw [if_pos z2] at hk
          exact absurd (S.dis j i p (hsub j p hj) hk) z1
        · rw [if_neg z2] at hk
          exact S2.dis j k p hj hk
    nd := fun j => by
      split
      · exact S.nd i
      · exact S2.nd j
    fr := fun j p hj => by
      split at hj
      · exact hn p hj
      · exact S2.fr j p hj
    md := fun j m' c' p q hp => by
      rcases get j m' c' q with ⟨rfl, rfl, rfl⟩ | ⟨z, q⟩
      · rw [if_pos rfl] at hp
        exact S.md _ _ _ p h hp
      · rw [if_neg z] at hp
        exact S2.md j m' c' p q hp
    same := S2.same
    f0 := S2.f0
    fnew := S2.fnew
    fra := S2.fra
    dom := S2.dom
    pin := fun j m' c' q hm => by
      rcases get j m' c' q with ⟨rfl, rfl, rfl⟩ | ⟨z, q⟩
      · exact S.pin _ _ _ h hm
      · exact S2.pin j m' c' q hm }
end
/-- the arguments as they are handed in; sl: the slots that are lent -/
inductive ArgsR (K : PySem.W.Frag) (F : Hp) (s : Env) (σ : L2.St) : List PM → List V → List Cell → List (Option Nat) → Prop
  | nil : ArgsR K F s σ [] [] [] []
  | v {v : V} {d : D} {ps : List PM} {vs : List V} {cs : List Cell} {sl : List (Option Nat)} : Rp K F v d → ArgsR K F s σ ps vs cs sl → ArgsR K F s σ (.v :: ps) (v :: vs) (.val d :: cs) (none :: sl)
  | r {v : V} {d : D} {ps : List PM} {vs : List V} {cs : List Cell} {sl : List (Option Nat)} : Rp K F v d → ArgsR K F s σ ps vs cs sl → ArgsR K F s σ (.r :: ps) (v :: vs) (.val d :: cs) (none :: sl)
  | rb {v : V} {i : Nat} {m : Mode} {c : Cell} {ps : List PM} {vs : List V} {cs : List Cell} {sl : List (Option Nat)} : s[i]? = some (some (m, c)) → σ[i]? = some (some v) → some i ∉ sl → ArgsR K F s σ ps vs cs sl → ArgsR K F s σ (.r :: ps) (v :: vs) (c :: cs) (some i :: sl)
  | ib {v : V} {i : Nat} {m : Mode} {c : Cell} {ps : List PM} {vs : List V} {cs : List Cell} {sl : List (Option Nat)} : s[i]? = some (some (m, c)) → m ≠ .ro → σ[i]? = some (some v) → some i ∉ sl → inAt ps = none → ArgsR K F s σ ps vs cs sl → ArgsR K F s σ (.i :: ps) (v :: vs) (c :: cs) (some i :: sl)
section
variable {M : Pm} {G : Gh} {as : Nat → List Addr} {F F' H H' : Hp} {s s' : Env} {σ : L2.St} {v : V}
theorem shift_io {o : Option Nat} {x : Option Nat} {sl : List (Option Nat)} {i : Nat} : (∃ k, o = some k ∧ sl[k]? = some (some i)) ↔ ∃ k, (∃ a, o = some a ∧ a + 1 = k) ∧ (x :: sl)[k]? = some (some i) :=
  ⟨fun ⟨k, h1, h2⟩ => ⟨k + 1, ⟨k, h1, rfl⟩, h2⟩, fun ⟨_, ⟨a, h1, e⟩, h2⟩ => by subst e; exact ⟨a, h1, h2⟩⟩
theorem ArgsR.slot {ps : List PM} {vs : List V} {cs : List Cell} {sl : List (Option Nat)} (h : ArgsR M.K F s σ ps vs cs sl) : ∀ (i : Nat), some i ∈ sl → ∃ m c, s[i]? = some (some (m, c)) := by
  induction h with
  | nil => intro i hi; cases hi
  | v _ _ ih => intro i hi; rcases List.mem_cons.mp hi with e | hi; cases e; exact ih i hi
  | r _ _ ih => intro i hi; rcases List.mem_cons.mp hi with e | hi; cases e; exact ih i hi
  | rb h1 _ _ _ ih => intro i hi; rcases List.mem_cons.mp hi with e | hi; cases e; exact ⟨_, _, h1⟩; exact ih i hi
  | ib h1 _ _ _ _ _ ih => intro i hi; rcases List.mem_cons.mp hi with e | hi; cases e; exact ⟨_, _, h1⟩; exact ih i hi
theorem ArgsR.imp {ps : List PM} {vs : List V} {cs : List Cell} {sl : List (Option Nat)} (h : ArgsR M.K F s σ ps vs cs sl) (sf : Same F F') (hs : ∀ (i : Nat), some i ∈ sl → s'[i]? = s[i]?) : ArgsR M.K F' s' σ ps vs cs sl := by
  induction h with
  | nil => exact .nil
  | v r _ ih => exact .v (r.mono sf) (ih fun i hi => hs i (List.mem_cons_of_mem _ hi))
  | r r _ ih => exact .r (r.mono sf) (ih fun i hi => hs i (List.mem_cons_of_mem _ hi))
  | rb h1 h2 h3 _ ih => exact .rb (by rw [hs _ (by simp)]; exact h1) h2 h3 (ih fun i hi => hs i (List.mem_cons_of_mem _ hi))
  | ib h1 h2 h3 h4 h5 _ ih => exact .ib (by rw [hs _ (by simp)]; exact h1) h2 h3 h4 h5 (ih fun i hi => hs i (List.mem_cons_of_mem _ hi))
theorem ArgsR.inSome {ps : List PM} {vs : List V} {cs : List Cell} {sl : List (Option Nat)} (h : ArgsR M.K F s σ ps vs cs sl) : ∀ {k : Nat}, inAt ps = some k → ∃ i, sl[k]? = some (some i) := by
  induction h with
  | nil => intro k hk; cases hk
  | v _ _ ih =>
    intro k hk
    simp only [inAt, Option.map_eq_some_iff] at hk
    obtain ⟨j, hj, rfl⟩ := hk
    exact ih hj
  | r _ _ ih =>
    intro k hk
    simp only [inAt, Option.map_eq_some_iff] at hk
    obtain ⟨j, hj, rfl⟩ := hk
    exact ih hj
  | rb _ _ _ _ ih =>
    intro k hk
    simp only [inAt, Option.map_eq_some_iff] at hk
    obtain ⟨j, hj, rfl⟩ := hk
    exact ih hj
  | ib h1 _ _ _ _ _ ih =>
    intro k hk
    simp only [inAt, Option.some.injEq] at hk
    subst hk
    exact ⟨_, rfl⟩
/-- what argCells leaves -/
structure ArgsOut (K : PySem.W.Frag) (G : Gh) (as : Nat → List Addr) (F : Hp) (s : Env) (σ : L2.St) (H : Hp) (ps : List PM) (vs : List V) (cs : List Cell) (io : Option Nat) (s' : Env) (as' : Nat → List Addr) (F' : Hp) (sl : List (Option Nat)) : Prop where
  f : Same F F'
  S : StA K G as' F' s' σ H
  R : ArgsR K F' s' σ ps vs cs sl
  sub : ∀ j p, p ∈ as' j → p ∈ as j
  new : ∀ q, F' q ≠ none → F q ≠ none ∨ ∃ j, q ∈ as j
  io : ∀ i, io = some i ↔ ∃ k, inAt ps = some k ∧ sl[k]? = some (some i)
  non : ∀ (i : Nat), s[i]? = some none → s'[i]? = some none
theorem args_ok : ∀ (ps : List PM) (rs : List Res) {as : Nat → List Addr} {F : Hp} {s s' : Env} {vs : List V} {cs : List Cell} {io : Option Nat}, StA M.K G as F s σ H → HeldA M.K F σ vs rs → argCells s ps rs = some (cs, io, s') →
    ∃ as' F' sl, ArgsOut M.K G as F s σ H ps vs cs io s' as' F' sl
  | [], [], as, F, s, s', vs, cs, io, S, hd, e => by
    simp only [argCells, Option.some.injEq, Prod.mk.injEq] at e
    obtain ⟨rfl, rfl, rfl⟩ := e
    cases hd
    exact ⟨as, F, [], .refl _, S, .nil, fun _ _ h => h, fun _ h => .inl h, fun i => by simp [inAt], fun _ h => h⟩
  | .v :: ps, r :: rs, as, F, s, s', vs, cs, io, S, hd, e => by
    simp only [argCells] at e
    split at e
    · rename_i d s1 e1
      split at e
      · rename_i cs1 io1 s2 e2
        simp only [Option.some.injEq, Prod.mk.injEq] at e
        obtain ⟨rfl, rfl, rfl⟩ := e
        cases hd with
        | cons h t =>
          rename_i v vs
          have key : ∃ as1 F1, Same F F1 ∧ StA M.K G as1 F1 s1 σ H ∧ Rp M.K F1 v d ∧ (∀ j p, p ∈ as1 j → p ∈ as j) ∧ (∀ q, F1 q ≠ none → F q ≠ none ∨ ∃ j, q ∈ as j) ∧ ∀ (i : Nat), s[i]? = some none → s1[i]? = some none := by
            cases r with
            | val d' =>
              simp only [frz, Option.some.injEq, Prod.mk.injEq] at e1
              obtain ⟨rfl, rfl⟩ := e1
              exact ⟨as, F, .refl _, S, h, fun _ _ h => h, fun _ h => .inl h, fun _ h => h⟩
            | tmp c => exact h.elim
            | bor i =>
              simp only [frz] at e1
              split at e1
              · rename_i c q
                rw [Option.map_eq_some_iff] at e1
                obtain ⟨d', ed, e3⟩ := e1
                cases e3
                obtain ⟨F1, w, sm, hw, rp, S1, eF⟩ := S.freezeSlot q ed
                have hv : σ[i]? = some (some v) := h
                rw [hv] at hw
                cases hw
                refine ⟨_, F1, sm, S1, rp, fun j p hp => ?_, fun q' hq => ?_, fun j hj => ?_⟩
                · split at hp
                  · cases hp
                  · exact hp
                · by_cases z : q' ∈ as i
                  · exact .inr ⟨i, z⟩
                  · rw [eF, ovr_out z] at hq
                    exact .inl hq
                · by_cases z : j = i
                  · subst z; rw [q] at hj; cases hj
                  · rw [List.getElem?_set_ne (Ne.symm z)]; exact hj
              · cases e1
          obtain ⟨as1, F1, sf1, S1, rp, sub1, new1, non1⟩ := key
          obtain ⟨as', F', sl, o⟩ := args_ok ps rs S1 (t.mono sf1) e2
          refine ⟨as', F', none :: sl, sf1.trans o.f, o.S, .v (rp.mono o.f) o.R, fun j p hp => sub1 j p (o.sub j p hp), fun q hq => ?_, fun i => ?_, fun i hi => o.non i (non1 i hi)⟩
          · rcases o.new q hq with z | ⟨j, z⟩
            · exact new1 q z
            · exact .inr ⟨j, sub1 j q z⟩
          · rw [o.io]
            simp only [inAt, Option.map_eq_some_iff]
            exact shift_io
      · cases e
    · cases e
  | .r :: ps, .val d :: rs, as, F, s, s', vs, cs, io, S, hd, e => by
    simp only [argCells] at e
    split at e
    · rename_i cs1 io1 s2 e2
      simp only [Option.some.injEq, Prod.mk.injEq] at e
      obtain ⟨rfl, rfl, rfl⟩ := e
      cases hd with
      | cons h t =>
        obtain ⟨as', F', sl, o⟩ := args_ok ps rs S t e2
        refine ⟨as', F', none :: sl, o.f, o.S, .r (Rp.mono o.f h) o.R, o.sub, o.new, fun i => ?_, o.non⟩
        rw [o.io]
        simp only [inAt, Option.map_eq_some_iff]
        exact shift_io
    · cases e
  | .r :: ps, .bor i :: rs, as, F, s, s', vs, cs, io, S, hd, e => by
    simp only [argCells] at e
    split at e
    · rename_i m c q
      split at e
      · rename_i cs1 io1 s2 e2
        simp only [Option.some.injEq, Prod.mk.injEq] at e
        obtain ⟨rfl, rfl, rfl⟩ := e
        cases hd with
        | cons h t =>
          have hi : i < s.length := (List.getElem?_eq_some_iff.mp q).1
          have ST := S.take hi
          obtain ⟨as', F', sl, o⟩ := args_ok ps rs ST t e2
          have hn := o.non i (List.getElem?_set_self hi)
          have notin : some i ∉ sl := fun z => by
            obtain ⟨m', c', e'⟩ := o.R.slot i z
            rw [hn] at e'
            cases e'
          have sub' : ∀ j p, p ∈ as' j → p ∈ as j := fun j p hp => by
            have := o.sub j p hp
            split at this
            · cases this
            · exact this
          have fi : ∀ p ∈ as i, F' p = none := fun p hp => by
            cases z : F' p with
            | none => rfl
            | some x =>
              rcases o.new p (by rw [z]; simp) with y | ⟨j, y⟩
              · exact absurd (S.fr i p hp) y
              · split at y
                · cases y
                · rename_i ne
                  exact absurd (S.dis j i p y hp) ne
          have hi2 : i < s2.length := (List.getElem?_eq_some_iff.mp hn).1
          refine ⟨_, F', some i :: sl, o.f, S.give q o.S hn o.f sub' fi, .rb (List.getElem?_set_self hi2) h notin (o.R.imp (.refl _) fun j hj => ?_), fun j p hp => ?_, fun q' hq => ?_, fun k => ?_, fun j hj => ?_⟩
          · rw [List.getElem?_set_ne]
            intro z
            subst z
            exact notin hj
          · split at hp
            · rename_i z; rw [z]; exact hp
            · exact sub' j p hp
          · rcases o.new q' hq with y | ⟨j, y⟩
            · exact .inl y
            · split at y
              · cases y
              · exact .inr ⟨j, y⟩
          · rw [o.io]
            simp only [inAt, Option.map_eq_some_iff]
            exact shift_io
          · by_cases z : j = i
            · subst z; rw [q] at hj; cases hj
            · rw [List.getElem?_set_ne (Ne.symm z)]
              refine o.non j ?_
              rw [List.getElem?_set_ne (Ne.symm z)]
              exact hj
      · cases e
    · cases e
  | .i :: ps, .bor i :: rs, as, F, s, s', vs, cs, io, S, hd, e => by
    simp only [argCells] at e
    split at e
    · rename_i m c q
      split at e
      · cases e
      · rename_i hm
        split at e
        · rename_i cs1 s2 e2
          simp only [Option.some.injEq, Prod.mk.injEq] at e
          obtain ⟨rfl, rfl, rfl⟩ := e
          cases hd with
          | cons h t =>
            have hi : i < s.length := (List.getElem?_eq_some_iff.mp q).1
            have ST := S.take hi
            obtain ⟨as', F', sl, o⟩ := args_ok ps rs ST t e2
            have hn := o.non i (List.getElem?_set_self hi)
            have notin : some i ∉ sl := fun z => by
              obtain ⟨m', c', e'⟩ := o.R.slot i z
              rw [hn] at e'
              cases e'
            have sub' : ∀ j p, p ∈ as' j → p ∈ as j := fun j p hp => by
              have := o.sub j p hp
              split at this
              · cases this
              · exact this
            have fi : ∀ p ∈ as i, F' p = none := fun p hp => by
              cases z : F' p with
              | none => rfl
              | some x =>
                rcases o.new p (by rw [z]; simp) with y | ⟨j, y⟩
                · exact absurd (S.fr i p hp) y
                · split at y
                  · cases y
                  · rename_i ne
                    exact absurd (S.dis j i p y hp) ne
            have hi2 : i < s2.length := (List.getElem?_eq_some_iff.mp hn).1
            have ino : inAt ps = none := by
              cases z : inAt ps with
              | none => rfl
              | some k =>
                obtain ⟨i', hi'⟩ := o.R.inSome z
                exact absurd ((o.io i').mpr ⟨k, z, hi'⟩) (by simp)
            refine ⟨_, F', some i :: sl, o.f, S.give q o.S hn o.f sub' fi, .ib (List.getElem?_set_self hi2) hm h notin ino (o.R.imp (.refl _) fun j hj => ?_), fun j p hp => ?_, fun q' hq => ?_, fun k => ?_, fun j hj => ?_⟩
            · rw [List.getElem?_set_ne]
              intro z
              subst z
              exact notin hj
            · split at hp
              · rename_i z; rw [z]; exact hp
              · exact sub' j p hp
            · rcases o.new q' hq with y | ⟨j, y⟩
              · exact .inl y
              · split at y
                · cases y
                · exact .inr ⟨j, y⟩
            · simp [inAt]
            · by_cases z : j = i
              · subst z; rw [q] at hj; cases hj
              · rw [List.getElem?_set_ne (Ne.symm z)]
                refine o.non j ?_
                rw [List.getElem?_set_ne (Ne.symm z)]
                exact hj
        · cases e
    · cases e
  | [], _ :: _, _, _, _, _, _, _, _, _, _, e => by simp [argCells] at e
  | .v :: _, [], _, _, _, _, _, _, _, _, _, e => by simp [argCells] at e
  | .r :: _, [], _, _, _, _, _, _, _, _, _, e => by simp [argCells] at e
  | .i :: _, [], _, _, _, _, _, _, _, _, _, e => by simp [argCells] at e
  | .r :: _, .tmp _ :: _, _, _, _, _, _, _, _, _, _, e => by simp [argCells] at e
  | .i :: _, .tmp _ :: _, _, _, _, _, _, _, _, _, _, e => by simp [argCells] at e
  | .i :: _, .val _ :: _, _, _, _, _, _, _, _, _, _, e => by simp [argCells] at e
end
end MP

set_option linter.all false
set_option maxRecDepth 100000
set_option maxHeartbeats 2000000
/-! MP: what a def promises; its call. -/
namespace MP
open PySem L2
/-- behind a call: what is frozen stays, what is not lent to change stands -/
structure GrowM (mu : List Addr) (F H F' H' : Hp) : Prop where
  f : Same F F'
  s : Same F' H'
  h : ∀ q o, q ∉ mu → H q = some o → H' q = some o
  n : ∀ q, F' q ≠ none → F q ≠ none ∨ H q = none ∨ ∃ xs, H' q = some (.tup xs)
  d : ∀ q, H q ≠ none → H' q ≠ none
/-- the cell that was lent to change, behind the call -/
def OutR (K : PySem.W.Frag) (ps : List PM) (vs : List V) (out : Option Cell) (mu : List Addr) (H F' H' : Hp) (aO : List Addr) : Prop := match inAt ps, out with
  | none, none => aO = []
  | some k, some c => ∃ v, vs[k]? = some v ∧ CRel K F' H' v c aO ∧ aO.Nodup ∧ ∀ p ∈ aO, F' p = none ∧ (p ∈ mu ∨ H p = none)
  | _, _ => False
def muOf (ps : List PM) (as : Nat → List Addr) : List Addr := match inAt ps with
  | some k => as k
  | none => []
def DefPost (M : Pm) (ps : List PM) (vs : List V) (F H : Hp) (mu : List Addr) (res : RC) (Q : VK) (E : XK) : Prop := match res with
  | .ok c out => ∀ F' H' v aT aO, GrowM mu F H F' H' → CRel M.K F' H' v c aT → aT.Nodup → (∀ p ∈ aT, F' p = none ∧ H p = none) → OutR M.K ps vs out mu H F' H' aO → (∀ p ∈ aO, p ∉ aT) → Q v H'
  | .ex x p out => ∀ F' H' cls d aO, GrowM mu F H F' H' → OutR M.K ps vs out mu H F' H' aO → XRel M x p cls d F' H' → E cls d H'
  | .stk => False
def rsOf (ps : List PM) (as : Nat → List Addr) : List Addr := ownAt (ps.map fun m => some (match m with
  | .v => Mode.fr
  | .r => Mode.ro
  | .i => Mode.pin, Cell.val .none)) as isRo
/-- the promise of the def j -/
def spD (M : Pm) (ps : List PM) (j : Nat) : Sp := fun vs H Q E => ∃ cs F as, vs.length = ps.length ∧ StA M.K ⟨F, H, muOf ps as, [], rsOf ps as, vs.map some⟩ as F (argEnv ps cs) (vs.map some) H ∧ cs.length = ps.length ∧
  DefPost M ps vs F H (muOf ps as) (M.Γ.run j cs) Q E
section
variable {M : Pm} {G : Gh} {as : Nat → List Addr} {F F' H H' : Hp} {s s' : Env} {σ : L2.St} {v : V}
theorem ArgsR.lens {ps : List PM} {vs : List V} {cs : List Cell} {sl : List (Option Nat)} (h : ArgsR M.K F s σ ps vs cs sl) : vs.length = ps.length ∧ cs.length = ps.length ∧ sl.length = ps.length := by
  induction h with
  | nil => exact ⟨rfl, rfl, rfl⟩
  | v _ _ ih => simp [ih]
  | r _ _ ih => simp [ih]
  | rb _ _ _ _ ih => simp [ih]
  | ib _ _ _ _ _ _ ih => simp [ih]
theorem ArgsR.nd {ps : List PM} {vs : List V} {cs : List Cell} {sl : List (Option Nat)} (h : ArgsR M.K F s σ ps vs cs sl) : ∀ (j k i : Nat), sl[j]? = some (some i) → sl[k]? = some (some i) → j = k := by
  have step : ∀ {x : Option Nat} {sl : List (Option Nat)}, (∀ i, x = some i → some i ∉ sl) → (∀ (j k i : Nat), sl[j]? = some (some i) → sl[k]? = some (some i) → j = k) → ∀ (j k i : Nat), (x :: sl)[j]? = some (some i) → (x :: sl)[k]? = some (some i) → j = k := by
    intro x sl hx ih j k i h1 h2
    cases j with
    | zero =>
      cases k with
      | zero => rfl
      | succ k =>
        simp only [List.getElem?_cons_zero, Option.some.injEq] at h1
        exact absurd (List.mem_of_getElem? (show sl[k]? = some (some i) from h2)) (hx i h1)
    | succ j =>
      cases k with
      | zero =>
        simp only [List.getElem?_cons_zero, Option.some.injEq] at h2
        exact absurd (List.mem_of_getElem? (show sl[j]? = some (some i) from h1)) (hx i h2)
      | succ k => rw [ih j k i h1 h2]
  induction h with
  | nil => intro j k i h; simp at h
  | v _ _ ih => exact step (fun i h => by cases h) ih
  | r _ _ ih => exact step (fun i h => by cases h) ih
  | rb _ _ h3 _ ih => exact step (fun i h => by cases h; exact h3) ih
  | ib _ _ _ h3 _ _ ih => exact step (fun i h => by cases h; exact h3) ih
def mdOf : PM → Mode
  | .v => .fr
  | .r => .ro
  | .i => .pin
theorem argEnv_cons (m : PM) (ps : List PM) (c : Cell) (cs : List Cell) : argEnv (m :: ps) (c :: cs) = some (mdOf m, c) :: argEnv ps cs := by
  cases m <;> rfl
/-- slot by slot -/
theorem ArgsR.at {ps : List PM} {vs : List V} {cs : List Cell} {sl : List (Option Nat)} (h : ArgsR M.K F s σ ps vs cs sl) : ∀ (k : Nat) (m : Mode) (c : Cell), (argEnv ps cs)[k]? = some (some (m, c)) →
    ∃ v pm, vs[k]? = some v ∧ ps[k]? = some pm ∧ m = mdOf pm ∧ ((∃ d, c = .val d ∧ Rp M.K F v d ∧ sl[k]? = some none) ∨ ∃ i m', s[i]? = some (some (m', c)) ∧ σ[i]? = some (some v) ∧ sl[k]? = some (some i) ∧ (pm = .r ∨ (pm = .i ∧ m' ≠ .ro ∧ inAt ps = some k))) := by
  induction h with
  | nil => intro k m c h; simp [argEnv] at h
  | @v w d ps vs cs sl r _ ih =>
    intro k m c h
    rw [argEnv_cons] at h
    cases k with
    | zero =>
      simp only [List.getElem?_cons_zero, Option.some.injEq, Prod.mk.injEq] at h
      obtain ⟨rfl, rfl⟩ := h
      exact ⟨w, _, rfl, rfl, rfl, .inl ⟨d, rfl, r, rfl⟩⟩
    | succ k =>
      obtain ⟨v, pm, h1, h2, h3, h4⟩ := ih k m c h
      refine ⟨v, pm, h1, h2, h3, h4.imp id fun ⟨i, m', a, b, c', d'⟩ => ⟨i, m', a, b, c', d'.imp id fun ⟨e1, e2, e3⟩ => ⟨e1, e2, by simp [inAt, e3]⟩⟩⟩
  | @r w d ps vs cs sl r _ ih =>
    intro k m c h
    rw [argEnv_cons] at h
    cases k with
    | zero =>
      simp only [List.getElem?_cons_zero, Option.some.injEq, Prod.mk.injEq] at h
      obtain ⟨rfl, rfl⟩ := h
      exact ⟨w, _, rfl, rfl, rfl, .inl ⟨d, rfl, r, rfl⟩⟩
    | succ k =>
      obtain ⟨v, pm, h1, h2, h3, h4⟩ := ih k m c h
      refine ⟨v, pm, h1, h2, h3, h4.imp id fun ⟨i, m', a, b, c', d'⟩ => ⟨i, m', a, b, c', d'.imp id fun ⟨e1, e2, e3⟩ => ⟨e1, e2, by simp [inAt, e3]⟩⟩⟩
  | @rb w i m0 c0 ps vs cs sl e1 e2 _ _ ih =>
    intro k m c h
    rw [argEnv_cons] at h
    cases k with
    | zero =>
      simp only [List.getElem?_cons_zero, Option.some.injEq, Prod.mk.injEq] at h
      obtain ⟨rfl, rfl⟩ := h
      exact ⟨w, _, rfl, rfl, rfl, .inr ⟨i, m0, e1, e2, rfl, .inl rfl⟩⟩
    | succ k =>
      obtain ⟨v, pm, h1, h2, h3, h4⟩ := ih k m c h
      refine ⟨v, pm, h1, h2, h3, h4.imp id fun ⟨i, m', a, b, c', d'⟩ => ⟨i, m', a, b, c', d'.imp id fun ⟨e1, e2, e3⟩ => ⟨e1, e2, by simp [inAt, e3]⟩⟩⟩
  | @ib w i m0 c0 ps vs cs sl e1 hm e2 _ hno _ ih =>
    intro k m c h
    rw [argEnv_cons] at h
    cases k with
    | zero =>
      simp only [List.getElem?_cons_zero, Option.some.injEq, Prod.mk.injEq] at h
      obtain ⟨rfl, rfl⟩ := h
      exact ⟨w, _, rfl, rfl, rfl, .inr ⟨i, m0, e1, e2, rfl, .inr ⟨rfl, hm, rfl⟩⟩⟩
    | succ k =>
      obtain ⟨v, pm, h1, h2, h3, h4⟩ := ih k m c h
      refine ⟨v, pm, h1, h2, h3, h4.imp id fun ⟨i, m', a, b, c', d'⟩ => ⟨i, m', a, b, c', d'.imp id fun ⟨e1, e2, e3⟩ => ?_⟩⟩
      rw [hno] at e3
      cases e3
def ascOf (sl : List (Option Nat)) (as : Nat → List Addr) : Nat → List Addr := fun k => match sl[k]? with
  | some (some i) => as i
  | _ => []
theorem argEnv_len : ∀ (ps : List PM) (cs : List Cell), cs.length = ps.length → (argEnv ps cs).length = ps.length
  | [], [], _ => rfl
  | m :: ps, c :: cs, h => by
    rw [argEnv_cons, List.length_cons, List.length_cons, argEnv_len ps cs (Nat.succ.inj h)]
  | [], _ :: _, h => by cases h
  | _ :: _, [], h => by cases h
/-- the callee's frame -/
theorem StA.callee {ps : List PM} {vs : List V} {cs : List Cell} {sl : List (Option Nat)} (S : StA M.K G as F s σ H) (R : ArgsR M.K F s σ ps vs cs sl) :
    StA M.K ⟨F, H, muOf ps (ascOf sl as), [], rsOf ps (ascOf sl as), vs.map some⟩ (ascOf sl as) F (argEnv ps cs) (vs.map some) H where
  len := by rw [argEnv_len ps cs R.lens.2.1, List.length_map, R.lens.1]
  cell := fun k m c e => by
    obtain ⟨v, pm, h1, h2, h3, h4⟩ := R.at k m c e
    refine ⟨v, by rw [List.getElem?_map, h1]; rfl, ?_⟩
    rcases h4 with ⟨d, rfl, r, hs⟩ | ⟨i, m', e1, e2, hs, _⟩
    · unfold ascOf
      rw [hs]
      exact .val r
    · unfold ascOf
      rw [hs]
      obtain ⟨v', hv, rc⟩ := S.cell _ _ _ e1
      rw [e2] at hv
      cases hv
      exact rc
  emp := fun k h => by
    unfold ascOf
    split
    · rename_i i hs
      have hk : k < ps.length := by rw [← R.lens.2.2]; exact (List.getElem?_eq_some_iff.mp hs).1
      have hk2 : k < (argEnv ps cs).length := by rw [argEnv_len ps cs R.lens.2.1]; exact hk
      cases e : (argEnv ps cs)[k]? with
      | none => rw [List.getElem?_eq_none_iff] at e; omega
      | some o =>
        cases o with
        | some mc => exact absurd e (h mc.1 mc.2)
        | none =>
          exfalso
          have : ∀ (ps : List PM) (cs : List Cell) (k : Nat), (argEnv ps cs)[k]? ≠ some none := by
            intro ps cs k z
            unfold argEnv at z
            rw [List.getElem?_map, Option.map_eq_some_iff] at z
            obtain ⟨x, _, y⟩ := z
            cases y
          exact this ps cs k e
    · rfl
  dis := fun j k p hj hk => by
    unfold ascOf at hj hk
    split at hj
    · rename_i i hi
      split at hk
      · rename_i i' hi'
        have := S.dis i i' p hj hk
        subst this
        exact R.nd j k i hi hi'
      · cases hk
    · cases hj
  nd := fun k => by
    unfold ascOf
    split
    · exact S.nd _
    · exact .nil
  fr := fun k p hp => by
    unfold ascOf at hp
    split at hp
    · exact S.fr _ p hp
    · cases hp
  md := fun k m c p e hp => by
    obtain ⟨v, pm, h1, h2, h3, h4⟩ := R.at k m c e
    have hp0 := hp
    rcases h4 with ⟨d, rfl, r, hs⟩ | ⟨i, m', e1, e2, hs, h5⟩
    · unfold ascOf at hp
      rw [hs] at hp
      cases hp
    · rcases h5 with rfl | ⟨rfl, hm, hin⟩
      · subst h3
        refine .inl ⟨rfl, mem_ownAt.mpr ⟨k, .ro, .val .none, ?_, rfl, hp0⟩⟩
        rw [List.getElem?_map, h2]
        rfl
      · subst h3
        refine .inr (.inr (.inl ⟨rfl, ?_⟩))
        show p ∈ muOf ps (ascOf sl as)
        unfold muOf
        rw [hin]
        exact hp0
  same := S.same
  f0 := .refl _
  fnew := fun q h => .inl h
  fra := fun q o _ e => e
  dom := fun q h => h
  pin := fun k m c _ _ => rfl
/-- behind a call -/
theorem StA.growM0 (S : StA M.K G as F s σ H) (g : GrowM [] F H F' H') : StA M.K G as F' s σ H' := S.grow ⟨g.f, fun q o e => g.h q o (by simp) e, g.s, g.n⟩
theorem StA.growM1 (S : StA M.K G as F s σ H) {i : Nat} {m : Mode} {c c' : Cell} {aO : List Addr} (h : s[i]? = some (some (m, c))) (hm : m ≠ .ro) (g : GrowM (as i) F H F' H') (hv : σ[i]? = some (some v)) (rc : CRel M.K F' H' v c' aO) (nd : aO.Nodup)
    (ho : ∀ p ∈ aO, F' p = none ∧ (p ∈ as i ∨ H p = none)) : StA M.K G (fun j => if j = i then aO else as j) F' (s.set i (some (m, c'))) σ H' := by
  have hi : i < s.length := (List.getElem?_eq_some_iff.mp h).1
  have get : ∀ (j : Nat) m' c2, (s.set i (some (m, c')))[j]? = some (some (m', c2)) → (j = i ∧ m' = m ∧ c2 = c') ∨ (j ≠ i ∧ s[j]? = some (some (m', c2))) := fun j m' c2 q => by
    by_cases z : j = i
    · subst z
      rw [List.getElem?_set_self hi] at q
      cases q
      exact .inl ⟨rfl, rfl, rfl⟩
    · rw [List.getElem?_set_ne (Ne.symm z)] at q
      exact .inr ⟨z, q⟩
  have free0 : ∀ q, H q = none → G.H0 q = none := fun q z => by
    cases e : G.H0 q with
    | none => rfl
    | some o => exact absurd z (S.dom q (by rw [e]; simp))
  exact {
    len := by rw [List.length_set]; exact S.len
    cell := fun j m' c2 q => by
      rcases get j m' c2 q with ⟨rfl, rfl, rfl⟩ | ⟨z, q⟩
      · exact ⟨v, hv, by rw [if_pos rfl]; exact rc⟩
      · rw [if_neg z]
        obtain ⟨w, h1, h2⟩ := S.cell _ _ _ q
        exact ⟨w, h1, h2.mono g.f fun p hp o e => g.h p o (fun y => z (S.dis j i p hp y)) e⟩
    emp := fun j q => by
      by_cases z : j = i
      · subst z
        exact absurd (List.getElem?_set_self hi) (q _ _)
      · rw [if_neg z]
        refine S.emp j fun m' c2 q' => q m' c2 ?_
        rw [List.getElem?_set_ne (Ne.symm z)]
        exact q'
    dis := fun j k p hj hk => by
      have cross : ∀ k, k ≠ i → p ∈ as k → p ∈ aO → False := fun k z h1 h2 => by
        rcases (ho p h2).2 with y | y
        · exact z (S.dis k i p h1 y)
        · exact S.there h1 y
      by_cases z1 : j = i
      · by_cases z2 : k = i
        · rw [z1, z2]
        · rw [if_pos z1] at hj
          rw [if_neg z2] at hk
          exact (cross k z2 hk hj).elim
      · rw [if_neg z1] at hj
        by_cases z2 : k = i
        · rw [if_pos z2] at hk
          exact (cross j z1 hj hk).elim
        · rw [if_neg z2] at hk
          exact S.dis j k p hj hk
    nd := fun j => by
      split
      · exact nd
      · exact S.nd j
    fr := fun j p hj => by
      split at hj
      · exact (ho p hj).1
      · cases q : F' p with
        | none => rfl
        | some o =>
          rcases g.n p (by rw [q]; simp) with z | z | ⟨xs, z⟩
          · exact absurd (S.fr j p hj) z
          · exact absurd z (S.there hj)
          · rename_i zj
            exact absurd z (same_ntup (fun o e => g.h p o (fun y => zj (S.dis j i p hj y)) e) (S.there hj) (S.ntup hj) xs)
    md := fun j m' c2 p q hp => by
      rcases get j m' c2 q with ⟨rfl, rfl, rfl⟩ | ⟨z, q⟩
      · rw [if_pos rfl] at hp
        rcases (ho p hp).2 with y | y
        · exact S.md _ _ _ p h y
        · exact .inr (.inl (free0 p y))
      · rw [if_neg z] at hp
        exact S.md j m' c2 p q hp
    same := g.s
    f0 := S.f0.trans g.f
    fnew := fun q hq => by
      rcases g.n q hq with z | z | z
      · rcases S.fnew q z with y | y | y | ⟨xs, y⟩
        · exact .inl y
        · exact .inr (.inl y)
        · exact .inr (.inr (.inl y))
        · exact .inr (.inr (.inr ⟨xs, g.s _ _ (g.f _ _ (by
            show F q = _
            cases e : F q with
            | none => exact absurd e z
            | some o =>
              have := S.same _ _ e
              rw [y] at this
              rw [← this]))⟩))
      · exact .inr (.inl (free0 q z))
      · exact .inr (.inr (.inr z))
    fra := fun q o hq e => by
      refine g.h q o (fun y => ?_) (S.fra q o hq e)
      rcases S.md i _ _ q h y with z | z | z | z
      · exact hm z.1
      · rw [z] at e; cases e
      · exact hq z.2
      · exact hq z.2.1
    dom := fun q hq => g.d q (S.dom q hq)
    pin := fun j m' c2 q hm' => by
      rcases get j m' c2 q with ⟨rfl, rfl, rfl⟩ | ⟨z, q⟩
      · exact S.pin _ _ _ h hm'
      · exact S.pin j m' c2 q hm' }
theorem HeldA.append {K : PySem.W.Frag} : ∀ {vs ws : List V} {rs qs : List Res}, HeldA K F σ vs rs → HeldA K F σ ws qs → HeldA K F σ (vs ++ ws) (rs ++ qs)
  | _, _, _, _, .nil, h => h
  | _, _, _, _, .cons h t, q => .cons h (t.append q)
end
section
variable {M : Pm} {G : Gh} {W : WX} {F F' : Hp} {σ : L2.St} {Q Q' : VK} {X : Cx} {e a b c : Expr} {ca cb cc : E} {pos : Pos} {es : List Expr} {ces : List E}
/-- from the caller's frame to the callee's promise and back -/
theorem call_core {j : Nat} {as : Nat → List Addr} {s1 : Env} {H1 : Hp} {rs : List Res} {vs : List V} {Ex : XK} {WW : Nat → D → Env → Prop} (S : StA M.K G as F s1 σ H1) (hd : HeldA M.K F σ vs rs)
    (hex : ∀ x p s', WW x p s' → ∀ as' F' H' cls d, Same F F' → StA M.K G as' F' s' σ H' → XRel M x p cls d F' H' → Ex cls d H')
    (h : match argCells s1 (M.Γ.pms j) rs with
      | none => False
      | some (cs, io, s2) => match M.Γ.run j cs with
        | .ok c out => match backIO s2 io out with
          | some s3 => ∀ as' F' H' v aT, Same F F' → StA M.K G as' F' s3 σ H' → RRel M.K G as' F' σ H' v (resOf c) aT → Q v H'
          | none => False
        | .ex x p out => match backIO s2 io out with
          | some s3 => WW x p s3
          | none => False
        | .stk => False) : spD M (M.Γ.pms j) j vs H1 Q Ex := by
  cases e1 : argCells s1 (M.Γ.pms j) rs with
  | none => rw [e1] at h; exact h.elim
  | some t =>
    obtain ⟨cs, io, s2⟩ := t
    rw [e1] at h
    simp only at h
    obtain ⟨as2, F2, sl, o⟩ := args_ok _ _ S hd e1
    refine ⟨cs, F2, ascOf sl as2, o.R.lens.1, o.S.callee o.R, o.R.lens.2.1, ?_⟩
    -- the frame behind the call
    have back : ∀ {out : Option Cell} {F' H' : Hp} {aO : List Addr}, GrowM (muOf (M.Γ.pms j) (ascOf sl as2)) F2 H1 F' H' → OutR M.K (M.Γ.pms j) vs out (muOf (M.Γ.pms j) (ascOf sl as2)) H1 F' H' aO →
        ∃ s3 as3, backIO s2 io out = some s3 ∧ StA M.K G as3 F' s3 σ H' ∧ ∀ i p, p ∈ as3 i → p ∈ aO ∨ p ∈ as2 i := by
      intro out F' H' aO g ho
      unfold OutR at ho
      cases hin : inAt (M.Γ.pms j) with
      | none =>
        rw [hin] at ho
        cases out with
        | some c => exact ho.elim
        | none =>
          have hio : io = none := by
            cases z : io with
            | none => rfl
            | some i =>
              obtain ⟨k, hk, _⟩ := (o.io i).mp z
              rw [hin] at hk
              cases hk
          subst hio
          have g0 : GrowM [] F2 H1 F' H' := by
            unfold muOf at g
            rw [hin] at g
            exact g
          exact ⟨s2, as2, rfl, o.S.growM0 g0, fun i p hp => .inr hp⟩
      | some k =>
        rw [hin] at ho
        cases out with
        | none => exact ho.elim
        | some c =>
          obtain ⟨v, hv, rc, nd, hp⟩ := ho
          obtain ⟨i, hi⟩ := o.R.inSome hin
          have hio : io = some i := (o.io i).mpr ⟨k, hin, hi⟩
          subst hio
          have hk : k < (argEnv (M.Γ.pms j) cs).length := by
            rw [argEnv_len _ _ o.R.lens.2.1, ← o.R.lens.2.2]
            exact (List.getElem?_eq_some_iff.mp hi).1
          have : ∃ m c, (argEnv (M.Γ.pms j) cs)[k]? = some (some (m, c)) := by
            cases q : (argEnv (M.Γ.pms j) cs)[k]? with
            | none => rw [List.getElem?_eq_none_iff] at q; omega
            | some x =>
              cases x with
              | some mc => exact ⟨mc.1, mc.2, rfl⟩
              | none =>
                exfalso
                unfold argEnv at q
                rw [List.getElem?_map, Option.map_eq_some_iff] at q
                obtain ⟨x, _, y⟩ := q
                cases y
          obtain ⟨m, c0, hat⟩ := this
          obtain ⟨w, pm, h1, h2, h3, h4⟩ := o.R.at k m c0 hat
          rw [hv] at h1
          cases h1
          rcases h4 with ⟨d, _, _, hs⟩ | ⟨i', m', e1', e2', hs, h5⟩
          · rw [hi] at hs; cases hs
          · rw [hi] at hs
            cases hs
            have hm : m' ≠ .ro := by
              rcases h5 with rfl | h5
              · exfalso
                have : ∀ {ps : List PM} {k : Nat}, inAt ps = some k → ps[k]? = some .i := by
                  intro ps
                  induction ps with
                  | nil => intro k h; cases h
                  | cons x ps ih =>
                    intro k h
                    cases x with
                    | i => simp only [inAt, Option.some.injEq] at h; subst h; rfl
                    | v =>
                      simp only [inAt, Option.map_eq_some_iff] at h
                      obtain ⟨j, h, rfl⟩ := h
                      exact ih h
                    | r =>
                      simp only [inAt, Option.map_eq_some_iff] at h
                      obtain ⟨j, h, rfl⟩ := h
                      exact ih h
                rw [this hin] at h2
                cases h2
              · exact h5.2.1
            have mu : muOf (M.Γ.pms j) (ascOf sl as2) = as2 i := by
              unfold muOf ascOf
              rw [hin]
              simp only [hi]
            rw [mu] at g hp
            refine ⟨s2.set i (some (m', c)), _, by simp only [backIO, e1'], o.S.growM1 e1' hm g e2' rc nd hp, fun i' p hp' => ?_⟩
            split at hp'
            · exact .inl hp'
            · exact .inr hp'
    cases e2 : M.Γ.run j cs with
    | stk => rw [e2] at h; exact h.elim
    | ok c out =>
      rw [e2] at h
      intro F' H' v aT aO g rc nd hf ho hdis
      obtain ⟨s3, as3, e3, S3, hsub⟩ := back g ho
      simp only [e3] at h
      refine h as3 F' H' v aT (o.f.trans g.f) S3 ?_
      have rr : ∀ c : Cell, CRel M.K F' H' v c aT → RRel M.K G as3 F' σ H' v (resOf c) aT := fun c rc => by
        cases c with
        | val d =>
          cases rc with
          | val r => exact ⟨r, rfl⟩
        | _ =>
          refine ⟨rc, nd, fun p hp => ⟨(hf p hp).1, ?_⟩, fun i p hi hp => ?_⟩
          · cases z : G.H0 p with
            | none => rfl
            | some x => exact absurd (hf p hp).2 (S.dom p (by rw [z]; simp))
          · rcases hsub i p hi with y | y
            · exact hdis p y hp
            · exact o.S.there y (hf p hp).2
      exact rr c rc
    | ex x p out =>
      rw [e2] at h
      intro F' H' cls d aO g ho hx
      obtain ⟨s3, as3, e3, S3, hsub⟩ := back g ho
      simp only [e3] at h
      exact hex x p s3 h as3 F' H' cls d (o.f.trans g.f) S3 hx
/-- how the defaults stand: their values, in the model and as data -/
inductive Dfl : List V → List D → Prop
  | nil : Dfl [] []
  | int {i : Int} {vs : List V} {ds : List D} : Dfl vs ds → Dfl (.int i :: vs) (.int i :: ds)
theorem Dfl.held {K : PySem.W.Frag} : ∀ {vs : List V} {ds : List D}, Dfl vs ds → HeldA K F σ vs (ds.map .val)
  | _, _, .nil => .nil
  | _, _, .int t => .cons (.int _) t.held
theorem ev_call (j : Nat) {x : Str} {p : Pos} {f : Addr} {fd : FuncData} {ps : List Str} {k : Nat} {dvs : List V} {dus : List Value} {ds : List D} (Fn : FnOk X.prog X.w X.K X.mg X.base (L2N.CX X.prog X.w) k f fd ps (spD M (M.Γ.pms j) j)) (hr : Room k X.A) (hg : Gl X x)
    (hm : X.mg x = some (.ref f)) (hk : PySem.W.keepIn X.K (.ref f) = true) (hb : Binds X.K fd ps dus) (hdv : Vals dvs dus) (hdf : Dfl dvs ds) (ha : AR M X (a :: es) ces) (hdb : (x == ("__debug__" : Str)) = false := by decide)
    (he : starEach (a :: es) X.env = (false, eval a X.env) :: starEach es X.env := by rfl) (hpl : (backTo pos (starEach es X.env)).any (·.1) = false := by rfl) : EV M X (.Call (.Name x p) (a :: es) [] pos) (.call j ces ds) := by
  refine ⟨fun W tk => PE.imp (pe_callSD Fn hr hg hm hk hb hdv (fun σ => L2N.passAt tk σ) (ha.run W tk) hdb he hpl) fun σ H Q ⟨G, as, F, s, S, h⟩ => ⟨G, as, F, s, S, ?_⟩⟩
  simp only [ev, fin_false] at h
  refine PostR.bind h fun rs s1 as1 F1 H1 vs e _ S1 R1 h1 => ?_
  refine call_core (WW := fun x p s' => ∀ as' F' H' cls d, Same F1 F' → StA M.K G as' F' s' σ H' → XRel M x p cls d F' H' → W cls d σ H') S1 (R1.append hdf.held) (fun x p s' w => w) ?_
  cases e1 : argCells s1 (M.Γ.pms j) (rs ++ ds.map .val) with
  | none => rw [e1] at h1; exact h1
  | some t =>
    obtain ⟨cs, io, s2⟩ := t
    rw [e1] at h1
    simp only at h1 ⊢
    cases e2 : M.Γ.run j cs with
    | stk => rw [e2] at h1; exact h1
    | ok c out =>
      rw [e2] at h1
      simp only at h1 ⊢
      cases e3 : backIO s2 io out with
      | none => rw [e3] at h1; exact h1
      | some s3 => rw [e3] at h1; exact h1
    | ex x p out =>
      rw [e2] at h1
      simp only at h1 ⊢
      cases e3 : backIO s2 io out with
      | none => rw [e3] at h1; exact h1
      | some s3 => rw [e3] at h1; exact h1
end
end MP

set_option linter.all false
set_option maxRecDepth 100000
set_option maxHeartbeats 2000000
/-! MP: statements. -/
namespace MP
open PySem L2
section
variable {M : Pm} {G : Gh} {W : WX} {F F' : Hp} {σ : L2.St} {Q Q' : VK} {X : Cx} {e a b c : Expr} {ca cb cc : E} {pos : Pos} {es : List Expr} {ces : List E} {D D' : Ends}

/-- what a def answers: its own addresses apart from what is lent to change -/
structure RetOk (M : Pm) (G : Gh) (as : Nat → List Addr) (F : Hp) (s : Env) (H : Hp) (v : V) (c : Cell) (aT : List Addr) : Prop where
  r : CRel M.K F H v c aT
  nd : aT.Nodup
  fr : ∀ p ∈ aT, F p = none ∧ (G.H0 p = none ∨ p ∈ G.fz)
  di : ∀ (k : Nat) (c' : Cell), s[k]? = some (some (.pin, c')) → ∀ p ∈ as k, p ∉ aT
def PostX (M : Pm) (G : Gh) (W : WX) (F : Hp) (x : MP.X) (D : Ends) : Prop := match x with
  | .nx s' => ∀ as' F' σ' H', Same F F' → StA M.K G as' F' s' σ' H' → D.nx σ' H'
  | .ret c s' => ∀ as' F' σ' H' v aT, Same F F' → StA M.K G as' F' s' σ' H' → RetOk M G as' F' s' H' v c aT → D.rt v H'
  | .ex x p s' => ∀ as' F' σ' H' cls d, Same F F' → StA M.K G as' F' s' σ' H' → XRel M x p cls d F' H' → W cls d σ' H'
  | .stk => False
def tS (M : Pm) (W : WX) (cb : List S) : TS := fun D σ H => ∃ G as F s, StA M.K G as F s σ H ∧ PostX M G W F (exs M.Γ cb s) D
def tS1 (M : Pm) (W : WX) (c : S) : TS := fun D σ H => ∃ G as F s, StA M.K G as F s σ H ∧ PostX M G W F (ex1 M.Γ c s) D
structure SS (M : Pm) (X : Cx) (b : List Stmt) (cb : List S) : Prop where
  run : ∀ W, L2N.Takes X W → PassesOwn (model X.prog X.w) X.A X.env X.xe → PSs X b (tS M W cb)
structure S1 (M : Pm) (X : Cx) (b : Stmt) (c : S) : Prop where
  run : ∀ W, L2N.Takes X W → PassesOwn (model X.prog X.w) X.A X.env X.xe → PS X b (tS1 M W c)
theorem PSs.imp {st : List Stmt} {t t' : TS} (h : PSs X st t) (i : ∀ D σ H, t' D σ H → t D σ H) : PSs X st t' := ⟨fun pins s σ H D I q => h.run pins s σ H D I (i _ _ _ q)⟩
theorem PS.imp {st : Stmt} {t t' : TS} (h : PS X st t) (i : ∀ D σ H, t' D σ H → t D σ H) : PS X st t' := ⟨fun pins s σ H D I q => h.run pins s σ H D I (i _ _ _ q)⟩
theorem PostX.mono {x : MP.X} (h : PostX M G W F x D) (s : Same F F') : PostX M G W F' x D := by
  cases x with
  | nx s' => exact fun as' F2 σ' H' sf => h as' F2 σ' H' (s.trans sf)
  | ret c s' => exact fun as' F2 σ' H' v aT sf => h as' F2 σ' H' v aT (s.trans sf)
  | ex x p s' => exact fun as' F2 σ' H' cls d sf => h as' F2 σ' H' cls d (s.trans sf)
  | stk => exact h
theorem PostX.ends {x : MP.X} (h : PostX M G W F x D) (hn : ∀ σ H, D.nx σ H → D'.nx σ H) (hr : ∀ v H, D.rt v H → D'.rt v H) : PostX M G W F x D' := by
  cases x with
  | nx s' => exact fun as' F2 σ' H' sf S => hn _ _ (h as' F2 σ' H' sf S)
  | ret c s' => exact fun as' F2 σ' H' v aT sf S R => hr _ _ (h as' F2 σ' H' v aT sf S R)
  | ex x p s' => exact h
  | stk => exact h
theorem ss_nil : SS M X [] [] := ⟨fun W _ _ => PSs.imp pss_nil fun D σ H ⟨G, as, F, s, S, h⟩ => h as F σ H (.refl _) S⟩
theorem ss_cons {st : Stmt} {rest : List Stmt} {c : S} {cr : List S} (h1 : S1 M X st c) (h2 : SS M X rest cr) : SS M X (st :: rest) (c :: cr) := by
  refine ⟨fun W tk hp => PSs.imp (pss_cons (h1.run W tk hp) (h2.run W tk hp)) fun D σ H ⟨G, as, F, s, S, h⟩ => ⟨G, as, F, s, S, ?_⟩⟩
  simp only [exs] at h
  cases e : ex1 M.Γ c s with
  | nx s' =>
    rw [e] at h
    exact fun as' F' σ' H' sf S' => ⟨G, as', F', s', S', PostX.mono (show PostX M G W F (exs M.Γ cr s') D from h) sf⟩
  | ret c s' => rw [e] at h; exact h
  | ex x p s' => rw [e] at h; exact h
  | stk => rw [e] at h; exact h
/-- an expression, then the rest -/
theorem PostX.then {r : R Res} {f : Res → Env → MP.X} {Q : VK} (h : PostX M G W F (r.thenX f) D)
    (hk : ∀ a s' as' F' H' v aT, r = .ok a s' → Same F F' → StA M.K G as' F' s' σ H' → RRel M.K G as' F' σ H' v a aT → PostX M G W F' (f a s') D → Q v H') : Post M G W F σ r Q := by
  cases r with
  | ok a s' => exact fun as' F' H' v aT sf S R => hk a s' as' F' H' v aT rfl sf S R (PostX.mono h sf)
  | ex x p s' => exact fun as' F' H' cls d sf S R => h as' F' σ H' cls d sf S R
  | stk => exact h
theorem s_expr (he : EV M X e ca) (hs : swapsWith e none pos.line X.env = pure false := by rfl) : S1 M X (.Expr e pos) (.expr ca) := by
  refine ⟨fun W tk hp => PS.imp (ps_expr (he.run W tk) hs) fun D σ H ⟨G, as, F, s, S, h⟩ => ⟨G, as, F, s, S, ?_⟩⟩
  simp only [ex1] at h
  exact PostX.then h fun ra s1 as1 F1 H1 x aT _ _ S1 _ h1 => h1 as1 F1 σ H1 (.refl _) S1
theorem s_pass : S1 M X (.Pass pos) .pass := ⟨fun W _ _ => PS.imp ps_pass fun D σ H ⟨G, as, F, s, S, h⟩ => h as F σ H (.refl _) S⟩
theorem s_retN : S1 M X (.Return none pos) .retN := ⟨fun W _ _ => PS.imp ps_retN fun D σ H ⟨G, as, F, s, S, h⟩ => h as F σ H _ [] (.refl _) S ⟨.val .non, .nil, fun p hp => (by cases hp), fun _ _ _ p _ hp => (by cases hp)⟩⟩
theorem s_ret (he : EV M X e ca) : S1 M X (.Return (some e) pos) (.ret ca) := by
  refine ⟨fun W tk hp => PS.imp (ps_ret (he.run W tk)) fun D σ H ⟨G, as, F, s, S, h⟩ => ⟨G, as, F, s, S, ?_⟩⟩
  simp only [ex1] at h
  refine PostX.then h fun ra s1 as1 F1 H1 x aT _ _ S1 R1 h1 => ?_
  cases ra with
  | val d => exact h1 as1 F1 σ H1 x [] (.refl _) S1 ⟨.val R1.1, .nil, fun p hp => (by cases hp), fun _ _ _ p _ hp => (by cases hp)⟩
  | tmp c => exact h1 as1 F1 σ H1 x aT (.refl _) S1 ⟨R1.1, R1.2.1, fun p hp => ⟨(R1.2.2.1 p hp).1, .inl (R1.2.2.1 p hp).2⟩, fun k c' _ p hk hp => R1.2.2.2 k p hk hp⟩
  | bor i =>
    simp only [retF] at h1
    split at h1
    · rename_i c hc
      split at hc
      · rename_i c0 q
        cases hc
        obtain ⟨v, hv, rc⟩ := S1.cell _ _ _ q
        have hx : σ[i]? = some (some x) := R1.1
        rw [hx] at hv
        cases hv
        refine h1 as1 F1 σ H1 x (as1 i) (.refl _) S1 ⟨rc, S1.nd i, fun p hp => ⟨S1.fr i p hp, ?_⟩, fun k c' hk p hp hp' => ?_⟩
        · rcases S1.md i _ _ p q hp with y | y | y | y
          · cases y.1
          · exact .inl y
          · cases y.1
          · exact .inr y.2.2
        · have := S1.dis k i p hp hp'
          subst this
          rw [q] at hk
          cases hk
      · cases hc
    · exact h1.elim
theorem s_ite {bt be : List Stmt} {ct ce : List S} (hc : TV M X c cc) (ht : SS M X bt ct) (he : SS M X be ce) : S1 M X (.If c bt be pos) (.ite cc ct ce) := by
  refine ⟨fun W tk hp => PS.imp (ps_if (hc.run W tk) (ht.run W tk hp) (he.run W tk hp)) fun D σ H ⟨G, as, F, s, S, h⟩ => ⟨G, as, F, s, S, ?_⟩⟩
  simp only [ex1] at h
  refine PostX.then h fun ra s1 as1 F1 H1 x aT _ _ S1 R1 h1 => ?_
  cases eb : boolR ra with
  | none => rw [eb] at h1; exact h1.elim
  | some k =>
    rw [eb] at h1
    refine ⟨k, (boolR_rel R1 eb).1, ?_⟩
    cases k with
    | true => rw [if_pos rfl]; exact ⟨G, as1, F1, s1, S1, h1⟩
    | false => rw [if_neg Bool.false_ne_true]; exact ⟨G, as1, F1, s1, S1, h1⟩
/-- a store into a slot -/
theorem asg_core {i : Nat} {r : Res} {as : Nat → List Addr} {F : Hp} {s : Env} {H : Hp} {v : V} {aT : List Addr} {cr : Env → MP.X} (S : StA M.K G as F s σ H) (R : RRel M.K G as F σ H v r aT)
    (h : PostX M G W F (match asgF s i r with | some s2 => .nx s2 | none => .stk) D) : D.nx (σ.set i (some v)) H := by
  cases e : asgF s i r with
  | none => rw [e] at h; exact h.elim
  | some s2 =>
    rw [e] at h
    have h : PostX M G W F (.nx s2) D := h
    unfold asgF at e
    split at e
    · cases e
    · cases e
    · rename_i o e1 e2 q
      have hf : freeAt s i := by
        cases o with
        | none => exact .inl q
        | some mc =>
          obtain ⟨m, c⟩ := mc
          cases m with
          | fr => exact .inr ⟨c, q⟩
          | pin => exact absurd rfl (e1 c)
          | ro => exact absurd rfl (e2 c)
      cases r with
      | val d =>
        simp only [Option.some.injEq] at e
        subst e
        exact h _ F _ H (.refl _) (S.putVal hf R.1)
      | tmp c =>
        simp only [Option.some.injEq] at e
        subst e
        exact h _ F _ H (.refl _) (S.put hf R.1 R.2.1 R.2.2.1 R.2.2.2)
      | bor j =>
        simp only [Option.map_eq_some_iff] at e
        obtain ⟨⟨d, s'⟩, e3, rfl⟩ := e
        obtain ⟨as', F', sf, S', rp⟩ := frz_ok (aT := aT) S R e3
        have hf' : freeAt s' i := by
          simp only [frz] at e3
          split at e3
          · rename_i c q'
            rw [Option.map_eq_some_iff] at e3
            obtain ⟨d', _, e4⟩ := e3
            cases e4
            exact hf.set (List.getElem?_eq_some_iff.mp q').1
          · cases e3
        exact h _ F' _ H sf (S'.putVal hf' rp)
    · cases e
theorem s_asg {i : Nat} {x : Str} {pos' : Pos} (hN : X.N.Nodup) (hi : X.N[i]? = some x) (hx : Loc X.env.scope x) (he : EV M X e ca) (hs : swapsWith e (some (.Name x pos')) pos.line X.env = pure false := by rfl)
    (hf : X.fn x = true ∨ X.env.scope.names.lookup x = some .local := by first | exact .inl rfl | exact .inr rfl | assumption) : S1 M X (.Assign [.Name x pos'] e pos) (.asg i ca) := by
  refine ⟨fun W tk hp => PS.imp (ps_set hN hi hx (he.run W tk) hs hf) fun D σ H ⟨G, as, F, s, S, h⟩ => ⟨G, as, F, s, S, ?_⟩⟩
  simp only [ex1] at h
  exact PostX.then h fun ra s1 as1 F1 H1 x aT _ _ S1 R1 h1 => asg_core (cr := fun _ => .stk) S1 R1 h1
/-- name = [..] on one line -/
theorem s_asgLc {i : Nat} {y : Str} {py spos : Pos} {elt tg iter : Expr} {ifs : List Expr} {scope : Scope} {own : List (Str × Nat)} {k : IK} {src : List E} {t : Tg} {celt : E} {cnd : Option E} {tt : TT} (hc : X.calm = true) (hN : X.N.Nodup) (hy : X.N[i]? = some y)
    (hyl : X.env.scope.names.lookup y = some .local) (hsw : swapsWith (.ListComp elt [⟨tg, iter, ifs, 0⟩] scope pos) (some (.Name y py)) spos.line X.env = pure true) (ok : BlkOk X.N X.env.scope scope own)
    (hi : IV M X tg iter k src) (hg : ∀ s H C cl fp, PG (X.blk s H scope (compEnvC scope cl C X.env) fp) tg (tgT t)) (ht : ∀ s H C cl fp, PTs (X.blk s H scope (compEnvC scope cl C X.env) fp) ifs tt) (htt : Cnd M cnd tt)
    (he : ∀ s H C cl fp, EV M (X.blk s H scope (compEnvC scope cl C X.env) fp) elt celt) (hown : ∀ i ∈ t.slots, i ∈ own.map (·.2)) (hf : ∀ x, foldedSetIterable iter X.env x = pure x := by intro _; rfl) :
    S1 M X (.Assign [.Name y py] (.ListComp elt [⟨tg, iter, ifs, 0⟩] scope pos) spos) (.asg i (.comp celt t k src cnd (own.map (·.2)))) := by
  refine ⟨fun W tk hp => PS.imp (ps_setLc hc hN hy hyl hsw (hi.run W tk) ok hg ht (fun s H C cl fp => (he s H C cl fp).run W0 takesN0) hf) fun D σ H ⟨G, as, F, s, S, h⟩ => ?_⟩
  simp only [ex1] at h
  exact comp_core (G := G) (W := W) hown htt (fun _ q => q) S (PostX.then h fun ra s1 as1 F1 H1 x aT _ _ S1 R1 h1 => asg_core (cr := fun _ => .stk) S1 R1 h1)
/-- name = [.. for .. for ..] on one line -/
theorem s_asgLc2 {i : Nat} {y : Str} {py spos : Pos} {elt tg iter tg1 iter1 : Expr} {ifs1 : List Expr} {scope : Scope} {own : List (Str × Nat)} {own2 : List Nat} {k k2 : IK} {src src2 : List E} {t t2 : Tg} {celt : E} {cnd : Option E} {tt : TT} (hc : X.calm = true) (hN : X.N.Nodup) (hy : X.N[i]? = some y)
    (hyl : X.env.scope.names.lookup y = some .local) (hsw : swapsWith (.ListComp elt [⟨tg, iter, [], 0⟩, ⟨tg1, iter1, ifs1, 0⟩] scope pos) (some (.Name y py)) spos.line X.env = pure true) (ok : BlkOk X.N X.env.scope scope own)
    (hi : IV M X tg iter k src) (hg : ∀ s H C cl fp, PG (X.blk s H scope (compEnvC scope cl C X.env) fp) tg (tgT t)) (hi1 : ∀ s H C cl fp, IV M (X.blk s H scope (compEnvC scope cl C X.env) fp) tg1 iter1 k2 src2) (hg1 : ∀ s H C cl fp, PG (X.blk s H scope (compEnvC scope cl C X.env) fp) tg1 (tgT t2))
    (ht1 : ∀ s H C cl fp, PTs (X.blk s H scope (compEnvC scope cl C X.env) fp) ifs1 tt) (htt : Cnd M cnd tt) (he : ∀ s H C cl fp, EV M (X.blk s H scope (compEnvC scope cl C X.env) fp) elt celt) (hown : ∀ i ∈ t.slots, i ∈ own.map (·.2)) (hown2 : ∀ i ∈ t2.slots, i ∈ own2) (h2 : ∀ i ∈ own2, i ∈ own.map (·.2))
    (hf : ∀ x, foldedSetIterable iter X.env x = pure x := by intro _; rfl) (hf1 : ∀ env x, foldedSetIterable iter1 env x = pure x := by intro _ _; rfl) :
    S1 M X (.Assign [.Name y py] (.ListComp elt [⟨tg, iter, [], 0⟩, ⟨tg1, iter1, ifs1, 0⟩] scope pos) spos) (.asg i (.comp2 celt t k src t2 k2 src2 cnd (own.map (·.2)) own2)) := by
  refine ⟨fun W tk hp => PS.imp (ps_setLc2 hc hN hy hyl hsw (hi.run W tk) ok h2 hg (fun _ _ _ _ _ => ts_no) (fun s H C cl fp => (hi1 s H C cl fp).run W0 takesN0) hg1 ht1 (fun s H C cl fp => (he s H C cl fp).run W0 takesN0) hf hf1) fun D σ H ⟨G, as, F, s, S, h⟩ => ?_⟩
  simp only [ex1] at h
  exact comp2_core (G := G) (W := W) hown hown2 h2 htt (fun _ q => q) S (PostX.then h fun ra s1 as1 F1 H1 x aT _ _ S1 R1 h1 => asg_core (cr := fun _ => .stk) S1 R1 h1)
/-! ### for, while -/
theorem loopX_cons {body : Env → MP.X} {t : Tg} {d : MP.D} {ds : List MP.D} {s : Env} (h : PostX M G W F (loopX body t (d :: ds) s) D) : freeI s t.slots = true ∧ ∃ s1, bindT t d s = some s1 ∧ PostX M G W F ((body s1).seq fun s2 => loopX body t ds s2) D := by
  unfold loopX at h
  split at h
  · rename_i hf
    split at h
    · exact h.elim
    · rename_i s1 e
      exact ⟨hf, s1, e, h⟩
  · exact h.elim
/-- a region's end -/
theorem PostX.reg {as : Nat → List Addr} {s : Env} {H : Hp} {x : MP.X} (S : StA M.K G as F s σ H) (h : PostX M G W F x D) : PostX M (G.reg F H s as) W F x D := by
  cases x with
  | nx s' => exact fun as' F' σ' H' sf S' => h as' F' σ' H' sf (S.leave (.refl _) S')
  | ret c s' =>
    refine fun as' F' σ' H' v aT sf S' R => h as' F' σ' H' v aT sf (S.leave (.refl _) S') ⟨R.r, R.nd, fun p hp => ⟨(R.fr p hp).1, ?_⟩, R.di⟩
    rcases (R.fr p hp).2 with z | z
    · refine .inl ?_
      cases e : G.H0 p with
      | none => rfl
      | some o => exact absurd z (S.dom p (by rw [e]; simp))
    · obtain ⟨j, m', c', e', hm, hj⟩ := mem_ownAt.mp z
      rcases S.md j m' c' p e' hj with y | y | y | y
      · rw [y.1] at hm; cases hm
      · exact .inl y
      · rw [y.1] at hm; cases hm
      · exact .inr y.2.2
  | ex x p s' => exact fun as' F' σ' H' cls d sf S' => h as' F' σ' H' cls d sf (S.leave (.refl _) S')
  | stk => exact h
theorem for_core {k : IK} {src : List E} {t : Tg} {cb : List S} {wi : TI} {tb : TS} {as : Nat → List Addr} {s : Env} {H : Hp} (hwi : ∀ Rr, (∃ G as F s, StA M.K G as F s σ H ∧ PostI M G W F σ k (evr M.Γ src s) Rr) → wi σ H Rr)
    (htb : ∀ D σ H, tS M W cb D σ H → tb D σ H) (S : StA M.K G as F s σ H) (h : PostX M G W F (ex1 M.Γ (.for_ t k src cb) s) D) : tFor wi (tgT t) tb D σ H := by
  refine hwi _ ⟨G, as, F, s, S, ?_⟩
  simp only [ex1] at h
  cases e1 : evr M.Γ src s with
  | stk => rw [e1] at h; exact h
  | ex x p s' => rw [e1] at h; exact fun as' F' H' cls d sf S' => h as' F' σ H' cls d sf S'
  | ok rs s1 =>
    rw [e1] at h
    simp only [R.thenX] at h
    simp only [PostI]
    cases e2 : (lookAll s1 rs).bind (itF k) with
    | none => rw [e2] at h; exact h.elim
    | some items =>
      rw [e2] at h
      simp only at h
      cases e3 : srcE k s1 rs with
      | none => rw [e3] at h; exact h.elim
      | some s2 =>
        rw [e3] at h
        simp only at h
        intro as1 F1 H1 J sf1 S1 wd
        obtain ⟨st, hst, wk⟩ := wd
        have h1 := PostX.reg S1 (PostX.mono h sf1)
        refine for_it wk (fun i σ' H' => ∃ (asi : Nat → List Addr) (Fi : Hp) (si : Env), StA M.K (G.reg F1 H1 s2 as1) asi Fi si σ' H' ∧ Same F1 Fi ∧ PostX M (G.reg F1 H1 s2 as1) W Fi (loopX (fun se => exs M.Γ cb se) t (items.drop i) si) D) ?_ ?_ ?_ ?_
        · exact ⟨as1, F1, s2, S1.enter (.refl _) S1.same, .refl _, h1⟩
        · rintro i σ' H' _ ⟨asi, Fi, si, Si, sfi, _⟩
          refine hst H' (sfi.trans Si.same) fun i' m' c' q o e' hm' hj' hq => Si.still hq fun j m c e hm hj => ?_
          have ej : j = i' := S1.dis j i' q hj hj'
          subst ej
          rw [e] at e'
          cases e'
          rw [hm] at hm'
          cases hm'
        · rintro i x σ' H2 _ hi ⟨asi, Fi, si, Si, sfi, hp⟩ ⟨rfl, d, hd, rx⟩
          have ed : items.drop i = d :: items.drop (i + 1) := by
            rw [List.drop_eq_getElem_cons hi]
            congr 1
            rw [List.getElem?_eq_getElem hi] at hd
            exact Option.some.inj hd
          rw [ed] at hp
          obtain ⟨hf, s1', eb, hp⟩ := loopX_cons hp
          refine bindT_ok Si (freeI_at hf) (rx.mono sfi) eb fun as' σ2 S2 _ _ => htb _ _ _ ⟨_, as', Fi, s1', S2, ?_⟩
          cases e5 : exs M.Γ cb s1' with
          | nx s3 =>
            rw [e5] at hp
            exact fun as' F' σ' H' sf S' => ⟨as', F', s3, S', sfi.trans sf, PostX.mono (show PostX M (G.reg F1 H1 s2 as1) W Fi (loopX (fun se => exs M.Γ cb se) t (items.drop (i + 1)) s3) D from hp) sf⟩
          | ret c s3 => rw [e5] at hp; exact hp
          | ex x p s3 => rw [e5] at hp; exact hp
          | stk => rw [e5] at hp; exact hp
        · rintro σ' H2 ⟨asi, Fi, si, Si, sfi, hp⟩
          rw [List.drop_length] at hp
          exact hp asi Fi σ' H2 (.refl _) Si
theorem s_for {tg iter : Expr} {b : List Stmt} {k : IK} {src : List E} {t : Tg} {cb : List S} (hc : X.calm = true) (hi : IV M X tg iter k src) (hg : PG X tg (tgT t)) (hb : SS M X b cb) (hf : ∀ x, foldedSetIterable iter X.env x = pure x := by intro _; rfl) :
    S1 M X (.For tg iter b [] pos) (.for_ t k src cb) :=
  ⟨fun W tk hp => PS.imp (ps_for hp hc (hi.run W tk) hg (hb.run W tk hp) hf) fun D σ H ⟨G, as, F, s, S, h⟩ => for_core (fun _ q => q) (fun _ _ _ q => q) S h⟩
theorem s_whl {b : List Stmt} {cb : List S} (hc : TV M X c cc) (hb : SS M X b cb) : S1 M X (.While c b [] pos) (.whl cc cb) := by
  refine ⟨fun W tk hp => PS.imp (ps_while hp (hc.run W tk) (hb.run W tk hp)) fun D σ H ⟨G, as, F, s, S, h⟩ => ?_⟩
  simp only [ex1] at h
  refine ⟨fun n σ' H' => ∃ as' F' s', StA M.K G as' F' s' σ' H' ∧ PostX M G W F' (whileX (fun se => ev M.Γ true cc se) (fun se => exs M.Γ cb se) n s') D, ⟨_, as, F, s, S, h⟩, ?_⟩
  rintro n σ1 H1 ⟨as1, F1, s1, S1, h1⟩
  cases n with
  | zero => exact h1.elim
  | succ n =>
    simp only [whileX] at h1
    refine ⟨G, as1, F1, s1, S1, PostX.then h1 fun ra s2 as2 F2 H2 x aT _ sf2 S2 R2 h2 => ?_⟩
    cases eb : boolR ra with
    | none => rw [eb] at h2; exact h2.elim
    | some k =>
      rw [eb] at h2
      refine ⟨k, (boolR_rel R2 eb).1, ?_⟩
      cases k with
      | false =>
        rw [if_neg Bool.false_ne_true]
        exact h2 as2 F2 σ1 H2 (.refl _) S2
      | true =>
        rw [if_pos rfl]
        refine ⟨fun σ' H' => ∃ as' F' s', StA M.K G as' F' s' σ' H' ∧ PostX M G W F' (whileX (fun se => ev M.Γ true cc se) (fun se => exs M.Γ cb se) n s') D, fun σ' H' q => ⟨n, Nat.lt_succ_self n, q⟩, G, as2, F2, s2, S2, ?_⟩
        simp only at h2
        cases e5 : exs M.Γ cb s2 with
        | nx s3 =>
          rw [e5] at h2
          exact fun as' F' σ' H' sf S' => ⟨as', F', s3, S', PostX.mono (show PostX M G W F2 (whileX (fun se => ev M.Γ true cc se) (fun se => exs M.Γ cb se) n s3) D from h2) sf⟩
        | ret c s3 => rw [e5] at h2; exact h2
        | ex x p s3 => rw [e5] at h2; exact h2
        | stk => rw [e5] at h2; exact h2

/-! ### x[k] = e -/
theorem s_asgI {i : Nat} {x : Str} {p1 p2 : Pos} {k : Expr} {ck : E} (hN : X.N[i]? = some x) (hv : Vis X.env.scope x) (he : EV M X e ca) (hk : EV M X k ck) (hd : (x == ("__debug__" : Str)) = false := by decide) (hcd : (x == ("__classdict__" : Str)) = false := by decide)
    (ha : ∀ v, assign (.Subscript (.Name x p1) k p2) X.env v = (do
      let ov ← holding [v] (eval (.Name x p1) X.env)
      let iv ← holding [v, ov] (eval k X.env)
      standAt p2
      holding [v, ov, iv] (setItem ov iv v)
      release [v, ov, iv] []) := by intro _; rfl)
    (hs : swapsWithSole [.Subscript (.Name x p1) k p2] e pos.line X.env = pure false := by rfl) (hw : swappedStores [.Subscript (.Name x p1) k p2] e X.env = pure none := by rfl)
    (h1 : (assignEach [.Subscript (.Name x p1) k p2] X.env).map (·.2) = [assign (.Subscript (.Name x p1) k p2) X.env] := by rfl) : S1 M X (.Assign [.Subscript (.Name x p1) k p2] e pos) (.asgI i ck ca) := by
  refine ⟨fun W tk hp => PS.imp (ps_asg (he.run W tk) (pg_sub (pe_var (i := i) hN hv hd hcd) (hk.run W tk) set_list ha) hs hw h1) fun D σ H ⟨G, as, F, s, S, h⟩ => ⟨G, as, F, s, S, ?_⟩⟩
  simp only [ex1, evs] at h
  cases e1 : ev M.Γ false ca s with
  | stk => rw [e1] at h; exact h
  | ex x p s' => rw [e1] at h; exact fun as' F' H' cls d sf S' R => h as' F' σ H' cls d sf S' R
  | ok r s1 =>
    intro as1 F1 H1 v aT sf1 S1 R1
    rw [e1] at h
    simp only [R.bind] at h
    cases e2 : frz s1 r with
    | none => rw [e2] at h; exact h.elim
    | some ds2 =>
      obtain ⟨d, s2⟩ := ds2
      rw [e2] at h
      obtain ⟨as2, F2, sf2, S2, rp⟩ := frz_ok S1 R1 e2
      have h : PostX M G W F (match s2[i]? with
        | some (some (_, .lst _)) => (ev M.Γ false ck s2).thenX fun rk s3 => match s3[i]?, look s3 rk, [d] with
          | some (some (md, .lst xs)), some (.int j), [d] => if md = .ro then .stk else match ixN xs.length j with
            | some n => .nx (s3.set i (some (md, .lst (xs.set n d))))
            | none => .stk
          | _, _, _ => .stk
        | _ => .stk) D := h
      split at h
      · rename_i md0 xs0 q0
        obtain ⟨w, hw, rc⟩ := S2.cell _ _ _ q0
        generalize as2 i = l0 at rc
        cases rc with
        | @lst l _ _ hl rr =>
          refine ⟨.ref l, hw, G, as2, F2, s2, S2, PostX.then (PostX.mono h (sf1.trans sf2)) fun rk s3 as3 F3 H3 y bT _ sf3 S3 R3 h3 => ?_⟩
          split at h3
          · rename_i md xs j d' q3 e3 ed
            cases ed
            split at h3
            · exact h3.elim
            · rename_i hm
              split at h3
              · rename_i n hn
                obtain ⟨w', hw', rc'⟩ := S3.cell _ _ _ q3
                rw [hw] at hw'
                cases hw'
                generalize as3 i = l1 at rc'
                cases rc' with
                | @lst _ ws _ hl' rr' =>
                  refine ⟨l, ws, j, n, rfl, S3.rt R3 e3, hl', by rw [rr'.length]; exact hn, ?_⟩
                  exact h3 as3 F3 σ _ (.refl _) (S3.change q3 hm hw (RpA.set (rp.mono sf3) n rr'))
              · exact h3.elim
          · exact h3.elim
      · exact h.elim
/-! ### a, b = .. -/
/-- from a tuple's parts into slots -/
theorem s_asgT {es : List Expr} {k : Nat} {is : List Nat} {tpos : Pos} (he : EV M X e ca) (hg : PG X (.Tuple es k tpos) (tgT (.tup is))) (hs : swapsWithSole [.Tuple es k tpos] e pos.line X.env = pure false := by rfl) (hw : swappedStores [.Tuple es k tpos] e X.env = pure none := by rfl)
    (h1 : (assignEach [.Tuple es k tpos] X.env).map (·.2) = [assign (.Tuple es k tpos) X.env] := by rfl) : S1 M X (.Assign [.Tuple es k tpos] e pos) (.asgT is ca false) := by
  refine ⟨fun W tk hp => PS.imp (ps_asg (he.run W tk) hg hs hw h1) fun D σ H ⟨G, as, F, s, S, h⟩ => ⟨G, as, F, s, S, ?_⟩⟩
  simp only [ex1] at h
  refine PostX.then h fun ra s1 as1 F1 H1 x aT _ _ S1 R1 h1 => ?_
  split at h1
  · rename_i ds el
    split at h1
    · rename_i hf
      split at h1
      · rename_i s2 e2
        obtain ⟨p, xs, rfl, hp, rr⟩ := S1.rt R1 el
        simp only [Bool.false_eq_true, if_false] at e2
        obtain ⟨hl, as2, S2, _⟩ := StA.setAll is ds S1 (freeI_at hf) rr e2
        exact ⟨p, xs, rfl, hp, hl, h1 as2 F1 _ H1 (.refl _) S2⟩
      · exact h1.elim
    · exact h1.elim
  · exact h1.elim
/-- plain local names and their slots -/
inductive Nms (X : Cx) : List Str → List Nat → Prop
  | nil : Nms X [] []
  | cons {x : Str} {i : Nat} {ns : List Str} {is : List Nat} : X.N[i]? = some x → X.env.scope.names.lookup x = some .local → Nms X ns is → Nms X (x :: ns) (i :: is)
theorem Nms.app : ∀ {ns ms : List Str} {is js : List Nat}, Nms X ns is → Nms X ms js → Nms X (ns ++ ms) (is ++ js)
  | _, _, _, _, .nil, h => h
  | _, _, _, _, .cons a b c, h => .cons a b (c.app h)
theorem Nms.rev : ∀ {ns : List Str} {is : List Nat}, Nms X ns is → Nms X ns.reverse is.reverse
  | _, _, .nil => .nil
  | _, _, .cons a b c => by
    rw [List.reverse_cons, List.reverse_cons]
    exact c.rev.app (.cons a b .nil)
theorem Nms.length : ∀ {ns : List Str} {is : List Nat}, Nms X ns is → ns.length = is.length
  | _, _, .nil => rfl
  | _, _, .cons _ _ c => by rw [List.length_cons, List.length_cons, c.length]
theorem bind_all {pins : List (Addr × Obj)} {E₁ : Value → Shared → Prop} {A₁ : Around} {M₁ : Model} {H : Hp} {Q : Unit → Shared → Prop} (hN : X.N.Nodup) : ∀ {ns : List Str} {is : List Nat} {vs : List V} {us : List Value} {σ : L2.St} {s : Shared}, Nms X ns is → Vals vs us → vs.length = is.length →
    Inv X pins σ H s → (∀ s', Inv X pins (setVs σ is vs) H s' → Q () s') → wpAny M₁ A₁ (assignInOrder (ns.map fun n => bindName X.env n) us) Q E₁ s
  | _, _, _, _, σ, s, .nil, .nil, _, I, q => PyProof.Rows.assignInOrder_nil (q s I)
  | _, _, _, _, σ, s, .cons h1 h2 h3, .cons r t, hl, I, q => PyProof.Rows.assignInOrder_cons (wpAny_bindName (store_ok I hN h1 (.inl h2) r (fun s2 I2 => bind_all hN h3 t (Nat.succ.inj hl) I2 q) (.inr h2)))
  | _, _, _, _, _, _, .nil, .cons _ _, hl, _, _ => by cases hl
  | _, _, _, _, _, _, .cons _ _ _, .nil, hl, _, _ => by cases hl
theorem Vals.rev : ∀ {vs : List V} {us : List Value}, Vals vs us → Vals vs.reverse us.reverse
  | _, _, .nil => .nil
  | _, _, .cons r t => by
    rw [List.reverse_cons, List.reverse_cons]
    exact (Vals.rev t).append (.cons r .nil)
theorem ps_swapT {elts : List Expr} {k : Nat} {tpos : Pos} {names : List Str} {is : List Nat} {te : TE} (hc : X.calm = true) (hN : X.N.Nodup) (hn : Nms X names is) (he : PE X e te) (hw : swappedStores [.Tuple elts k tpos] e X.env = pure (some names))
    (hs : swapsWithSole [.Tuple elts k tpos] e pos.line X.env = pure false := by rfl) :
    PS X (.Assign [.Tuple elts k tpos] e pos) (fun D σ H => te σ H fun v H1 => ∃ p xs, v = .ref p ∧ H1 p = some (.tup xs) ∧ xs.length = is.length ∧ D.nx (setVs σ is.reverse xs.reverse) H1) := by
  refine ⟨fun pins s σ H D I h => PyProof.Rows.Assign_Tuple_swapped (thn (he.run pins s σ H _ I h) fun v s1 ⟨x, H1, I1, rx, p, xs, ex, hp, hl, q⟩ => ?_) hs hw⟩
  subst ex
  cases rx
  obtain ⟨us, rv, ht, _⟩ := I1.tuple (.of hp)
  rw [show names.length = us.toArray.size by rw [hn.length, ← hl, rv.length, List.size_toArray]]
  refine PyProof.Rows.unpackItems_tuple (I.ok.hd hc) ht (fun h' hx => ?_)
  have I2 : Inv X pins σ H1 { s1 with heap := h' } := I1.kept (t' := s1.toks) fun b o e => hx b o (Nat.ne_of_lt (Heap.lt_size e)) e
  exact bind_all hN hn.rev (Vals.rev (by simpa using rv)) (by simp [hl]) I2 fun s' I' => ⟨_, H1, I', q⟩
theorem s_swapT {elts : List Expr} {k : Nat} {tpos : Pos} {names : List Str} {is : List Nat} (hc : X.calm = true) (hN : X.N.Nodup) (hn : Nms X names is) (he : EV M X e ca) (hw : swappedStores [.Tuple elts k tpos] e X.env = pure (some names))
    (hs : swapsWithSole [.Tuple elts k tpos] e pos.line X.env = pure false := by rfl) : S1 M X (.Assign [.Tuple elts k tpos] e pos) (.asgT is ca true) := by
  refine ⟨fun W tk hp => PS.imp (ps_swapT hc hN hn (he.run W tk) hw hs) fun D σ H ⟨G, as, F, s, S, h⟩ => ⟨G, as, F, s, S, ?_⟩⟩
  simp only [ex1] at h
  refine PostX.then h fun ra s1 as1 F1 H1 x aT _ _ S1 R1 h1 => ?_
  split at h1
  · rename_i ds el
    split at h1
    · rename_i hf
      split at h1
      · rename_i s2 e2
        obtain ⟨p, xs, rfl, hp, rr⟩ := S1.rt R1 el
        simp only [if_true] at e2
        obtain ⟨hl, as2, S2, _⟩ := StA.setAll is.reverse ds.reverse S1 (fun i hi => freeI_at hf i (List.mem_reverse.mp hi)) rr.reverse e2
        exact ⟨p, xs, rfl, hp, by simpa using hl, h1 as2 F1 _ H1 (.refl _) S2⟩
      · exact h1.elim
    · exact h1.elim
  · exact h1.elim
end
end MP

set_option linter.all false
set_option maxRecDepth 100000
set_option maxHeartbeats 2000000
/-! MP: own exceptions, defs, the law's end. -/
namespace MP
open PySem L2
section
variable {M : Pm} {G : Gh} {W : WX} {F F' : Hp} {σ : L2.St} {Q Q' : VK} {X : Cx} {e a b c : Expr} {ca cb cc : E} {pos : Pos} {es : List Expr} {ces : List E} {D D' : Ends}
/-- the value of class c: an own one, or ValueError -/
def cvOf (M : Pm) (c : Nat) : Value := if c < M.nx then .ref (M.xc c) else .type "ValueError"
/-- what the written part says of the own exception classes -/
structure XF (M : Pm) : Prop where
  exm : ∀ x, x < M.nx → ∀ c, c < M.nx → PySem.W.exmOne M.K (.ref (M.xc x)) (.ref (M.xc c)) = some (M.Γ.sub x c)
  kit : ∀ x, x < M.nx → ∀ c, c ≤ M.nx → PySem.W.kitOne M.K (.ref (M.xc x)) (cvOf M c) = some (M.Γ.sub x c)
  cls : ∀ x, x < M.nx → ExcC M.K (M.xc x)
/-- C(e) -/
theorem pmk_n {C : Addr} {nm : Str} {ta : TE} {p : Pos} (q : PySem.W.excIn X.K C [Value.type "ValueError", Value.type "Exception", Value.type "BaseException", Value.type "object"] "ValueError.__new__" = true) (gC : X.mg nm = some (.ref C)) (kC : PySem.W.keepIn X.K (.ref C) = true)
    (r : Raises X (.ref C)) (hg : Gl X nm) (he : PE X e ta) (hs : starEach [e] X.env = (false, eval e X.env) :: starEach [] X.env) (hdb : (nm == ("__debug__" : Str)) = false) :
    L2N.PMk X (.Call (.Name nm p) [e] [] pos) (fun σ H Q => ta σ H fun _ H1 => Q (.ref C) none H1) := fun pins s σ H Q I h => by
  refine wpAny_Call_Name_kw (ld_glob I hg gC (PySem.W.callWith_K (h₀ := X.base) I.ok.mod.kin kC ?_ hs (by rfl)) hdb)
  have two : starEach [e] X.env = (false, eval e X.env) :: starEach [] X.env := hs
  rw [two]
  refine PySem.Calls.spliced_cons (thn (he.run pins s σ H _ I h) fun u s1 z => PySem.Calls.spliced_nil ?_)
  obtain ⟨v, H1, I1, r1, q1⟩ := z
  obtain ⟨bm, N, n', qn, bs, hd, sn, sb, ab, col, dd, k0, k1, k2, k3, k5, mN, hC, hN, hni, T⟩ := exc_obj I1.kIn q
  exact ⟨I1.kIn, wpAny_call_exc_subT PySem.F.excBase_ValueError T hC hN hni (fun h' e hm => L2N.mk_of I1 hm r q1 (I1.hok.gone hm.new)) (by show 1 ≤ sizeLine; rw [sizeLine_eq]; decide)⟩
/-- raise C(e) -/
theorem s_raise {x : Nat} {nm : Str} {p pos2 : Pos} (hx : x < M.nx) (q : PySem.W.excIn X.K (M.xc x) [Value.type "ValueError", Value.type "Exception", Value.type "BaseException", Value.type "object"] "ValueError.__new__" = true) (gC : X.mg nm = some (.ref (M.xc x))) (kC : PySem.W.keepIn X.K (.ref (M.xc x)) = true)
    (r1 : PySem.W.subIn X.K (.ref (M.xc x)) (.type "BaseException") = some true) (r2 : PySem.W.typeIn X.K (.ref (M.xc x)) = some (.type "type")) (hc : X.calm = true) (hg : Gl X nm) (he : EV M X e ca)
    (hs : starEach [e] X.env = (false, eval e X.env) :: starEach [] X.env := by rfl) (hdb : (nm == ("__debug__" : Str)) = false := by decide) :
    S1 M X (.Raise (some (.Call (.Name nm p) [e] [] pos)) none pos2) (.raise x ca) := by
  refine ⟨fun W tk hp => PS.imp (L2N.ps_raise hc tk (pmk_n q gC kC (raises_own r1 r2) hg (he.run W tk) hs hdb)) fun D σ H ⟨G, as, F, s, S, h⟩ => ⟨G, as, F, s, S, ?_⟩⟩
  simp only [ex1] at h
  exact PostX.then h fun ra s1 as1 F1 H1 v aT _ _ S1 R1 h1 => h1 as1 F1 σ H1 _ none (.refl _) S1 ⟨hx, rfl, rfl⟩
/-- what an except suite answers of its error -/
def tH (M : Pm) (i : Nat) (a : Addr) (cls : Value) (d : Option Addr) (h : HE) : TE := fun σ H Q => (i < σ.length → σ[i]? = some (some (.ref a))) ∧ ∃ x p F dd, Same F H ∧ XRel M x p cls d F H ∧ hv M.Γ.sub x p h = some dd ∧ ∀ v F' H', Grow F H F' H' → Rp M.K F' v dd → Q v H'
structure HV (M : Pm) (X : Cx) (i : Nat) (e : Expr) (h : HE) : Prop where
  run : ∀ (a : Addr) (oe : Obj) (cls : Value) (d : Option Addr) (pn : List (Addr × Obj)), L2N.Zn cls d oe → (∃ vs, oe.data = .fields vs) → PE (X.suite a ((a, oe) :: pn)) e (tH M i a cls d h)
theorem try_core {cb : List S} {c : Nat} {h : HE} {W' : WX} {as : Nat → List Addr} {s : Env} {H : Hp} (S : StA M.K G as F s σ H)
    (hw : ∀ x p cls d F H σ, Same F H → XRel M x p cls d F H → (M.Γ.sub x c = true → (∃ dd, hv M.Γ.sub x p h = some dd ∧ ∀ v F' H', Grow F H F' H' → Rp M.K F' v dd → D.rt v H') → W' cls d σ H) ∧ (M.Γ.sub x c = false → W cls d σ H → W' cls d σ H))
    (h0 : PostX M G W F (ex1 M.Γ (.tryR cb c h) s) D) : tS M W' cb D σ H := by
  refine ⟨G, as, F, s, S, ?_⟩
  simp only [ex1] at h0
  cases e1 : exs M.Γ cb s with
  | nx s' => rw [e1] at h0; exact h0
  | ret c s' => rw [e1] at h0; exact h0
  | stk => rw [e1] at h0; exact h0
  | ex x p s' =>
    rw [e1] at h0
    intro as' F' σ' H' cls d sf S' xr
    obtain ⟨h1, h2⟩ := hw x p cls d F' H' σ' S'.same xr
    cases eb : M.Γ.sub x c with
    | false =>
      simp only [eb, Bool.false_eq_true, if_false] at h0
      exact h2 eb (h0 as' F' σ' H' cls d sf S' xr)
    | true =>
      simp only [eb, if_true] at h0
      cases ed : hv M.Γ.sub x p h with
      | none => rw [ed] at h0; exact h0.elim
      | some dd =>
        rw [ed] at h0
        exact h1 eb ⟨dd, ed, fun v F2 H2 g r => h0 as' F2 σ' H2 v [] (sf.trans g.f) (S'.grow g) ⟨.val r, .nil, fun p hp => (by cases hp), fun _ _ _ p _ hp => (by cases hp)⟩⟩
/-- try: .. except C as n: return e -/
theorem s_tryR {x n : Str} {i c : Nat} {body : List Stmt} {cb : List S} {h : HE} {np rp pos' : Pos} (xf : XF M) (hK : X.K = M.K) (hcn : c < M.nx) (hs : X.stack = X.env :: X.outer) (hf : X.env.frame = some X.env.locals) (hN : X.N.Nodup) (hi : X.N[i]? = some n) (hln : X.env.kindOf n = some .local)
    (hc : Names X x (.ref (M.xc c))) (hl : i < X.N.length) (hb : ∀ pn xe, SS M (X.tr pn xe) body cb) (hh : HV M X i e h) :
    S1 M X (.Try body [.ExceptHandler (some (.Name x np)) (some n) [.Return (some e) rp] pos'] [] [] pos) (.tryR cb c h) := by
  refine ⟨fun W tk hp => ?_⟩
  have q := L2N.ps_try_as (i := i) (ts := fun a cls d => tRet (tH M i a cls d h)) (tb := fun W => tS M W cb) (pos := pos) (pos' := pos') (np := np) hs hf hN hi hln hc tk (fun W pn xe tk hp => (hb pn xe).run W tk hp) (fun a oe cls d pn hz hd => pss_one (ps_ret (pos := rp) (hh.run a oe cls d pn hz hd)))
  refine ⟨fun pins s σ H D I ⟨G, as, F, s', S, h0⟩ => q.run pins s σ H D I (try_core S (fun x p cls d F1 H1 σ1 sf xr => ⟨fun eb z0 => ?_, fun eb w => ?_⟩) h0)⟩
  all_goals have xe := xf.exm x xr.1 c hcn
  all_goals rw [eb] at xe
  all_goals first
    | exact ⟨false, by rw [hK, xr.2.1]; exact xe, fun z => (by cases z), fun _ => w⟩
    | skip
  obtain ⟨dd, ed, k⟩ := z0
  exact ⟨true, by rw [hK, xr.2.1]; exact xe, fun _ a na => ⟨fun hi => by rw [List.length_set] at hi; exact List.getElem?_set_self hi, x, p, F1, dd, sf, xr, ed, k⟩, fun z => by cases z⟩
/-! ### what a suite answers -/
theorem XRel.mono {x : Nat} {p : MP.D} {cls : Value} {d : Option Addr} {H H' : Hp} (h : XRel M x p cls d F H) (sF : Same F F') (sH : Same H H') : XRel M x p cls d F' H' := by
  refine ⟨h.1, h.2.1, ?_⟩
  have h3 := h.2.2
  cases p with
  | none => exact h3
  | _ => obtain ⟨dd, f, v, e1, e2, e3⟩ := h3; exact ⟨dd, f, v, e1, sH _ _ e2, e3.mono sF⟩
/-- isinstance(n, C) -/
theorem hv_isi {n nc : Str} {i c : Nat} {p p2 p3 : Pos} (xf : XF M) (hK : X.K = M.K) (hcn : c ≤ M.nx) (hi : X.N[i]? = some n) (hv : Vis X.env.scope n) (hg : Gl X "isinstance") (hm : X.mg "isinstance" = none)
    (hg2 : Gl X nc) (hc : (c < M.nx ∧ X.mg nc = some (.ref (M.xc c))) ∨ (c = M.nx ∧ nc = "ValueError" ∧ X.mg nc = none)) (hd : (n == ("__debug__" : Str)) = false := by decide) (hcd : (n == ("__classdict__" : Str)) = false := by decide) (hdc : (nc == ("__debug__" : Str)) = false := by decide)
    (he : starEach (.Name n p :: [.Name nc p2]) X.env = (false, eval (.Name n p) X.env) :: starEach [.Name nc p2] X.env := by rfl) : HV M X i (.Call (.Name "isinstance" p3) [.Name n p, .Name nc p2] [] pos) (.isi c) := ⟨by
  intro a oe cls d pn hz hf
  have li : i < X.N.length := (List.getElem?_eq_some_iff.mp hi).1
  have pc : ∃ cV : V, PE (X.suite a ((a, oe) :: pn)) (.Name nc p2) (tC cV) ∧ ∀ u, RelV cV u → u = cvOf M c := by
    rcases hc with ⟨h1, h2⟩ | ⟨h1, h2, h3⟩
    · exact ⟨.ref (M.xc c), pe_glob (X := X.suite a ((a, oe) :: pn)) hg2 h2 rfl hdc, fun u hu => by unfold cvOf; rw [if_pos h1]; exact hu⟩
    · subst h2
      exact ⟨.ty "ValueError", pe_bltn (X := X.suite a ((a, oe) :: pn)) (u := .type "ValueError") hg2 h3 (by decide +kernel) rfl (by decide) hdc, fun u hu => by unfold cvOf; rw [if_neg (by omega)]; exact hu⟩
  obtain ⟨cV, pcE, hcV⟩ := pc
  refine ⟨fun pins s σ H Q I ⟨hs, x, pd, F, dd, sf, xr, e1, k⟩ => ?_⟩
  have hlen : σ.length = X.N.length := I.len
  cases pd with
  | none =>
    have hdn : d = none := xr.2.2
    subst hdn
    obtain ⟨hx, rfl, _⟩ := xr
    simp only [MP.hv, Option.some.injEq] at e1
    subst e1
    refine (pe_callB (X := X.suite a ((a, oe) :: pn)) (t := tCons (tVar i) (tCons (tC cV) tNil)) (call_isE (by rw [hK]; exact xf.cls x hx) hz.zc hf) hg hm boot_isi (pa_cons (pe_var (X := X.suite a ((a, oe) :: pn)) hi hv hd hcd) (pa_cons pcE pa_nil) he) (by decide) (by decide) he).run pins s σ H Q I ?_
    refine ⟨.ref a, hs (by omega), ?_⟩
    exact ⟨cV, _, _, rfl, hcV, (by rw [hK]; exact xf.kit x hx c hcn), k _ F H (.refl sf) (.bl _)⟩
  | _ => simp [MP.hv] at e1⟩
theorem hv_one {op : BoolOp} {i : Nat} {h : HE} (ha : HV M X i a h) : HV M X i (.BoolOp op [a] pos) h := ⟨fun a' oe cls d pn hz hf => pe_one (ha.run a' oe cls d pn hz hf)⟩
theorem hv_and {rest : List Expr} {i : Nat} {h1 h2 : HE} (ha : HV M X i a h1) (hb : HV M X i (.BoolOp .And (b :: rest) pos) h2) : HV M X i (.BoolOp .And (a :: b :: rest) pos) (.andH h1 h2) := ⟨fun a' oe cls d pn hz hf => by
  refine PE.imp (pe_and (ha.run a' oe cls d pn hz hf) (hb.run a' oe cls d pn hz hf)) fun σ H Q ⟨hs, x, p, F, dd, sf, xr, e1, k⟩ => ?_
  simp only [MP.hv] at e1
  split at e1
  · rename_i e0
    refine ⟨hs, x, p, F, _, sf, xr, e0, fun v F' H' g r => ?_⟩
    cases r
    exact ⟨true, rfl, hs, x, p, F', dd, g.s, xr.mono g.f g.h, e1, fun v F2 H2 g2 r2 => k v F2 H2 (g.trans g2) r2⟩
  · rename_i e0
    cases e1
    refine ⟨hs, x, p, F, _, sf, xr, e0, fun v F' H' g r => ?_⟩
    cases r
    exact ⟨false, rfl, k _ F' H' g (.bl false)⟩
  · cases e1⟩
theorem hv_bl {i : Nat} {k : Bool} {j : Nat} : HV M X i (.Constant (.bool k) j pos) (.cst (.bool k)) := ⟨fun a' oe cls d pn hz hf => by
  refine PE.imp (pe_bl (X := X.suite a' ((a', oe) :: pn))) fun σ H Q ⟨hs, x, p, F, dd, sf, xr, e1, q⟩ => ?_
  simp only [MP.hv, Option.some.injEq] at e1
  subst e1
  exact q _ F H (.refl sf) (.bl _)⟩
theorem hv_non {i : Nat} {j : Nat} : HV M X i (.Constant .none j pos) (.cst .none) := ⟨fun a' oe cls d pn hz hf => by
  refine PE.imp (pe_non (X := X.suite a' ((a', oe) :: pn))) fun σ H Q ⟨hs, x, p, F, dd, sf, xr, e1, q⟩ => ?_
  simp only [MP.hv, Option.some.injEq] at e1
  subst e1
  exact q _ F H (.refl sf) .non⟩
/-- try: .. except C: return e (without a name) -/
theorem s_tryR0 {x : Str} {c : Nat} {body : List Stmt} {cb : List S} {h : HE} {np rp pos' : Pos} (xf : XF M) (hK : X.K = M.K) (hcn : c < M.nx) (hs : X.stack = X.env :: X.outer) (hf : X.env.frame = some X.env.locals)
    (hc : Names X x (.ref (M.xc c))) (hb : ∀ pn xe, SS M (X.tr pn xe) body cb) (hh : HV M X X.N.length e h) :
    S1 M X (.Try body [.ExceptHandler (some (.Name x np)) none [.Return (some e) rp] pos'] [] [] pos) (.tryR cb c h) := by
  refine ⟨fun W tk hp => ?_⟩
  have q := L2N.ps_try_many (l := [(.ref (M.xc c), fun a cls d => fun D σ H => σ.length ≤ X.N.length → tRet (tH M X.N.length a cls d h) D σ H)]) (tb := fun W => tS M W cb) (pos := pos) hs hf tk (fun W pn xe tk hp => (hb pn xe).run W tk hp)
    (.cons (pos' := pos') (np := np) hc (fun a oe cls d pn hz hd => ⟨fun pins s σ H D I h0 => (pss_one (ps_ret (pos := rp) (hh.run a oe cls d pn hz hd))).run pins s σ H D I (h0 (Nat.le_of_eq I.len))⟩) .nil)
  refine ⟨fun pins s σ H D I ⟨G, as, F, s', S, h0⟩ => q.run pins s σ H D I (try_core S (fun x p cls d F1 H1 σ1 sf xr => ⟨fun eb z0 => ?_, fun eb w => ?_⟩) h0)⟩
  all_goals have xe := xf.exm x xr.1 c hcn
  all_goals rw [eb] at xe
  all_goals first
    | exact ⟨false, by rw [hK, xr.2.1]; exact xe, fun z => (by cases z), fun _ => w⟩
    | skip
  obtain ⟨dd, ed, k⟩ := z0
  exact ⟨true, by rw [hK, xr.2.1]; exact xe, fun _ a na hl => ⟨fun hi => absurd hi (Nat.not_lt.mpr hl), x, p, F1, dd, sf, xr, ed, k⟩, fun z => by cases z⟩
end
end MP

set_option linter.all false
set_option maxRecDepth 100000
set_option maxHeartbeats 2000000
/-! MP: defs keep their promise; the law's end. -/
namespace MP
open PySem L2
section
variable {K : PySem.W.Frag} {G : Gh} {as : Nat → List Addr} {F F' H H' : Hp} {s : Env} {σ : L2.St}
theorem pad_get {A : Type} {s : List (Option A)} {n i : Nat} {a : A} (h : (s ++ List.replicate n none)[i]? = some (some a)) : s[i]? = some (some a) := by
  by_cases hi : i < s.length
  · rw [List.getElem?_append_left hi] at h; exact h
  · rw [List.getElem?_append_right (by omega), List.getElem?_replicate] at h
    split at h <;> cases h
theorem pad_of {A : Type} {s : List (Option A)} {n i : Nat} {a : Option A} (h : s[i]? = some a) : (s ++ List.replicate n none)[i]? = some a := by
  rw [List.getElem?_append_left (List.getElem?_eq_some_iff.mp h).1]; exact h
/-- empty slots behind -/
theorem StA.pad (n : Nat) (S : StA K G as F s σ H) (e : σ = G.s0) : StA K { G with s0 := G.s0 ++ List.replicate n none } as F (s ++ List.replicate n none) (σ ++ List.replicate n none) H where
  len := by rw [List.length_append, List.length_append, List.length_replicate, List.length_replicate, S.len]
  cell := fun i m c h => by
    obtain ⟨v, h1, h2⟩ := S.cell i m c (pad_get h)
    exact ⟨v, pad_of h1, h2⟩
  emp := fun i h => S.emp i fun m c q => h m c (pad_of q)
  dis := S.dis
  nd := S.nd
  fr := S.fr
  md := fun i m c p h hp => S.md i m c p (pad_get h) hp
  same := S.same
  f0 := S.f0
  fnew := S.fnew
  fra := S.fra
  dom := S.dom
  pin := fun i m c h hm => by rw [← e]
theorem inAt_lt : ∀ {ps : List PM} {k : Nat}, inAt ps = some k → k < ps.length
  | [], _, h => by cases h
  | .i :: ps, k, h => by simp only [inAt, Option.some.injEq] at h; subst h; simp
  | .v :: ps, k, h => by
    simp only [inAt, Option.map_eq_some_iff] at h
    obtain ⟨j, h, rfl⟩ := h
    have := inAt_lt h
    simp only [List.length_cons]; omega
  | .r :: ps, k, h => by
    simp only [inAt, Option.map_eq_some_iff] at h
    obtain ⟨j, h, rfl⟩ := h
    have := inAt_lt h
    simp only [List.length_cons]; omega
end
section
variable {M : Pm} {F H : Hp} {ps : List PM} {vs : List V} {mu rs : List Addr} {s0 : L2.St} {Q : VK} {E : XK}
theorem grow_of {as : Nat → List Addr} {F' H' : Hp} {s' : Env} {σ' : L2.St} (S : StA M.K ⟨F, H, mu, [], rs, s0⟩ as F' s' σ' H') : GrowM mu F H F' H' where
  f := S.f0
  s := S.same
  h := S.fra
  n := fun q h => by
    rcases S.fnew q h with z | z | z | z
    · exact .inl z
    · exact .inr (.inl z)
    · cases z
    · exact .inr (.inr z)
  d := S.dom
/-- what is lent to change, behind the body -/
theorem out_of {as : Nat → List Addr} {F' H' : Hp} {s' : Env} {σ' : L2.St} {f : Option Cell → RC} (hl : vs.length = ps.length) (h0 : ∀ k, k < vs.length → s0[k]? = some vs[k]?) (S : StA M.K ⟨F, H, mu, [], rs, s0⟩ as F' s' σ' H')
    (h : outAt ps s' f ≠ .stk) : ∃ out aO, outAt ps s' f = f out ∧ OutR M.K ps vs out mu H F' H' aO ∧ ((aO = []) ∨ ∃ k c, s'[k]? = some (some (.pin, c)) ∧ aO = as k) := by
  unfold outAt at h ⊢
  unfold OutR
  cases e : inAt ps with
  | none => exact ⟨none, [], rfl, rfl, .inl rfl⟩
  | some k =>
    rw [e] at h
    have hk : k < vs.length := by rw [hl]; exact inAt_lt e
    simp only at h ⊢
    split at h
    · rename_i c q
      obtain ⟨v, h1, rc⟩ := S.cell _ _ _ q
      have h2 := S.pin _ _ _ q (by decide)
      rw [h1, show (⟨F, H, mu, [], rs, s0⟩ : Gh).s0 = s0 from rfl, h0 k hk] at h2
      refine ⟨some c, as k, by simp only [q], ⟨v, (Option.some.inj h2).symm, rc, S.nd k, fun p hp => ⟨S.fr k p hp, ?_⟩⟩, .inr ⟨k, c, q, rfl⟩⟩
      rcases S.md _ _ _ p q hp with z | z | z | z
      · cases z.1
      · exact .inr z
      · exact .inl z.2
      · cases z.1
    · exact absurd rfl h
theorem post_of_def (hl : vs.length = ps.length) (h0 : ∀ k, k < vs.length → s0[k]? = some vs[k]?) {f : Fn} {x : MP.X} (hf : f.pms = ps) (h : DefPost M ps vs F H mu (endF f x) Q E) :
    PostX M ⟨F, H, mu, [], rs, s0⟩ (fun cls d _ H' => E cls d H') F x { nx := fun _ H' => Q .non H', rt := Q } := by
  cases x with
  | nx s' =>
    intro as' F' σ' H' sf S
    simp only [endF, hf] at h
    obtain ⟨out, aO, e, o, _⟩ := out_of (f := .ok (.val .none)) hl h0 S (fun z => by rw [z] at h; exact h)
    rw [e] at h
    exact h F' H' .non [] aO (grow_of S) (.val .non) .nil (fun p hp => by cases hp) o (fun p _ hp => by cases hp)
  | ret c s' =>
    intro as' F' σ' H' v aT sf S R
    simp only [endF, hf] at h
    obtain ⟨out, aO, e, o, hd⟩ := out_of (f := .ok c) hl h0 S (fun z => by rw [z] at h; exact h)
    rw [e] at h
    refine h F' H' v aT aO (grow_of S) R.r R.nd (fun p hp => ⟨(R.fr p hp).1, ?_⟩) o (fun p hp => ?_)
    · rcases (R.fr p hp).2 with z | z
      · exact z
      · cases z
    · rcases hd with rfl | ⟨k, c', q, rfl⟩
      · cases hp
      · exact R.di k c' q p hp
  | ex x p s' =>
    intro as' F' σ' H' cls d sf S xr
    simp only [endF, hf] at h
    obtain ⟨out, aO, e, o, _⟩ := out_of (f := .ex x p) hl h0 S (fun z => by rw [z] at h; exact h)
    rw [e] at h
    exact h F' H' cls d aO (grow_of S) o xr
  | stk => exact h
end
/-- the defs of a program at depth n -/
def pmN (K : PySem.W.Frag) (xc : Nat → Addr) (nx : Nat) (T : Nat → Option Fn) (wf : Nat) (sub : Nat → Nat → Bool) (n : Nat) : Pm := ⟨K, ⟨fun j => ((T j).map (·.pms)).getD [], run T wf sub n, wf, sub⟩, xc, nx⟩
section
variable {K : PySem.W.Frag} {xc : Nat → Addr} {nx : Nat} {T : Nat → Option Fn} {wf : Nat} {sub : Nat → Nat → Bool} {n : Nat} {P : Program} {w : World} {mg : Str → Option Value} {base : Heap}
theorem start_at {N : List Str} {vs : List V} : ∀ k, k < vs.length → (L2.start N vs)[k]? = some vs[k]? := fun k hk => by
  unfold L2.start
  rw [List.getElem?_append_left (by simpa using hk), List.getElem?_map, List.getElem?_eq_getElem hk]
  rfl
/-- a def's body at depth n; its promise at depth n + 1 -/
theorem body_ok {j : Nat} {f : Fn} {X : Cx} {body : List Stmt} {N : List Str} {vs : List V} {H : Hp} {Q : VK} {E : XK} (hT : T j = some f) (hN : f.slots = N.length) (hb : SS (pmN K xc nx T wf sub n) X body f.body) (tk : L2N.Takes X (fun cls d _ H => E cls d H)) (hp : PassesOwn (model X.prog X.w) X.A X.env X.xe)
    (h : spD (pmN K xc nx T wf sub (n + 1)) f.pms j vs H Q E) : ∃ t, PSs X body t ∧ t { nx := fun _ H' => Q .non H', rt := Q } (L2.start N vs) H := by
  refine ⟨_, hb.run _ tk hp, ?_⟩
  obtain ⟨cs, F, as, hl, S, hc, hd⟩ := h
  have e : run T wf sub (n + 1) j cs = endF f (exs (pmN K xc nx T wf sub n).Γ f.body (entry f cs)) := by
    show (match (T j : Option Fn) with | none => RC.stk | some f => if cs.length = f.pms.length then endF f (exs ⟨fun j => ((T j).map fun (g : Fn) => g.pms).getD [], run T wf sub n, wf, sub⟩ f.body (entry f cs)) else .stk) = _
    rw [hT]
    simp only [hc, if_true]
    rfl
  have S2 := StA.pad (f.slots - f.pms.length) S rfl
  have es : vs.map some ++ List.replicate (f.slots - f.pms.length) none = L2.start N vs := by unfold L2.start; rw [hN, hl]
  refine ⟨⟨F, H, muOf f.pms as, [], rsOf f.pms as, L2.start N vs⟩, as, F, entry f cs, ?_, ?_⟩
  · have S3 : StA K ⟨F, H, muOf f.pms as, [], rsOf f.pms as, L2.start N vs⟩ as F (entry f cs) (L2.start N vs) H := by
      rw [← es]
      exact S2
    exact S3
  · refine post_of_def (M := pmN K xc nx T wf sub n) (ps := f.pms) hl start_at rfl ?_
    have hd : DefPost (pmN K xc nx T wf sub (n + 1)) f.pms vs F H (muOf f.pms as) (run T wf sub (n + 1) j cs) Q E := hd
    rw [e] at hd
    cases z : endF f (exs (pmN K xc nx T wf sub n).Γ f.body (entry f cs)) with
    | ok c o => rw [z] at hd; exact hd
    | ex x p o => rw [z] at hd; exact hd
    | stk => rw [z] at hd; exact hd
theorem sp_len {M : Pm} {ps : List PM} {j : Nat} {qs : List Str} (h : ps.length = qs.length) : ∀ vs H Q E, spD M ps j vs H Q E → vs.length = qs.length := fun vs H Q E ⟨_, _, _, hl, _⟩ => hl.trans h
/-- a def without defaults -/
theorem def_ok {j k : Nat} {fn : Fn} {x qual : Str} {st : Stmt} {f : Addr} {fd : FuncData} {N qs : List Str} (hT : T j = some fn) (F : Fun K x qual st f fd) (S : FnScope N qs (defScope st)) (hq : fn.pms.length = qs.length) (hN : fn.slots = N.length)
    (hb : ∀ (cdv : Value) (A : Around) (outer : List PySem.Env) (s : Shared) (H : Hp) (E : XK), Room k (A.deeper (PyProof.Rows.envOfC qual (defScope st) s.heap.objs.size f cdv)) →
      SS (pmN K xc nx T wf sub n) (cxOf (L2N.CX P w) P w K mg base N qual (defScope st) f cdv A outer s H E) (defBody st) fn.body) :
    FnOk P w K mg base (L2N.CX P w) (k + 1) f fd qs (spD (pmN K xc nx T wf sub (n + 1)) fn.pms j) :=
  by
    obtain ⟨oc, od, kV, doc, pm, an, cdv, ct, osl, rfl, lk, hcd⟩ := F.ex
    exact fn_of lk hcd S (sp_len hq) fun A outer s H vs Q E hr h => body_ok hT hN (hb cdv A outer s H E hr) (L2N.takes_of rfl rfl rfl rfl) (passes_of rfl) h
/-- a def with defaults -/
theorem def_okD {j k : Nat} {fn : Fn} {x qual : Str} {params : Arguments} {body : List Stmt} {scope : Scope} {dvs : List V} {f : Addr} {fd : FuncData} {N qs : List Str} (hT : T j = some fn) (F : FunD K x qual params body scope dvs [] f fd) (S : FnScope N qs scope) (hq : fn.pms.length = qs.length) (hN : fn.slots = N.length)
    (hb : ∀ (cdv : Value) (A : Around) (outer : List PySem.Env) (s : Shared) (H : Hp) (E : XK), Room k (A.deeper (PyProof.Rows.envOfC qual scope s.heap.objs.size f cdv)) →
      SS (pmN K xc nx T wf sub n) (cxOf (L2N.CX P w) P w K mg base N qual scope f cdv A outer s H E) body fn.body) :
    FnOk P w K mg base (L2N.CX P w) (k + 1) f fd qs (spD (pmN K xc nx T wf sub (n + 1)) fn.pms j) :=
  F.ok S (sp_len hq) fun cdv A outer s H vs Q E hr h => body_ok hT hN (hb cdv A outer s H E hr) (L2N.takes_of rfl rfl rfl rfl) (passes_of rfl) h
/-- depth 0: nothing is promised -/
theorem fn_zero {j k : Nat} {f : Addr} {fd : FuncData} {qs : List Str} {ps : List PM} (hq : ps.length = qs.length) : FnOk P w K mg base (L2N.CX P w) k f fd qs (spD (pmN K xc nx T wf sub 0) ps j) :=
  ⟨sp_len hq, fun A outer s H args us vs Q E hr e0 hb r h => by
    obtain ⟨_, _, _, _, _, _, hd⟩ := h
    exact hd.elim⟩
/-- the law's promise from its run -/
theorem law_sp {M : Pm} {j : Nat} {H : Hp} {a : Addr} {ns : List Int} (hO : Only H) (hS : SqL M.K H a (ns.map V.int)) (hr : M.Γ.run j [.val (.list (ns.map PyData.int))] = .ok (.val (.bool true)) none) :
    spD M [.v] j [.ref a] H (fun v _ => v = .bl true) fun _ _ _ => False := by
  refine ⟨[.val (.list (ns.map PyData.int))], H, fun _ => [], rfl, ?_, rfl, ?_⟩
  · exact {
      len := rfl
      cell := fun i m c h => by
        cases i with
        | zero =>
          cases h
          exact ⟨.ref a, rfl, .val (.lst hS (RpA.of_ints ns))⟩
        | succ i => simp [argEnv] at h
      emp := fun _ _ => rfl
      dis := fun i j p h => by cases h
      nd := fun _ => .nil
      fr := fun i p h => by cases h
      md := fun i m c p _ h => by cases h
      same := .refl _
      f0 := .refl _
      fnew := fun q h => .inl h
      fra := fun q o _ e => e
      dom := fun q h => h
      pin := fun i m c h hm => rfl }
  · rw [hr]
    intro F' H' v aT aO g rc nd hf ho hdis
    cases rc with
    | val r => cases r; rfl
end
theorem cx_none {w : World} {P : Program} {H : Hp} {s : Shared} {e : Value} {s' : Shared} (h : L2N.CX P w [] H s (fun _ _ _ => False) e s') : False := by
  obtain ⟨_, _, _, _, _, _, _, _, _, _, _, _, z⟩ := h
  exact z
theorem units_of {k : Nat} {A : Around} (r : Room k A) : A.units + 65 < cLine := by have := r.un; omega
section
variable {M : Pm} {X : Cx} {pos : Pos} {x : Str}
theorem ev_globI {i : Int} (hg : Gl X x) (hm : ∃ t, X.mg x = some (.int i t)) (hd : (x == ("__debug__" : Str)) = false := by decide) : EV M X (.Name x pos) (.cst (.int i)) := by
  obtain ⟨t, hm⟩ := hm
  exact ev_glob (v := .int i) hg hm ⟨t, rfl⟩ (fun _ => .int _) hd
theorem ev_globS {i : Str} (hg : Gl X x) (hm : ∃ t, X.mg x = some (.str i t)) (hd : (x == ("__debug__" : Str)) = false := by decide) : EV M X (.Name x pos) (.cst (.str i)) := by
  obtain ⟨t, hm⟩ := hm
  exact ev_glob (v := .str i) hg hm ⟨t, rfl⟩ (fun _ => .str _) hd
end
theorem fin_comp {Γ : Cfg} {elt : E} {tg : Tg} {k : IK} {src : List E} {cnd : Option E} {own : List Nat} {s : Env} : ev Γ true (.comp elt tg k src cnd own) s = truthR (ev Γ false (.comp elt tg k src cnd own) s) := by
  simp only [ev, fin_true, fin_false]
theorem fin_comp2 {Γ : Cfg} {elt : E} {t1 t2 : Tg} {k1 k2 : IK} {src1 src2 : List E} {cnd : Option E} {own own2 : List Nat} {s : Env} : ev Γ true (.comp2 elt t1 k1 src1 t2 k2 src2 cnd own own2) s = truthR (ev Γ false (.comp2 elt t1 k1 src1 t2 k2 src2 cnd own own2) s) := by
  simp only [ev, fin_true, fin_false]
def blkB (N : List Str) (sc scope : Scope) (own : List (Str × Nat)) : Bool :=
  decide (scope.kind = .function) && scope.names.all (fun y => scope.names.lookup y.1 == some y.2) && own.all (fun p => N[p.2]? == some p.1)
    && scope.names.all (fun y => !(y.2 == .free) || (sc.names.lookup y.1 == some .cell || sc.names.lookup y.1 == some .free))
    && scope.names.all (fun y => !(y.2 == .local || y.2 == .cell) || ((own.map (·.1)).contains y.1 || !N.contains y.1))
theorem blk_of {N : List Str} {sc scope : Scope} {own : List (Str × Nat)} (h : blkB N sc scope own = true) : BlkOk N sc scope own := by
  unfold blkB at h
  simp only [Bool.and_eq_true, decide_eq_true_eq, List.all_eq_true, beq_iff_eq, Bool.or_eq_true, Bool.not_eq_true', List.contains_iff_mem, beq_eq_false_iff_ne] at h
  obtain ⟨⟨⟨⟨h1, h2⟩, h3⟩, h4⟩, h5⟩ := h
  refine ⟨h1, h2, h3, fun y hy e => ?_, fun y hy e => ?_⟩
  · rcases h4 y hy with z | z
    · exact absurd e z
    · exact z
  · rcases h5 y hy with z | z | z
    · rcases e with e | e
      · rw [e] at z; simp at z
      · rw [e] at z; simp at z
    · exact .inl (by simpa using z)
    · exact .inr (by simpa using z)
/-- the law's promise -/
def spL (K : PySem.W.Frag) : Sp := fun vs H Q _ => ∃ (a : Addr) (ns : List Int), vs = [.ref a] ∧ SqL K H a (ns.map V.int) ∧ Only H ∧ ns.length ≤ 63 ∧ ∀ H', Q (.bl true) H'
theorem fn_law {M : Pm} {P : Program} {w : World} {mg : Str → Option Value} {base : Heap} {k j : Nat} {f : Addr} {fd : FuncData} {x : Str} (F : FnOk P w M.K mg base (L2N.CX P w) k f fd [x] (spD M [.v] j)) (hK : M.K = M.K)
    (h : ∀ ns : List Int, ns.length ≤ 63 → M.Γ.run j [.val (.list (ns.map PyData.int))] = .ok (.val (.bool true)) none) : FnOk P w M.K mg base (L2N.CX P w) k f fd [x] (spL M.K) :=
  ⟨fun vs H Q E z => by obtain ⟨a, ns, rfl, _⟩ := z; rfl, fun A outer s H args us vs Q E hr e0 hb r z => by
    obtain ⟨a, ns, rfl, hS, hO, hl, q⟩ := z
    refine F.run A outer s H args us [.ref a] Q E hr e0 hb r ?_
    obtain ⟨cs, F0, as, h1, h2, h3, h4⟩ := law_sp (M := M) (j := j) hO hS (h ns hl)
    refine ⟨cs, F0, as, h1, h2, h3, ?_⟩
    cases e : M.Γ.run j cs with
    | ok c o =>
      rw [e] at h4
      intro F' H' v aT aO g rc nd hf ho hd
      rw [h4 F' H' v aT aO g rc nd hf ho hd]
      exact q H'
    | ex x p o => rw [e] at h4; exact fun F' H' cls d aO g ho hx => (h4 F' H' cls d aO g ho hx).elim
    | stk => rw [e] at h4; exact h4⟩
end MP

set_option linter.all false
set_option maxRecDepth 100000
set_option maxHeartbeats 2000000
/-! MP: list(range(..)), tuple(..), bool(..). -/
namespace MP
open PySem L2
section
variable {M : Pm} {G : Gh} {W : WX} {F F' : Hp} {σ : L2.St} {Q Q' : VK} {X : Cx} {e a b c : Expr} {ca cb cc : E} {pos : Pos} {es : List Expr} {ces : List E}
theorem lib_core {f : Lib} {as : Nat → List Addr} {s : Env} {H : Hp} (S : StA M.K G as F s σ H) (h : Post M G W F σ (ev M.Γ false (.lib f ces) s) Q) :
    PostR M G W F σ (evr M.Γ ces s) fun vs H1 => ∃ F ds r, Same F H1 ∧ RtA M.K F H1 vs ds ∧ libF f ds = some r ∧ OutQ M.K F H1 r Q ∧ vs.length = ces.length := by
  simp only [ev, fin_false] at h
  refine PostR.bind h fun rs s1 as1 F1 H1 vs e _ S1 R1 h1 => ?_
  obtain ⟨r, e1, q⟩ := Post.opt S1 h1
  obtain ⟨ds, l, e1⟩ := bind_some e1
  exact ⟨F1, ds, r, S1.same, S1.lookAll R1 l, e1, q, by rw [R1.length, evr_len _ _ _ _ _ e]⟩
/-- range(..) as an argument -/
def tRgA (ta : TA) : L2.St → Hp → (Int → Int → Hp → Prop) → Prop := fun σ H Q => ta σ H fun vs H1 => (∃ n, vs = [.int n] ∧ Q 0 n H1) ∨ ∃ i j, vs = [.int i, .int j] ∧ Q i j H1
theorem prg_A1 {p : Pos} {ta : TA} (hg : Gl X "range") (hm : X.mg "range" = none) (ha : PA X [a] ta) (hs : starEach [a] X.env = [(false, eval a X.env)] := by rfl) : PRg X (.Call (.Name "range" p) [a] [] pos) (tRgA ta) := by
  intro pins s σ H Q I h
  refine PyProof.Rows.Call_ (ld_blt I hg hm PyProof.Rows.boot_range (PyProof.Rows.callWith_type1 (thn (ha.run pos pins s σ H _ I h) fun us s1 ⟨vs, H1, I1, r1, q1⟩ => ?_) hs rfl))
  rcases q1 with ⟨n, rfl, q⟩ | ⟨i, j, rfl, q⟩
  · cases r1 with
    | cons r rr =>
      cases rr
      obtain ⟨t, rfl⟩ := r
      exact call_range_1 ⟨_, 0, n, _, _, _, H1, rfl, IsRange.new _ _ _ _ _ _ _, I1.kept fun b u e => Heap.get?_push_of_some _ e, q⟩
  · cases r1 with
    | cons r rr =>
      cases rr with
      | cons r2 rr2 =>
        cases rr2
        obtain ⟨t, rfl⟩ := r
        obtain ⟨t2, rfl⟩ := r2
        exact call_range_2 ⟨_, i, j, _, _, _, H1, rfl, IsRange.new _ _ _ _ _ _ _, I1.kept fun b u e => Heap.get?_push_of_some _ e, q⟩
theorem prg_A2 {p : Pos} {ta : TA} (hg : Gl X "range") (hm : X.mg "range" = none) (ha : PA X [a, b] ta) (hs : starEach [a, b] X.env = [(false, eval a X.env), (false, eval b X.env)] := by rfl) (hs2 : starEach [b] X.env = [(false, eval b X.env)] := by rfl) :
    PRg X (.Call (.Name "range" p) [a, b] [] pos) (tRgA ta) := by
  intro pins s σ H Q I h
  refine PyProof.Rows.Call_ (ld_blt I hg hm PyProof.Rows.boot_range (PyProof.Rows.callWith_type1 (thn (ha.run pos pins s σ H _ I h) fun us s1 ⟨vs, H1, I1, r1, q1⟩ => ?_) (by rw [hs, hs2]) (by rw [hs2]; rfl)))
  rcases q1 with ⟨n, rfl, q⟩ | ⟨i, j, rfl, q⟩
  · cases r1 with
    | cons r rr =>
      cases rr
      obtain ⟨t, rfl⟩ := r
      exact call_range_1 ⟨_, 0, n, _, _, _, H1, rfl, IsRange.new _ _ _ _ _ _ _, I1.kept fun b u e => Heap.get?_push_of_some _ e, q⟩
  · cases r1 with
    | cons r rr =>
      cases rr with
      | cons r2 rr2 =>
        cases rr2
        obtain ⟨t, rfl⟩ := r
        obtain ⟨t2, rfl⟩ := r2
        exact call_range_2 ⟨_, i, j, _, _, _, H1, rfl, IsRange.new _ _ _ _ _ _ _, I1.kept fun b u e => Heap.get?_push_of_some _ e, q⟩
theorem rpa_rg {K : PySem.W.Frag} {F : Hp} (i j : Int) : RpA K F (rgV i j) ((List.range (j - i).toNat).map fun (k : Nat) => .int (i + k)) := by
  unfold rgV
  generalize (j - i).toNat = n
  have : ∀ l : List Nat, RpA K F (l.map fun (k : Nat) => V.int (i + k)) (l.map fun (k : Nat) => PyData.int (i + k)) := fun l => by
    induction l with
    | nil => exact .nil
    | cons x l ih => exact .cons (.int _) ih
  exact this _
theorem ev_lrng_core {r : Expr} {p : Pos} (hc : X.calm = true) (hg : Gl X "list") (hm : X.mg "list" = none) (hr : ∀ W, L2N.Takes X W → PRg X r (tRgA (tR M W ces)))
    (hs : starEach [r] X.env = (false, eval r X.env) :: starEach [] X.env := by rfl) : EV M X (.Call (.Name "list" p) [r] [] pos) (.lib .lrng ces) := by
  refine ⟨fun W tk => PE.imp (pe_listRg hc hg hm (hr W tk) hs) fun σ H Q ⟨G, as, F, s, S, h⟩ => ⟨G, as, F, s, S, ?_⟩⟩
  have key := lib_core S h
  cases e1 : evr M.Γ ces s with
  | stk => rw [e1] at key; exact key
  | ex x p s' => rw [e1] at key; exact key
  | ok rs s1 =>
    rw [e1] at key
    intro as' F' H' vs sf S' R'
    obtain ⟨F1, ds, r, sm, rr, e2, q, hl⟩ := key as' F' H' vs sf S' R'
    replace e2 : (itF .rng ds).bind fitL = some r := e2
    obtain ⟨items, e3, e4⟩ := bind_some e2
    clear e2
    unfold fitL at e4
    split at e4
    · rename_i hb
      cases e4
      unfold itF at e3
      split at e3
      all_goals first | (cases ‹IK.rng = IK.seq›) | (cases ‹IK.rng = IK.rev›) | (cases ‹IK.rng = IK.dwn›) | (cases e3; done) | skip
      · rename_i n _
        obtain ⟨v, rfl, hv⟩ := rr.one
        cases hv
        split at e3
        · rename_i hn
          cases e3
          have hb' : n.toNat ≤ 16777216 := by simpa [big] using hb
          refine .inl ⟨n, rfl, ⟨by omega, by omega, by omega, by omega, by omega⟩, fun p hp => q.list sm hp ?_⟩
          have := rpa_rg (K := M.K) (F := F1) 0 n
          simpa using this
        · cases e3
      · rename_i i n _
        obtain ⟨v, w', rfl, hv, hw⟩ := rr.two
        cases hv
        cases hw
        split at e3
        · rename_i hn
          cases e3
          have hb' : (n - i).toNat ≤ 16777216 := by simpa [big] using hb
          refine .inr ⟨i, n, rfl, ⟨by omega, by omega, by omega, by omega, by omega⟩, fun p hp => q.list sm hp (rpa_rg i n)⟩
        · cases e3
    · cases e4
theorem ev_lrng1 {p p2 pos2 : Pos} (hc : X.calm = true) (hg : Gl X "list") (hm : X.mg "list" = none) (hg2 : Gl X "range") (hm2 : X.mg "range" = none) (ha : AR M X [a] ces) (hs : starEach [a] X.env = [(false, eval a X.env)] := by rfl)
    (hs2 : starEach [.Call (.Name "range" p2) [a] [] pos2] X.env = (false, eval (.Call (.Name "range" p2) [a] [] pos2) X.env) :: starEach [] X.env := by rfl) : EV M X (.Call (.Name "list" p) [.Call (.Name "range" p2) [a] [] pos2] [] pos) (.lib .lrng ces) :=
  ev_lrng_core hc hg hm (fun W tk => prg_A1 hg2 hm2 (ha.run W tk) hs) hs2
theorem ev_lrng2 {p p2 pos2 : Pos} (hc : X.calm = true) (hg : Gl X "list") (hm : X.mg "list" = none) (hg2 : Gl X "range") (hm2 : X.mg "range" = none) (ha : AR M X [a, b] ces) (hs : starEach [a, b] X.env = [(false, eval a X.env), (false, eval b X.env)] := by rfl) (hs1 : starEach [b] X.env = [(false, eval b X.env)] := by rfl)
    (hs2 : starEach [.Call (.Name "range" p2) [a, b] [] pos2] X.env = (false, eval (.Call (.Name "range" p2) [a, b] [] pos2) X.env) :: starEach [] X.env := by rfl) : EV M X (.Call (.Name "list" p) [.Call (.Name "range" p2) [a, b] [] pos2] [] pos) (.lib .lrng ces) :=
  ev_lrng_core hc hg hm (fun W tk => prg_A2 hg2 hm2 (ha.run W tk) hs hs1) hs2
end
end MP

set_option linter.all false
set_option maxRecDepth 100000
set_option maxHeartbeats 2000000
/-! MP: a def that is called where an error is handled; a comprehension there. -/
namespace MP
open PySem L2
section
variable {X : Cx} {pins : List (Addr × Obj)} {σ : L2.St} {H : Hp} {s : Shared} {Q : VK} {p : Addr × Obj}
/-- a def called within an except suite: its body with the error pinned -/
theorem run_hot {f : Addr} {name qual : Str} {params : Arguments} {body : List Stmt} {scope : Scope} {dV kV doc pm cdv ct oc : Value} {an od : Option Addr} {osl : Array (Option Value)} {N ps : List Str} {k : Nat} {us : List Value} {vs : List V}
    (lk : X.K.lookup f = some ⟨oc, od, .func (PySem.W.fnOf name qual params body scope dV kV doc pm an cdv ct), osl⟩) (hcd : PySem.W.codeIn X.K cdv qual = true) (S : FnScope N ps scope) (hr : L2H.RoomH (k + 1) X.A) (hp : p ∈ X.pn)
    (I : Inv X pins σ H s) (hb : Binds X.K (PySem.W.fnOf name qual params body scope dV kV doc pm an cdv ct) ps []) (r : Vals vs us) (hl : vs.length = ps.length)
    (hbody : ∃ t, PSs (L2H.cxH (L2N.CX X.prog X.w) X.prog X.w X.K X.mg X.base N qual scope f cdv X.A X.stack s H (fun _ _ _ => False) p) body t ∧ t { nx := fun _ H' => Q .non H', rt := Q } (L2.start N vs) H) :
    wpAny (model X.prog X.w) X.A (call (.ref f) us) (EP X pins σ Q) X.xe s := by
  have P1 := I.pin p (List.mem_append_left pins hp)
  have pk : L2H.PinOk X.stack H s p := ⟨P1.1, P1.2.1, fun hm => by
    rcases List.mem_cons.mp (I.stkSub p.1 hm) with z | z
    · exact P1.2.2.1 z
    · exact P1.2.2.2.1 z, P1.2.2.2.2⟩
  have e0 := I.env0
  have lu : us.length = ps.length := by rw [← r.length]; exact hl
  have bd := hb s us I.kIn (by rw [List.append_nil]; exact lu)
  rw [List.append_nil] at bd
  have KX : X.K.In s.heap := e0.mod.kin.keeps fun b o q => (e0.bs b o q).1
  refine wpAny_call (codeAny_mono (R := L2.CR (L2N.CX X.prog X.w) X.stack X.prog X.w H s Q fun _ _ _ => False) ?_ fun r s' hq => ?_)
  · refine codeAny_call_function hr.depth (KX _ _ lk) rfl S.co S.gen rfl (PySem.W.codeRec_of KX hcd) (bd _ _ _ _ ?_)
    refine PySem.wpAny_newFunctionEnv_cells S.kind (fun ⟨n, v⟩ hy => ?_) fun env he s1 x => ?_
    · rcases S.par n (List.of_mem_zip hy).1 with z | z
      · exact .inl z
      · exact .inr ⟨z, PySem.W.cellsFrom_some _ _ _ (.inl z)⟩
    · subst he
      refine ⟨(e0.mod.nolimit.keeps fun b o q => (e0.bs b o q).1).keeps x.toInCall.keep, codeAny_func ?_⟩
      obtain ⟨t, ht, hq⟩ := hbody
      have J := L2H.inv_startH (CX := L2N.CX X.prog X.w) (E := fun _ _ _ => False) S pk e0 hl r x
      refine wpAny_mono (ht.run [] s1 _ H _ J hq) (fun fl s' z => ?_) fun e s' z => z
      cases fl with
      | ret u => obtain ⟨v, σ', H', J', rv, q⟩ := z; exact ⟨v, H', J'.os, J'.bare, J'.base, J'.hok, rv, q⟩
      | next => obtain ⟨σ', H', J', q⟩ := z; exact ⟨.non, H', J'.os, J'.bare, J'.base, J'.hok, rfl, q⟩
      | brk => obtain ⟨_, _, _, q⟩ := z; exact q.elim
      | cont => obtain ⟨_, _, _, q⟩ := z; exact q.elim
  · cases r with
    | error e =>
      obtain ⟨_, _, _, _, _, _, _, _, _, _, _, _, z⟩ := hq
      exact z.elim
    | ok fl =>
      cases fl with
      | ret u => exact I.after hq
      | next => exact hq.elim
      | brk => exact hq.elim
      | cont => exact hq.elim

/-- a comprehension's context, the handled error pinned -/
abbrev blkH (X : Cx) (p : Addr × Obj) (s : Shared) (H : Hp) (scope : Scope) (cenv : PySem.Env) (fp : List Addr) : Cx := (X.blk s H scope cenv fp).tr [p] (fun _ _ => False)
theorem lch_core {elt tg iter : Expr} {ifs : List Expr} {scope : Scope} {own : List (Str × Nat)} {pos pos' : Pos} {wi : TI} {g : TG} {tt : TT} {te : TE} {use : Option (Value → Sem Unit)} {Qf : Value → Shared → Prop}
    (hot : L2H.Hot1 X.A p) (hp : p ∈ X.pn) (hN : X.N.Nodup) (I : Inv X pins σ H s) (hi : L2H.PIH X tg iter wi) (ok : BlkOk X.N X.env.scope scope own)
    (hg : ∀ (s : Shared) (H : Hp) (C : Addr) (cl : List (Str × Addr)) (fp : List Addr), PG (blkH X p s H scope (compEnvC scope cl C X.env) fp) tg g) (ht : ∀ (s : Shared) (H : Hp) (C : Addr) (cl : List (Str × Addr)) (fp : List Addr), PTs (blkH X p s H scope (compEnvC scope cl C X.env) fp) ifs tt)
    (he : ∀ (s : Shared) (H : Hp) (C : Addr) (cl : List (Str × Addr)) (fp : List Addr), PE (blkH X p s H scope (compEnvC scope cl C X.env) fp) elt te) (hs : ∀ x, foldedSetIterable iter X.env x = pure x)
    (h : tLc wi g tt te (own.map (·.2)) σ H Q)
    (hRR : ∀ L C s' m H', Inv X pins σ H' s' → Q (.ref L) H' → s'.heap.Ns C m → FpOk X pins H' C → compPost (model X.prog X.w) X.A X.xe use Qf (.ref L) C (.ok .next) s') :
    wpAny (model X.prog X.w) X.A (comprehension (.ListComp elt [⟨tg, iter, ifs, 0⟩] scope pos) scope X.env pos' (newList []) false (eval iter X.env) use) Qf X.xe s := by
  have fr : ∀ y ∈ scope.names, y.2 = .free → ∃ c, X.env.cells.lookup y.1 = some c := fun y hy e => (ok.free y hy e).elim (fun k => I.ok.has _ (.inl k)) fun k => I.ok.has _ (.inr k)
  refine wpAny_comprehension_free (use := use) rfl hs (closure_ok fr) ok.kind (fun y hy e => (by rw [ok.uniq y hy, e])) (thn (hi.run pins s σ H _ I h) fun xv s1 hx => thn hx fun itv s2 h2 => ?_)
  obtain ⟨it, fp, tn, J, H2, rfl, I2, T, st2, f2, q⟩ := h2
  refine wpAny_newObj_type (newEnv_comp ?_) (Nat.zero_le sizeLine)
  generalize hL : s2.heap.objs.size = L
  have Ln : H2 L = none := I2.hok.fresh (Nat.le_of_eq hL)
  obtain ⟨Wt, ⟨m0, w0⟩, turn⟩ := q L Ln
  generalize hs3 : ({ s2 with heap := s2.heap.push { cls := .type "list", data := .seq ([] : List Value).toArray } } : Shared) = s3
  have h3 : s3.heap = s2.heap.push { cls := .type "list", data := .seq ([] : List Value).toArray } := by subst hs3; rfl
  have I3 : Inv X pins σ (upd H2 L (.lst [])) s3 := by
    subst hs3
    exact I2.laid (t' := s2.toks) (fun _ _ e => Heap.get?_push_of_some _ e) (Nat.le_of_eq hL) ⟨Nat.zero_le _, [], 0, .nil, by subst hL; exact Heap.get?_push_size _ rfl⟩
  have lts : ∀ b ∈ fp, b < s2.heap.objs.size := fun b hb => let ⟨o, e, _⟩ := T.obj _ _ st2 b hb; Heap.lt_size e
  have f3 : ∀ b ∈ fp, FpOk X pins (upd H2 L (.lst [])) b ∧ b < s3.heap.objs.size := fun b hb =>
    ⟨⟨by rw [upd_ne (by subst hL; exact Nat.ne_of_lt (lts b hb))]; exact (f2 b hb).1, (f2 b hb).2⟩, by rw [h3, Heap.size_push]; exact Nat.lt_succ_of_lt (lts b hb)⟩
  have st3 : tn 0 s3.heap := T.keep _ _ _ st2 fun b _ o e => (by rw [h3]; exact Heap.get?_push_of_some _ e)
  have J4 := block_start I3 ok hN f3
  have pg := hg s3 (upd H2 L (.lst [])) s3.heap.objs.size (cellsFrom (s3.heap.objs.size + 1) scope.names (cloFrom X.env.cells scope.names [])) fp
  have pt := ht s3 (upd H2 L (.lst [])) s3.heap.objs.size (cellsFrom (s3.heap.objs.size + 1) scope.names (cloFrom X.env.cells scope.names [])) fp
  have pe := he s3 (upd H2 L (.lst [])) s3.heap.objs.size (cellsFrom (s3.heap.objs.size + 1) scope.names (cloFrom X.env.cells scope.names [])) fp
  show codeAny _ _ (.compStart (.ListComp elt [⟨tg, iter, ifs, 0⟩] scope pos) 0 (.ref it) (.ref L) (compEnvC scope (cellsFrom (s3.heap.objs.size + 1) scope.names (cloFrom X.env.cells scope.names [])) s3.heap.objs.size X.env)) (compPost (model X.prog X.w) X.A X.xe use Qf (.ref L) s3.heap.objs.size) { s3 with heap := pushCells (s3.heap.push { cls := .type "dict", data := .dict #[] }) scope.names }
  have nfp : ∀ b ∈ fp, (upd H2 L (.lst [])) b = none := fun b hb => (f3 b hb).1.1
  generalize hce : compEnvC scope (cellsFrom (s3.heap.objs.size + 1) scope.names (cloFrom X.env.cells scope.names [])) s3.heap.objs.size X.env = ce at J4 pg pt pe ⊢
  have cL : ce.locals = s3.heap.objs.size := (by subst hce; rfl)
  generalize hH3 : upd H2 L (.lst []) = H3 at I3 J4 pg pt pe w0 nfp f3
  generalize hs4 : ({ s3 with heap := pushCells (s3.heap.push { cls := .type "dict", data := .dict #[] }) scope.names } : Shared) = s4 at J4 ⊢
  have st4 : tn 0 s4.heap := T.keep _ _ _ st3 fun b _ o e => (by subst hs4; exact pushCells_keeps _ _ _ _ (Heap.get?_push_of_some _ e))
  -- the handled error stays pinned in the block
  have P3 := I3.pin p (List.mem_append_left pins hp)
  have I4 : Inv (blkH X p s3 H3 scope ce fp) [] (wipe σ (own.map (·.2))) H3 s4 := ⟨J4.ok.toTry _ _, J4.os, J4.bare, J4.base, J4.loc, J4.cell, J4.free, J4.freeC, fun r hr => by
    obtain rfl : r = p := by simpa using hr
    refine ⟨by subst hs4; exact pushCells_keeps _ _ _ _ (Heap.get?_push_of_some _ P3.1), P3.2.1, ?_, ?_, P3.2.2.2.2⟩
    · show r.1 ≠ ce.locals
      rw [cL]
      exact Nat.ne_of_lt (Heap.lt_size P3.1)
    · show r.1 ∉ frs X.stack
      intro hm
      rcases List.mem_cons.mp (I3.stkSub r.1 hm) with z | z
      · exact P3.2.2.1 z
      · exact P3.2.2.2.1 z, J4.hok, J4.len⟩
  have nop : ∀ b ∈ fp, p.1 ≠ b := fun b hb => (f2 b hb).2.2.2.2.2 p (List.mem_append_left pins hp)
  have hc : L2H.HotC (blkH X p s3 H3 scope ce fp) := ⟨p, hot, List.mem_singleton.mpr rfl⟩
  have stat : ∀ {σ' : L2.St} {H' : Hp} {s' : Shared}, Inv (blkH X p s3 H3 scope ce fp) [] σ' H' s' → (∀ b ∈ fp, H' b = none) → ∀ b ∈ fp, FpOk (blkH X p s3 H3 scope ce fp) [] H' b := fun {σ' H' s'} I' hn b hb =>
    ⟨hn b hb, (I'.ok.exf b hb).1, I'.ok.exfs b hb, .inl hb, fun x c e => (I'.ok.exf b hb).2 x c e, fun r hr => by
      obtain rfl : r = p := by simpa using hr
      exact nop b hb⟩
  have loop : codeAny (model X.prog X.w) X.A (.compLoop (.ListComp elt [⟨tg, iter, ifs, 0⟩] scope pos) 0 (.ref it) (.ref L) ce) (compPost (model X.prog X.w) X.A X.xe use Qf (.ref L) s3.heap.objs.size) s4 := by
    refine compLoop_any (fun n s' => ∃ i H', Inv (blkH X p s3 H3 scope ce fp) [] (wipe σ (own.map (·.2))) H' s' ∧ tn i s'.heap ∧ (∀ b ∈ fp, H' b = none) ∧ Wt i n H') ?_ m0 ⟨0, H3, I4, st4, nfp, w0⟩
    rintro n s5 ⟨i, H5, I5, st5, n5, w5⟩
    rcases turn i n H5 w5 with ⟨stop, qq⟩ | ⟨go, Nx, hNx, step⟩
    · refine thnF (T.done (blkH X p s3 H3 scope ce fp) rfl rfl rfl hc i [] s5 _ H5 (fun _ _ => False) I5 (stat I5 n5) st5 stop) fun r s6 z => ?_
      obtain ⟨rfl, I6⟩ := z
      have I7 : Inv X pins σ H5 s6 := I3.call' (ch := fp) I6.os I6.base I6.hok I6.bare fun b hb => let z := (f3 b hb).1.2; ⟨z.2.2.1, z.1, z.2.2.2.1, z.2.2.2.2⟩
      have nC : H5 s3.heap.objs.size = none := cL ▸ I6.free
      obtain ⟨m, hn, _⟩ := I6.loc
      exact hRR L s3.heap.objs.size s6 m H5 I7 qq (cL ▸ hn) (I3.fpOk (Nat.le_refl _) nC)
    · refine thnF (T.item (blkH X p s3 H3 scope ce fp) rfl rfl rfl hc i [] s5 _ H5 (fun _ _ => False) I5 (stat I5 n5) st5 go) fun r s6 z => ?_
      obtain ⟨u, rfl, h6⟩ := z
      refine thnF h6 fun _ s7 ⟨x, H7, I7, r7, y7, st7, n7⟩ => ?_
      refine thnF (pg.run _ s7 _ H7 x u _ (I7.pinned (stat I7 n7) (T.obj _ _ st7)) r7 (step x H7 y7)) fun _ s8 z8 => ?_
      obtain ⟨σ8, H8, I8, hw8, q8⟩ := z8
      refine thnF (pt.run _ s8 σ8 H8 _ I8 q8) fun b s9 z9 => ?_
      obtain ⟨H9, I9, q9⟩ := z9
      have fin : ∀ {s' : Shared} {H' : Hp}, Inv (blkH X p s3 H3 scope ce fp) ([] ++ pinsAt fp s7.heap) σ8 H' s' → Nx H' → ∃ m, m < n ∧ ∃ i H', Inv (blkH X p s3 H3 scope ce fp) [] (wipe σ (own.map (·.2))) H' s' ∧ tn i s'.heap ∧ (∀ b ∈ fp, H' b = none) ∧ Wt i m H' := fun {s' H'} I' nx => by
        obtain ⟨m', hm, w'⟩ := hNx H' nx
        have pin' : ∀ b ∈ fp, ∀ o, s7.heap.get? b = some o → s'.heap.get? b = some o ∧ H' b = none := fun b hb o e => let z := I'.pin (b, o) (List.mem_append_right _ (List.mem_append_right _ (mem_pinsAt hb e))); ⟨z.1, z.2.1⟩
        refine ⟨m', hm, i + 1, H', (I'.unpinned (pins := [])).weak (by rw [← hw8, wipe_length]) (fun j v e => (wipe_some (by rw [hw8]; exact e)).1), T.keep _ _ _ st7 fun b hb o e => (pin' b hb o e).1, fun b hb => ?_, w'⟩
        obtain ⟨o, e, _⟩ := T.obj _ _ st7 b hb
        exact (pin' b hb o e).2
      cases b with
      | false => exact fin I9 q9
      | true =>
        refine thnF (pe.run _ s9 σ8 H9 _ I9 q9) fun z s10 zz => ?_
        obtain ⟨yv, H10, I10, r10, acc, hD10, hz10, nx⟩ := zz
        exact app_ok (X := blkH X p s3 H3 scope ce fp) I10 hD10 hz10 r10 fun s11 I11 => fin I11 nx
  exact codeAny_compStart_list loop (T.self X.A 0 _ _ _ st4 loop)
/-- name = [..] on one line there -/
theorem ps_setLcH {i : Nat} {y : Str} {py : Pos} {elt tg iter : Expr} {ifs : List Expr} {scope : Scope} {own : List (Str × Nat)} {pos spos : Pos} {wi : TI} {g : TG} {tt : TT} {te : TE} (hot : L2H.Hot1 X.A p) (hp : p ∈ X.pn) (hN : X.N.Nodup) (hy : X.N[i]? = some y) (hyl : X.env.scope.names.lookup y = some .local)
    (hsw : swapsWith (.ListComp elt [⟨tg, iter, ifs, 0⟩] scope pos) (some (.Name y py)) spos.line X.env = pure true) (hi : L2H.PIH X tg iter wi) (ok : BlkOk X.N X.env.scope scope own)
    (hg : ∀ (s : Shared) (H : Hp) (C : Addr) (cl : List (Str × Addr)) (fp : List Addr), PG (blkH X p s H scope (compEnvC scope cl C X.env) fp) tg g) (ht : ∀ (s : Shared) (H : Hp) (C : Addr) (cl : List (Str × Addr)) (fp : List Addr), PTs (blkH X p s H scope (compEnvC scope cl C X.env) fp) ifs tt)
    (he : ∀ (s : Shared) (H : Hp) (C : Addr) (cl : List (Str × Addr)) (fp : List Addr), PE (blkH X p s H scope (compEnvC scope cl C X.env) fp) elt te) (hs : ∀ x, foldedSetIterable iter X.env x = pure x := by intro _; rfl) :
    PS X (.Assign [.Name y py] (.ListComp elt [⟨tg, iter, ifs, 0⟩] scope pos) spos) (tAsg (tLc wi g tt te (own.map (·.2))) (gName i)) := by
  refine ⟨fun pins s σ H D I h => ?_⟩
  rw [exec_Assign_Name_used _ _ _ _ hsw]
  have h' : tLc wi g tt te (own.map (·.2)) σ H (fun x H1 => gName i x σ H1 D.nx) := h
  refine wpAny_bind (wpAny_standAt (wpAny_bind ?_))
  show wpAny _ X.A (do let _ ← comprehension (.ListComp elt [⟨tg, iter, ifs, 0⟩] scope pos) scope X.env (firstIterPos [⟨tg, iter, ifs, 0⟩] pos) (newList []) false (eval iter X.env) (some (assign (.Name y py) X.env))) _ _ s
  refine wpAny_bind (thn (lch_core (Qf := fun _ s' => SP X pins D .next s') hot hp hN I hi ok hg ht he hs h' fun L C s' m H' I' q hn f => ?_) fun _ s' hq => wpAny_pure (wpAny_pure hq))
  obtain ⟨f0, f1, f2, f3, f4, f5⟩ := f
  refine wpAny_assign_Name (store_ok2 (v := V.ref L) I' hN hy (.inl hyl) rfl (fun s2 I2 z => ?_) (.inr hyl))
  obtain ⟨a, sb, ha⟩ := z
  have Ca : C ≠ a := ha.elim (fun z => z ▸ f1) fun z e => f4 y a z e.symm
  exact ⟨m, hn.sameBut sb Ca, fun h3 sb3 => ⟨_, H', I2.turned (t' := s2.toks) (fun b o hb e => (sb3.2 b hb).trans e) f0 f1 f3 f4 f5, q⟩⟩
end
end MP

set_option linter.all false
set_option maxRecDepth 100000
set_option maxHeartbeats 2000000
/-! MP: what a def answers of the error that it is handed in an except suite. -/
namespace MP
open PySem L2
section
variable {M : Pm} {G : Gh} {W : WX} {F F' : Hp} {σ : L2.St} {Q Q' : VK} {X : Cx} {e a b c : Expr} {ca cb cc : E} {pos : Pos} {es : List Expr} {ces : List E} {D D' : Ends} {p : Addr × Obj}
/-- isinstance of the pinned error -/
theorem call_isP {A0 C0 : Addr} {oe : Obj} (C : ExcC X.K C0) (hz : Zc (.ref C0) none oe) (hf : ∃ vs, oe.data = .fields vs) (hp : (A0, oe) ∈ X.pn) : CallR X (.builtin "isinstance") (rIsE X.K C0 A0) := fun pins s σ H xs us Q I r h => by
  obtain ⟨cl, cv, b, rfl, hcv, e, q⟩ := h
  obtain ⟨ux, uc, rfl, rx, rc⟩ : ∃ u u', us = [u, u'] ∧ RelV (.ref A0) u ∧ RelV cl u' := by
    cases r with
    | cons a b =>
      cases b with
      | cons b z => cases z; exact ⟨_, _, rfl, a, b⟩
  cases rx
  obtain rfl := hcv _ rc
  obtain ⟨vs, hv⟩ := hf
  have Z : PySem.W.InstAt s.heap A0 oe C0 none := by
    cases oe
    obtain ⟨h1, h2⟩ := hz
    dsimp only at h1 h2 hv
    subst h1 h2 hv
    exact ⟨(I.pin _ (List.mem_append_left pins hp)).1, rfl, rfl, trivial⟩
  exact PySem.W.kia_one (PySem.W.handS_kitx_exc C.hg C.hk C.hs C.hd C.ha C.hn C.ht C.hm) I.kIn Z e (fun z => nomatch z) fun tk => ⟨.bl b, H, I.kept (t' := tk) fun _ _ z => z, rfl, q⟩
def tIs (A0 : Addr) (b : Bool) : TE := fun σ H Q => σ[0]? = some (some (.ref A0)) ∧ Q (.bl b) H
def tIsA (A0 : Addr) (bs : List Bool) : TA := fun σ H Q => σ[0]? = some (some (.ref A0)) ∧ Q (bs.map V.bl) H
/-- isinstance(n, C) in such a def -/
theorem pe_isP {n nc : Str} {x c : Nat} {A0 : Addr} {oe : Obj} {p1 p2 p3 : Pos} (xf : XF M) (hK : X.K = M.K) (hx : x < M.nx) (hz : Zc (.ref (M.xc x)) none oe) (hf : ∃ vs, oe.data = .fields vs) (hp : (A0, oe) ∈ X.pn) (hcn : c ≤ M.nx) (hi : X.N[0]? = some n) (hv : Vis X.env.scope n) (hg : Gl X "isinstance") (hm : X.mg "isinstance" = none)
    (hg2 : Gl X nc) (hc : (c < M.nx ∧ X.mg nc = some (.ref (M.xc c))) ∨ (c = M.nx ∧ nc = "ValueError" ∧ X.mg nc = none)) (hd : (n == ("__debug__" : Str)) = false := by decide) (hcd : (n == ("__classdict__" : Str)) = false := by decide) (hdc : (nc == ("__debug__" : Str)) = false := by decide)
    (he : starEach (.Name n p1 :: [.Name nc p2]) X.env = (false, eval (.Name n p1) X.env) :: starEach [.Name nc p2] X.env := by rfl) : PE X (.Call (.Name "isinstance" p3) [.Name n p1, .Name nc p2] [] pos) (tIs A0 (M.Γ.sub x c)) := by
  have pc : ∃ cV : V, PE X (.Name nc p2) (tC cV) ∧ ∀ u, RelV cV u → u = cvOf M c := by
    rcases hc with ⟨h1, h2⟩ | ⟨h1, h2, h3⟩
    · exact ⟨.ref (M.xc c), pe_glob hg2 h2 rfl hdc, fun u hu => by unfold cvOf; rw [if_pos h1]; exact hu⟩
    · subst h2
      exact ⟨.ty "ValueError", pe_bltn (u := .type "ValueError") hg2 h3 (by decide +kernel) rfl (by decide) hdc, fun u hu => by unfold cvOf; rw [if_neg (by omega)]; exact hu⟩
  obtain ⟨cV, pcE, hcV⟩ := pc
  refine PE.imp (pe_callB (t := tCons (tVar 0) (tCons (tC cV) tNil)) (call_isP (by rw [hK]; exact xf.cls x hx) hz hf hp) hg hm boot_isi (pa_cons (pe_var hi hv hd hcd) (pa_cons pcE pa_nil) he) (by decide) (by decide) he) fun σ H Q z => ?_
  exact ⟨.ref A0, z.1, cV, _, _, rfl, hcV, (by rw [hK]; exact xf.kit x hx c hcn), z.2⟩
theorem pa_is0 {A0 : Addr} : PA X [] (tIsA A0 []) := PA.imp pa_nil fun σ H Q z => z.2
theorem pa_is {A0 : Addr} {b : Bool} {bs : List Bool} (h : PE X e (tIs A0 b)) (hr : PA X es (tIsA A0 bs)) (hs : starEach (e :: es) X.env = (false, eval e X.env) :: starEach es X.env := by rfl) : PA X (e :: es) (tIsA A0 (b :: bs)) :=
  PA.imp (pa_cons h hr hs) fun σ H Q z => ⟨z.1, z.1, z.2⟩
/-! ### the comprehension there -/
theorem PIH.imp {tg iter : Expr} {w w' : TI} (h : L2H.PIH X tg iter w) (i : ∀ σ H R, w' σ H R → w σ H R) : L2H.PIH X tg iter w' := ⟨fun pins s σ H R I q => h.run pins s σ H R I (i _ _ _ q)⟩
def IVH (M : Pm) (X : Cx) (tg iter : Expr) (k : IK) (src : List E) : Prop := L2H.PIH X tg iter fun σ H Rr => ∃ G as F s, StA M.K G as F s σ H ∧ PostI M G W0 F σ k (evr M.Γ src s) Rr
theorem ivh_rng1 {tg : Expr} {p : Pos} (hg : Gl X "range") (hm : X.mg "range" = none) (ha : AR M X [a] [ca]) (hs : starEach [a] X.env = [(false, eval a X.env)] := by rfl) : IVH M X tg (.Call (.Name "range" p) [a] [] pos) .rng [ca] :=
  PIH.imp (L2H.pi_range1H hg hm (ha.run W0 takesN0) hs) fun σ H Rr h => rng1_read h
theorem s_setLcH {i : Nat} {y : Str} {py spos : Pos} {elt tg iter : Expr} {ifs : List Expr} {scope : Scope} {own : List (Str × Nat)} {k : IK} {src : List E} {t : Tg} {celt : E} {cnd : Option E} {tt : TT} (hot : L2H.Hot1 X.A p) (hp : p ∈ X.pn) (hN : X.N.Nodup) (hy : X.N[i]? = some y) (hyl : X.env.scope.names.lookup y = some .local)
    (hsw : swapsWith (.ListComp elt [⟨tg, iter, ifs, 0⟩] scope pos) (some (.Name y py)) spos.line X.env = pure true) (ok : BlkOk X.N X.env.scope scope own) (hi : IVH M X tg iter k src) (hg : ∀ s H C cl fp, PG (blkH X p s H scope (compEnvC scope cl C X.env) fp) tg (tgT t))
    (ht : ∀ s H C cl fp, PTs (blkH X p s H scope (compEnvC scope cl C X.env) fp) ifs tt) (htt : Cnd M cnd tt) (he : ∀ s H C cl fp, EV M (blkH X p s H scope (compEnvC scope cl C X.env) fp) elt celt) (hown : ∀ i ∈ t.slots, i ∈ own.map (·.2)) (hf : ∀ x, foldedSetIterable iter X.env x = pure x := by intro _; rfl) :
    PS X (.Assign [.Name y py] (.ListComp elt [⟨tg, iter, ifs, 0⟩] scope pos) spos) (tS1 M W0 (.asg i (.comp celt t k src cnd (own.map (·.2))))) := by
  refine PS.imp (ps_setLcH hot hp hN hy hyl hsw hi ok hg ht (fun s H C cl fp => (he s H C cl fp).run W0 takesN0) hf) fun D σ H z => ?_
  obtain ⟨G, as, F, s, S, h⟩ := z
  simp only [ex1] at h
  exact comp_core (G := G) (W := W0) hown htt (fun _ q => q) S (PostX.then h fun ra s1 as1 F1 H1 x aT _ _ S1 R1 h1 => asg_core (cr := fun _ => .stk) S1 R1 h1)
/-! ### the whole def: kinds = [..]; found = [..]; return a if b and c else d -/
def refS (bs : List Bool) : Env := [some (.ro, .exn 0 .none), some (.fr, .lst (bs.map .bool)), none, none]
structure RefEv (Γ : Cfg) (bs : List Bool) (bv : Bool) (c2 : MP.S) (cc ct ce : E) (dd : MP.D) : Prop where
  ex : ∃ s2 b1, ex1 Γ c2 (refS bs) = .nx s2 ∧ s2[0]? = some (some (.ro, .exn 0 .none)) ∧ ev Γ true cc s2 = .ok (.val (.bool b1)) s2 ∧ ev Γ false (if b1 && bv then ct else ce) s2 = .ok (.val dd) s2
def tRef (K : PySem.W.Frag) (A0 : Addr) (dd : MP.D) : TS := fun D σ H => σ = [some (.ref A0), none, none, none] ∧ ∃ F, Same F H ∧ ∀ v F' H', Grow F H F' H' → Rp K F' v dd → D.rt v H'
theorem rpa_bools {K : PySem.W.Frag} {F : Hp} : ∀ bs : List Bool, RpA K F (bs.map V.bl) (bs.map PyData.bool)
  | [] => .nil
  | b :: r => .cons (.bl b) (rpa_bools r)
theorem ref_body {A0 : Addr} {bs : List Bool} {bv : Bool} {s2 : Stmt} {c1 cv t1 t2 : Expr} {rp p2 p3 py p4 p5 : Pos} {y : Str} {cs2 : MP.S} {cc1 ct ce : E} {dd : MP.D} (hK : X.K = M.K) (hN : X.N.Nodup) (hy : X.N[1]? = some y) (hyl : Loc X.env.scope y) (hyf : X.fn y = true ∨ X.env.scope.names.lookup y = some .local)
    (hb : bs.length ≤ 1000) (h1 : PA X es (tIsA A0 bs)) (hsw : swapsWith (.List es p4) (some (.Name y py)) p5.line X.env = pure false) (h2 : PS X s2 (tS1 M W0 cs2)) (hc1 : TV M X c1 cc1) (hcv : PE X cv (tIs A0 bv)) (het : ∀ whole, isTrue cv X.env whole = (do let v ← whole; standAt cv.pos; holding [v] (truthy v)))
    (ht1 : EV M X t1 ct) (ht2 : EV M X t2 ce) (R : RefEv M.Γ bs bv cs2 cc1 ct ce dd) : PSs X [.Assign [.Name y py] (.List es p4) p5, s2, .Return (some (.IfExp (.BoolOp .And [c1, cv] p2) t1 t2 p3)) rp] (tRef M.K A0 dd) := by
  have hr := ps_ret (pos := rp) (pe_ifExp (pos := p3) ((pw_and (pos := p2) (hc1.run W0 takesN0) (pw_and1 (pt_truth hcv het))).pt) (ht1.run W0 takesN0) (ht2.run W0 takesN0))
  refine PSs.imp (pss_cons (ps_set (pos := p5) (pos' := py) hN hy hyl (pe_lst (pos := p4) h1) hsw hyf) (pss_cons h2 (pss_one hr))) fun D σ H z => ?_
  obtain ⟨rfl, F, sf, k⟩ := z
  obtain ⟨e2, b1, r1, r2, r3, r4⟩ := R.ex
  refine ⟨rfl, by rw [List.length_map, sizeLine_eq]; omega, fun q hq => ?_⟩
  -- the frame behind kinds = [..]
  have S : StA M.K ⟨F, H, [], [], [], [some (.ref A0), some (.ref q), none, none]⟩ (fun i => if i = 1 then [q] else []) F (refS bs) [some (.ref A0), some (.ref q), none, none] (upd H q (.lst (bs.map V.bl))) := {
    len := rfl
    cell := fun i m c h => by
      match i, h with
      | 0, h => cases h; exact ⟨_, rfl, .exn⟩
      | 1, h => cases h; exact ⟨_, rfl, .lst upd_same (rpa_bools bs)⟩
      | 2, h => cases h
      | 3, h => cases h
      | n + 4, h => simp [refS] at h
    emp := fun i h => by
      by_cases z : i = 1
      · subst z; exact absurd rfl (h _ _)
      · exact if_neg z
    dis := fun i j r hi hj => by
      split at hi
      · split at hj
        · omega
        · cases hj
      · cases hi
    nd := fun i => by split <;> simp
    fr := fun i r hi => by
      split at hi
      · obtain rfl : r = q := by simpa using hi
        cases e : F r with
        | none => rfl
        | some o => have := sf r o e; rw [hq] at this; cases this
      · cases hi
    md := fun i m c r h hi => by
      split at hi
      · obtain rfl : r = q := by simpa using hi
        exact .inr (.inl hq)
      · cases hi
    same := fun r o e => by rw [upd_ne (ne_of_none (sf r o e) hq)]; exact sf r o e
    f0 := .refl _
    fnew := fun r h => .inl h
    fra := fun r o _ e => by rw [upd_ne (ne_of_none e hq)]; exact e
    dom := fun r h z => by
      by_cases zz : r = q
      · subst zz; exact h hq
      · rw [upd_ne zz] at z; exact h z
    pin := fun i m c h hm => by rfl }
  refine ⟨_, _, F, refS bs, S, ?_⟩
  rw [r1]
  intro as' F' σ' H' sf' S'
  have h0 : σ'[0]? = some (some (.ref A0)) := S'.pin 0 _ _ r2 (by decide)
  refine ⟨_, as', F', e2, S', ?_⟩
  rw [r3]
  intro as3 F3 H3 v aT sf3 S3 R3
  obtain ⟨rv, _⟩ := R3
  cases rv
  have fin : Post M ⟨F, H, [], [], [], [some (.ref A0), some (.ref q), none, none]⟩ W0 F3 σ' (ev M.Γ false (if b1 && bv then ct else ce) e2) D.rt := by
    rw [r4]
    intro as4 F4 H4 v aT sf4 S4 R4
    exact k v F4 H4 ⟨S4.f0, fun r o e => S4.fra r o (by simp) e, S4.same, fun r h => by
      rcases S4.fnew r h with z | z | z | z
      · exact .inl z
      · exact .inr (.inl z)
      · cases z
      · exact .inr (.inr z)⟩ R4.1
  refine ⟨b1, rfl, ?_⟩
  cases b1 with
  | false => exact ⟨_, as3, F3, e2, S3, fin⟩
  | true =>
    refine ⟨h0, bv, (show TruV X.K (.bl bv) H3 bv from rfl), ?_⟩
    cases bv with
    | false => exact ⟨_, as3, F3, e2, S3, fin⟩
    | true => exact ⟨_, as3, F3, e2, S3, fin⟩
/-- f(n), f such a def -/
theorem hv_refusal {fname n qual : Str} {i k : Nat} {q p1 : Pos} {st : Stmt} {f : Addr} {fd : FuncData} {N : List Str} {x0 : Str} {cs : List Nat} {ns : List Str} {v : Nat} {other : Str} (hi : X.N[i]? = some n) (hv : Vis X.env.scope n) (hg : Gl X fname) (hm : X.mg fname = some (.ref f)) (Fn : Fun X.K fname qual st f fd)
    (S : FnScope N [x0] (defScope st)) (hN : N.length = 4) (hr : Room (k + 1) X.A) (hb : Binds X.K fd [x0] [])
    (hbody : ∀ (x : Nat) (A0 : Addr) (oe : Obj) (cdv : Value) (A : Around) (outer : List PySem.Env) (s : Shared) (H : Hp), x < M.nx → Zc (.ref (M.xc x)) none oe → (∃ vs, oe.data = .fields vs) → L2H.Hot1 A (A0, oe) → L2H.RoomH (k + 1) A →
      ∃ dd, MP.hv M.Γ.sub x .none (.one cs ns v other) = some dd ∧ PSs (L2H.cxH (L2N.CX X.prog X.w) X.prog X.w X.K X.mg X.base N qual (defScope st) f cdv A outer s H (fun _ _ _ => False) (A0, oe)) (defBody st) (tRef M.K A0 dd))
    (hd : (n == ("__debug__" : Str)) = false := by decide) (hcd : (n == ("__classdict__" : Str)) = false := by decide) (hdb : (fname == ("__debug__" : Str)) = false := by decide)
    (he : starEach (.Name n p1 :: []) X.env = (false, eval (.Name n p1) X.env) :: starEach [] X.env := by rfl) (hpl : (backTo pos (starEach [] X.env)).any (·.1) = false := by rfl) : HV M X i (.Call (.Name fname q) [.Name n p1] [] pos) (.one cs ns v other) := ⟨by
  intro a oe cls d pn hz hf
  have li : i < X.N.length := (List.getElem?_eq_some_iff.mp hi).1
  refine ⟨fun pins s σ H Q I z => ?_⟩
  obtain ⟨hs, x, pd, F, dd, sf, xr, e1, kk⟩ := z
  have hlen : σ.length = X.N.length := I.len
  cases pd with
  | none =>
    obtain rfl : d = none := xr.2.2
    obtain ⟨hx, rfl, _⟩ := xr
    obtain ⟨oc, od, kV, doc, pm, an, cdv, ct, osl, rfl, lk, hcd2⟩ := Fn.ex
    refine wpAny_Call_Name_kw (ld_glob (X := X.suite a ((a, oe) :: pn)) I hg hm ?_ hdb)
    refine PySem.W.callWith_K (h₀ := X.base) I.ok.mod.kin Fn.kp (thn ((pa_cons (pe_var (X := X.suite a ((a, oe) :: pn)) (pos := p1) hi hv hd hcd) pa_nil he).run pos pins s σ H (fun vs H1 => vs = [V.ref a] ∧ H1 = H) I ⟨.ref a, hs (by omega), rfl, rfl⟩) fun us s1 zz => ?_) he hpl
    obtain ⟨vs, H1, I1, r, rfl, rfl⟩ := zz
    refine ⟨I1.kIn, ?_⟩
    have hot : L2H.Hot1 (X.suite a ((a, oe) :: pn)).A (a, oe) := ⟨rfl, let ⟨vs, e⟩ := hf; ⟨vs, e, hz.2.2 vs e⟩⟩
    obtain ⟨dd', h1, h2⟩ := hbody x a oe cdv (X.suite a ((a, oe) :: pn)).A X.stack s1 H1 hx hz.zc hf hot ⟨hr.dp, hr.un⟩
    rw [h1] at e1
    cases e1
    refine run_hot (X := X.suite a ((a, oe) :: pn)) (p := (a, oe)) lk hcd2 S ⟨hr.dp, hr.un⟩ List.mem_cons_self I1 hb r rfl ⟨_, h2, ?_, F, sf, kk⟩
    show L2.start N [V.ref a] = _
    unfold L2.start
    rw [hN]
    rfl
  | _ => simp [MP.hv] at e1⟩
theorem unitsH {k : Nat} {A : Around} (r : L2H.RoomH (k + 1) A) : A.units + 3 + 65 < cLine := by have := r.un; omega
end
end MP

set_option linter.all false
set_option maxRecDepth 100000
set_option maxHeartbeats 2000000
/-! MP: list(reversed(x)). -/
namespace MP
open PySem L2 RT PySem.Spec PyProof.Rows
section
variable {prog : Program} {w : World} {A : Around} {E : Value → Shared → Prop} {s : Shared}
theorem ext_rev {R : Result → Shared → Prop} {it l S : Addr} {items : Array Value} {c₀ : Nat} (hh : A.handled = none) (hit : s.heap.IsRevIter it l ((items.size : Int) - 1)) (hl : s.heap.IsList l items) (hne : l ≠ it) (hn : items.size ≤ sizeLine)
    (hSi : S ≠ it) (hSl : S ≠ l) (res : Value) (hS : s.heap.get? S = some { cls := .type "list", data := .seq #[] c₀ })
    (hR : ∀ h' tk acc' c', (∀ b o, b ≠ S → b ≠ it → s.heap.get? b = some o → h'.get? b = some o) → h'.get? S = some { cls := .type "list", dict := none, data := .seq acc' c', slots := #[] } →
      ItemsOf (fun i v => items[items.size - 1 - i]? = some v) acc' items.size → R (.ok (.ret res)) { s with heap := h', toks := tk }) :
    wpAny (model prog w) A.in1 (Builtin.List.listExtendWith (.ref S) (.ref it) res)
      (fun fin s' => match fin with | .done f => R (.ok f) s' | .again c' => c'.quiet = true ∧ codeAny (model prog w) A c' R s') (fun e s' => R (.error e) s') s := by
  have W := (Walks.listRev (prog := prog) (w := w) (A := A.in1) hh it l hne items).toS
  have hSf : S ∉ [it, l] := by simp only [List.mem_cons, List.not_mem_nil, or_false, not_or]; exact ⟨hSi, hSl⟩
  have hT : s.TypeIs (.ref it) "list_reverseiterator" := hit.typeIs
  have h1 : Builtin.List.listSameRef (.ref S) (.ref it) = false := by simp [Builtin.List.listSameRef, hSi]
  unfold Builtin.List.listExtendWith
  refine wpAny_bind (wpAny_typeOf hT ?_)
  rw [if_neg (by rw [h1]; decide)]
  refine wpAny_bind (wpAny_pyIter_revIter hit ?_)
  refine wpAny_bind (wpAny_holding ?_)
  unfold Builtin.List.listLengthHint
  refine wpAny_bind (wpAny_specialOf hT nolen_lri ?_)
  show wpAny _ A.in1 (specialOf (Value.ref it) (Str.ofString "__length_hint__") >>= _) _ _ _
  refine wpAny_bind (wpAny_specialOf hT hint_lri ?_)
  generalize hid : ("list_reverseiterator.__length_hint__" : String) = id0
  wp_delta
  rw [show splitId id0 = some ("list_reverseiterator", "__length_hint__") from by subst hid; decide +kernel]
  subst hid
  refine wpAny_bind (wpAny_isInstance (b := true) hT (by rw [isSubtype_type]; kernel_rfl) ?_)
  refine wpAny_pure ?_
  rw [if_neg (by decide)]
  have e0 : ((items.size : Nat) : Int) - 1 - ((0 : Nat) : Int) = (items.size : Int) - 1 := by omega
  refine wpAny_pure ⟨plainId_quiet F.plain_extend_loop _, codeAny_extend_loopS W hn S hSf res items.size 0 _ _ _ rfl (Nat.zero_le _) ⟨Nat.zero_le _, by rw [e0]; exact hit, hl⟩ hS (ItemsOf.nil _) fun s' acc' c' hm hS' hacc => ?_⟩
  rw [Moved.eq_with hm]
  refine hR s'.heap s'.toks acc' c' (fun b o hb hb2 e => hm.heap b o (fun hmem => ?_) e) hS' hacc
  rcases List.mem_cons.mp hmem with e' | hmem
  · exact hb e'
  · exact hb2 (List.mem_singleton.mp hmem)
theorem init_rev {R : Result → Shared → Prop} {it l S : Addr} {items : Array Value} (hh : A.handled = none) (hit : s.heap.IsRevIter it l ((items.size : Int) - 1)) (hl : s.heap.IsList l items) (hne : l ≠ it) (hn : items.size ≤ sizeLine)
    (hSi : S ≠ it) (hSl : S ≠ l) (hS : s.heap.get? S = some { cls := .type "list", data := .seq #[] })
    (hR : ∀ h' tk acc' c', (∀ b o, b ≠ S → b ≠ it → s.heap.get? b = some o → h'.get? b = some o) → h'.get? S = some { cls := .type "list", dict := none, data := .seq acc' c', slots := #[] } →
      ItemsOf (fun i v => items[items.size - 1 - i]? = some v) acc' items.size → R (.ok (.ret .none)) { s with heap := h', toks := tk }) :
    wpAny (model prog w) A.in1 (Builtin.«list.__init__» ⟨[.ref S, .ref it], []⟩)
      (fun fin s' => match fin with | .done f => R (.ok f) s' | .again c' => c'.quiet = true ∧ codeAny (model prog w) A c' R s') (fun e s' => R (.error e) s') s := by
  show wpAny _ _ (do let old ← Builtin.List.listItems (.ref S); Builtin.List.listUpdate (.ref S) (fun _ => #[]); letGo old.toList.reverse; Builtin.List.listExtendWith (.ref S) (.ref it) .none) _ _ s
  refine wpAny_bind ?_
  unfold Builtin.List.listItems
  refine wpAny_bind (wpAny_seqItems hS rfl (wpAny_pure ?_))
  show wpAny _ _ (updateSeq S (fun _ => #[]) >>= fun _ => letGo (#[] : Array Value).toList.reverse >>= fun _ => Builtin.List.listExtendWith (.ref S) (.ref it) .none) _ _ s
  refine wpAny_bind (wpAny_updateSeq hS rfl ?_)
  have hS₂ := Heap.get?_update_self (Obj.mapSeq (fun _ => (#[] : Array Value))) hS rfl
  have oth : ∀ b o, b ≠ S → s.heap.get? b = some o → (s.heap.update S (Obj.mapSeq (fun _ => (#[] : Array Value)))).get? b = some o :=
    fun b o hb e => (Heap.get?_update_other _ _ (Ne.symm hb)).trans e
  refine wpAny_bind (wpAny_letGo ?_)
  refine ext_rev (s := { s with heap := s.heap.update S (Obj.mapSeq (fun _ => (#[] : Array Value))) }) hh (hit.at fun o e => oth it o (Ne.symm hSi) e) (hl.at fun o e => oth l o (Ne.symm hSl) e) hne hn hSi hSl .none hS₂ fun h' tk acc' c' hk hS' hacc => ?_
  exact hR h' tk acc' c' (fun b o hb hb2 e => hk b o hb hb2 (oth b o hb e)) hS' hacc
theorem call_list_rev {it l : Addr} {items : Array Value} {Q : Value → Shared → Prop} (hh : A.handled = none) (hit : s.heap.IsRevIter it l ((items.size : Int) - 1)) (hl : s.heap.IsList l items) (hne : l ≠ it) (hn : items.size ≤ sizeLine)
    (hQ : ∀ (h' : Heap) (tk : Nat) (acc : Array Value) (c' : Nat), (∀ b o, b ≠ it → s.heap.get? b = some o → h'.get? b = some o) → h'.get? s.heap.objs.size = some { cls := .type "list", dict := none, data := .seq acc c', slots := #[] } →
      ItemsOf (fun i v => items[items.size - 1 - i]? = some v) acc items.size → Q (.ref s.heap.objs.size) { s with heap := h', toks := tk }) :
    wpAny (model prog w) A (call (.type "list") [.ref it]) Q E s := by
  obtain ⟨oi, hoi, _⟩ := id hit
  obtain ⟨ol, hol, _⟩ := id hl
  have hSi : s.heap.objs.size ≠ it := Nat.ne_of_gt (Heap.lt_size hoi)
  have hSl : s.heap.objs.size ≠ l := Nat.ne_of_gt (Heap.lt_size hol)
  refine callType_codes (Q₁ := fun obj s₁ => obj = .ref s.heap.objs.size ∧ s₁ = { s with heap := s.heap.push { cls := .type "list", data := .seq #[] } }) F.called_list (F.typeCall_list_1 _) F.entry_list_init
    (code_list_new _ ⟨rfl, rfl⟩) fun obj s₁ h₁ => ?_
  obtain ⟨rfl, rfl⟩ := h₁
  have hS : (s.heap.push { cls := .type "list", data := .seq #[] }).get? s.heap.objs.size = some { cls := .type "list", data := .seq #[] } := Heap.get?_push_size _ rfl
  refine ⟨⟨_, hS, rfl⟩, F.args_list_init_2 _ _, init_rev (A := A.in1) (s := { s with heap := s.heap.push { cls := .type "list", data := .seq #[] } }) hh (hit.at fun o e => Heap.get?_push_of_some _ e) (hl.push _) hne hn hSi hSl hS fun h' tk acc' c' hk hS' hacc => ?_⟩
  exact ⟨rfl, hQ h' tk acc' c' (fun b o hb e => hk b o (Nat.ne_of_lt (Heap.lt_size e)) hb (Heap.get?_push_of_some _ e)) hS' hacc⟩
end
section
variable {M : Pm} {G : Gh} {W : WX} {F F' : Hp} {σ : L2.St} {Q Q' : VK} {X : Cx} {e a b c : Expr} {ca cb cc : E} {pos : Pos} {es : List Expr} {ces : List E}
def tLstRev (K : PySem.W.Frag) (ta : TA) : TE := fun σ H Q => ta σ H fun vs H1 => ∃ (a : Addr) (xs : List V), vs = [.ref a] ∧ SqL K H1 a xs ∧ ∀ q, H1 q = none → Q (.ref q) (upd H1 q (.lst xs.reverse))
theorem pe_lstRev {ta : TA} {p p2 pos2 : Pos} (hc : X.calm = true) (hg : Gl X "list") (hm : X.mg "list" = none) (hg2 : Gl X "reversed") (hm2 : X.mg "reversed" = none) (ha : PA X [e] ta)
    (hs : starEach [e] X.env = [(false, eval e X.env)] := by rfl)
    (hs2 : starEach [.Call (.Name "reversed" p2) [e] [] pos2] X.env = (false, eval (.Call (.Name "reversed" p2) [e] [] pos2) X.env) :: starEach [] X.env := by rfl) :
    PE X (.Call (.Name "list" p) [.Call (.Name "reversed" p2) [e] [] pos2] [] pos) (tLstRev X.K ta) := by
  refine ⟨fun pins s σ H Q I h => ?_⟩
  refine PyProof.Rows.Call_ (ld_blt I hg hm PyProof.Rows.boot_list (PyProof.Rows.callWith_type1 (args_cons (PyProof.Rows.Call_ (ld_blt I hg2 hm2 PyProof.Rows.boot_reversed (PyProof.Rows.callWith_type1 (thn (ha.run pos2 pins s σ H _ I h) fun us s1 ⟨vs, H1, I1, r1, q1⟩ => ?_) hs rfl))) hs2) hs2 rfl))
  obtain ⟨a, xs, ev, hq, q⟩ := q1
  subst ev
  obtain ⟨u, rfl, ru⟩ := r1.one
  obtain rfl : u = Value.ref a := ru
  obtain ⟨its, rv, p', hz⟩ := I1.list hq
  refine call_reversed_list p'.isList (args_nil ?_)
  have k0 : ∀ b o, s1.heap.get? b = some o → (s1.heap.push (revObj a ((its.toArray.size : Int) - 1))).get? b = some o := fun b o e => Heap.get?_push_of_some _ e
  have I2 : Inv X pins σ H1 { s1 with heap := s1.heap.push (revObj a ((its.toArray.size : Int) - 1)) } := I1.kept (t' := s1.toks) k0
  obtain ⟨f0, f1, f2, f3, f4, f5⟩ := I1.fpOk (H' := H1) (b := s1.heap.objs.size) (Nat.le_refl _) (I1.hok.fresh (Nat.le_refl _))
  have hl := p'.isList
  obtain ⟨ol, hol, _⟩ := id hl
  have hne : a ≠ s1.heap.objs.size := Nat.ne_of_lt (Heap.lt_size hol)
  have hn : its.toArray.size ≤ sizeLine := by rw [List.size_toArray, ← rv.length]; exact hz
  refine call_list_rev (s := { s1 with heap := s1.heap.push (revObj a ((its.toArray.size : Int) - 1)) }) (I1.ok.hd hc) ⟨_, Heap.get?_push_size _ rfl, rfl, rfl⟩ (hl.push _) hne hn fun h' tk acc c' hk hS hi => ?_
  refine ⟨.ref (s1.heap.push (revObj a ((its.toArray.size : Int) - 1))).objs.size, upd H1 (s1.heap.push (revObj a ((its.toArray.size : Int) - 1))).objs.size (.lst xs.reverse), ?_, rfl, q _ (I2.hok.fresh (Nat.le_refl _))⟩
  refine I2.turnedNew (t' := tk) (ch := [s1.heap.objs.size]) (fun b o hb e => hk b o (fun z => hb (by simp [z])) e) (fun b hb => ?_) (Nat.le_refl _) (show ObjOk X.prog X.w _ _ _ (.lst xs.reverse) from ⟨by rw [List.length_reverse]; exact hz, acc.toList, c', vals_rev rv hi, by rw [Array.toArray_toList]; exact hS⟩)
  rw [List.mem_singleton.mp hb]
  exact I1.fpOk (Nat.le_refl _) (I1.hok.fresh (Nat.le_refl _))
theorem ev_lrev {p p2 pos2 : Pos} (hc : X.calm = true) (hg : Gl X "list") (hm : X.mg "list" = none) (hg2 : Gl X "reversed") (hm2 : X.mg "reversed" = none) (ha : AR M X [a] ces) (hK : X.K = M.K := by rfl) (hs : starEach [a] X.env = [(false, eval a X.env)] := by rfl)
    (hs2 : starEach [.Call (.Name "reversed" p2) [a] [] pos2] X.env = (false, eval (.Call (.Name "reversed" p2) [a] [] pos2) X.env) :: starEach [] X.env := by rfl) : EV M X (.Call (.Name "list" p) [.Call (.Name "reversed" p2) [a] [] pos2] [] pos) (.lib .lrev ces) := by
  refine ⟨fun W tk => PE.imp (pe_lstRev hc hg hm hg2 hm2 (ha.run W tk) hs hs2) fun σ H Q ⟨G, as, F, s, S, h⟩ => ⟨G, as, F, s, S, ?_⟩⟩
  have key := lib_core S h
  cases e1 : evr M.Γ ces s with
  | stk => rw [e1] at key; exact key
  | ex x p s' => rw [e1] at key; exact key
  | ok rs s1 =>
    rw [e1] at key
    intro as' F' H' vs sf S' R'
    obtain ⟨F1, ds, r, sm, rr, e2, q, hl⟩ := key as' F' H' vs sf S' R'
    unfold libF at e2
    split at e2
    all_goals first | (cases ‹Lib.lrev = Lib.lrng›) | (cases ‹Lib.lrev = Lib.index›) | (cases ‹Lib.lrev = Lib.tuple›) | (cases ‹Lib.lrev = Lib.bool›) | (cases ‹Lib.lrev = Lib.slen›) | (cases ‹Lib.lrev = Lib.ssort›) | (cases ‹Lib.lrev = Lib.slenT›) | (cases ‹Lib.lrev = Lib.sortD›) | (cases ‹Lib.lrev = Lib.sortK›) | (cases ‹Lib.lrev = Lib.ssortT›) | (cases e2; done) | skip
    cases e2
    obtain ⟨v, rfl, a, ys, rfl, h, r2⟩ := rr.one
    exact ⟨a, ys, rfl, by rw [hK]; exact h, fun p hp => q.list sm hp r2.reverse⟩
end
end MP

set_option linter.all false
set_option maxRecDepth 100000
set_option maxHeartbeats 2000000
/-! MP: len({..}), sorted({..}), the set by a comprehension. -/
namespace MP
open PySem L2 PySem.Spec PyProof.Rows
/-! ### plain -/
theorem dst_mem {A : Type} [DecidableEq A] {x : A} : ∀ {l : List A}, x ∈ dst l ↔ x ∈ l
  | [] => Iff.rfl
  | y :: r => by
    unfold dst
    split
    · rw [dst_mem, List.mem_cons]
      constructor
      · exact .inr
      · rintro (rfl | h)
        · assumption
        · exact h
    · rw [List.mem_cons, List.mem_cons, dst_mem]
theorem dst_nodup {A : Type} [DecidableEq A] : ∀ l : List A, (dst l).Nodup
  | [] => List.nodup_nil
  | y :: r => by
    unfold dst
    split
    · exact dst_nodup r
    · rename_i h
      exact List.nodup_cons.mpr ⟨fun z => h (dst_mem.mp z), dst_nodup r⟩
theorem dst_snoc {A : Type} [DecidableEq A] (x : A) : ∀ l : List A, (dst (l ++ [x])).length = if x ∈ l then (dst l).length else (dst l).length + 1
  | [] => by simp [dst]
  | y :: r => by
    have ih := dst_snoc x r
    have e1 : dst (y :: r ++ [x]) = if y ∈ r ++ [x] then dst (r ++ [x]) else y :: dst (r ++ [x]) := rfl
    have e2 : dst (y :: r) = if y ∈ r then dst r else y :: dst r := rfl
    rw [e1, e2]
    by_cases h : y ∈ r
    · rw [if_pos (List.mem_append_left _ h), if_pos h, ih]
      by_cases hx : x ∈ r
      · rw [if_pos hx, if_pos (List.mem_cons_of_mem _ hx)]
      · have : x ∉ y :: r := fun z => by
          rcases List.mem_cons.mp z with z | z
          · exact hx (z ▸ h)
          · exact hx z
        rw [if_neg hx, if_neg this]
    · by_cases z : y = x
      · subst z
        rw [if_pos (List.mem_append_right _ (List.mem_singleton.mpr rfl)), if_neg h, if_pos List.mem_cons_self, ih, if_neg h, List.length_cons]
      · have : y ∉ r ++ [x] := fun q => by
          rcases List.mem_append.mp q with q | q
          · exact h q
          · exact z (List.mem_singleton.mp q)
        rw [if_neg this, if_neg h, List.length_cons, List.length_cons, ih]
        by_cases hx : x ∈ r
        · rw [if_pos hx, if_pos (List.mem_cons_of_mem _ hx)]
        · have : x ∉ y :: r := fun q => by
            rcases List.mem_cons.mp q with q | q
            · exact z q.symm
            · exact hx q
          rw [if_neg hx, if_neg this]
theorem dst_le {A : Type} [DecidableEq A] : ∀ l : List A, (dst l).length ≤ l.length
  | [] => Nat.le_refl _
  | y :: r => by
    have := dst_le r
    unfold dst
    split
    · rw [List.length_cons]; omega
    · rw [List.length_cons, List.length_cons]; omega
/-! ### the comprehension: any family of sets -/
section
variable {X : Cx} {pins : List (Addr × Obj)} {σ : L2.St} {H : Hp} {s : Shared} {Q : VK}
/-- a new set in the heap -/
abbrev newS (w : World) : Obj := { cls := .type "set", dict := none, data := .set #[] 0 (.fresh 0 0 (!w.params.followText "set-order")) }
def tScA (ho0 : Addr → HO) (rA : V → List V → Hp → VK → Prop) (wi : TI) (g : TG) (tt : TT) (te : TE) (vs : List Nat) : TE := fun σ H Q => wi σ H fun J H1 => ∀ D, H1 D = none → ∃ Wt : Nat → Nat → Hp → Prop, (∃ m, Wt 0 m (upd H1 D (ho0 D))) ∧ ∀ i m H, Wt i m H →
  (J.stop i H ∧ Q (.ref D) H) ∨ (J.go i H ∧ ∃ Nx : Hp → Prop, (∀ H', Nx H' → ∃ m', m' < m ∧ Wt (i + 1) m' H') ∧ ∀ x H', J.yld i H x H' → g x (wipe σ vs) H' fun σ2 H2 => wipe σ2 vs = wipe σ vs ∧ tt σ2 H2 fun b H3 =>
    if b = true then te σ2 H3 fun y H4 => rA (.ref D) [y] H4 fun _ H5 => Nx H5 else Nx H3)
theorem sca_core {elt tg iter : Expr} {ifs : List Expr} {scope : Scope} {own : List (Str × Nat)} {pos pos' : Pos} {ho0 : Addr → HO} {rA : V → List V → Hp → VK → Prop} {wi : TI} {g : TG} {tt : TT} {te : TE} {use : Option (Value → Sem Unit)} {Qf : Value → Shared → Prop}
    (hc : X.calm = true) (hN : X.N.Nodup) (I : Inv X pins σ H s) (hi : PI X tg iter wi) (ok : BlkOk X.N X.env.scope scope own)
    (hnew : ∀ (H' : Hp) (h : Heap), ObjOk X.prog X.w H' (h.push (newS X.w)) h.objs.size (ho0 h.objs.size))
    (hadd : ∀ (s : Shared) (H : Hp) (ce : PySem.Env) (fp : List Addr), MtR (X.blk s H scope ce fp) "set.add" rA)
    (hg : ∀ (s : Shared) (H : Hp) (C : Addr) (cl : List (Str × Addr)) (fp : List Addr), PG (X.blk s H scope (compEnvC scope cl C X.env) fp) tg g) (ht : ∀ (s : Shared) (H : Hp) (C : Addr) (cl : List (Str × Addr)) (fp : List Addr), PTs (X.blk s H scope (compEnvC scope cl C X.env) fp) ifs tt)
    (he : ∀ (s : Shared) (H : Hp) (C : Addr) (cl : List (Str × Addr)) (fp : List Addr), PE (X.blk s H scope (compEnvC scope cl C X.env) fp) elt te) (hs : ∀ x, foldedSetIterable iter X.env x = pure x)
    (h : tScA ho0 rA wi g tt te (own.map (·.2)) σ H Q)
    (hRR : ∀ D C s' m H', Inv X pins σ H' s' → Q (.ref D) H' → s'.heap.Ns C m → FpOk X pins H' C → compPost (model X.prog X.w) X.A X.xe use Qf (.ref D) C (.ok .next) s') :
    wpAny (model X.prog X.w) X.A (comprehension (.SetComp elt [⟨tg, iter, ifs, 0⟩] scope pos) scope X.env pos' (newSet (.type "set")) false (eval iter X.env) use) Qf X.xe s := by
  have fr : ∀ y ∈ scope.names, y.2 = .free → ∃ c, X.env.cells.lookup y.1 = some c := fun y hy e => (ok.free y hy e).elim (fun k => I.ok.has _ (.inl k)) fun k => I.ok.has _ (.inr k)
  refine wpAny_comprehension_free (use := use) rfl hs (closure_ok fr) ok.kind (fun y hy e => (by rw [ok.uniq y hy, e])) (thn (hi.run pins s σ H _ I h) fun xv s1 hx => thn hx fun itv s2 h2 => ?_)
  obtain ⟨it, fp, tn, J, H2, rfl, I2, T, st2, f2, q⟩ := h2
  refine PpSet.newSet_ok (newEnv_comp ?_)
  generalize hL : s2.heap.objs.size = L
  have Ln : H2 L = none := I2.hok.fresh (Nat.le_of_eq hL)
  obtain ⟨Wt, ⟨m0, w0⟩, turn⟩ := q L Ln
  generalize hs3 : ({ s2 with heap := s2.heap.push { cls := .type "set", dict := none, data := .set #[] 0 (.fresh 0 0 (!X.w.params.followText "set-order")) } } : Shared) = s3
  have h3 : s3.heap = s2.heap.push (newS X.w) := by subst hs3; rfl
  have I3 : Inv X pins σ (upd H2 L (ho0 L)) s3 := by
    subst hs3
    refine I2.laid (t' := s2.toks) (fun _ _ e => Heap.get?_push_of_some _ e) (Nat.le_of_eq hL) ?_
    subst hL
    exact hnew _ _
  have lts : ∀ b ∈ fp, b < s2.heap.objs.size := fun b hb => let ⟨o, e, _⟩ := T.obj _ _ st2 b hb; Heap.lt_size e
  have f3 : ∀ b ∈ fp, FpOk X pins (upd H2 L (ho0 L)) b ∧ b < s3.heap.objs.size := fun b hb =>
    ⟨⟨by rw [upd_ne (by subst hL; exact Nat.ne_of_lt (lts b hb))]; exact (f2 b hb).1, (f2 b hb).2⟩, by rw [h3, Heap.size_push]; exact Nat.lt_succ_of_lt (lts b hb)⟩
  have st3 : tn 0 s3.heap := T.keep _ _ _ st2 fun b _ o e => (by rw [h3]; exact Heap.get?_push_of_some _ e)
  have I4 := block_start I3 ok hN f3
  have pg := hg s3 (upd H2 L (ho0 L)) s3.heap.objs.size (cellsFrom (s3.heap.objs.size + 1) scope.names (cloFrom X.env.cells scope.names [])) fp
  have pt := ht s3 (upd H2 L (ho0 L)) s3.heap.objs.size (cellsFrom (s3.heap.objs.size + 1) scope.names (cloFrom X.env.cells scope.names [])) fp
  have pe := he s3 (upd H2 L (ho0 L)) s3.heap.objs.size (cellsFrom (s3.heap.objs.size + 1) scope.names (cloFrom X.env.cells scope.names [])) fp
  have pa := hadd s3 (upd H2 L (ho0 L)) (compEnvC scope (cellsFrom (s3.heap.objs.size + 1) scope.names (cloFrom X.env.cells scope.names [])) s3.heap.objs.size X.env) fp
  show codeAny _ _ (.compStart (.SetComp elt [⟨tg, iter, ifs, 0⟩] scope pos) 0 (.ref it) (.ref L) (compEnvC scope (cellsFrom (s3.heap.objs.size + 1) scope.names (cloFrom X.env.cells scope.names [])) s3.heap.objs.size X.env)) (compPost (model X.prog X.w) X.A X.xe use Qf (.ref L) s3.heap.objs.size) { s3 with heap := pushCells (s3.heap.push { cls := .type "dict", data := .dict #[] }) scope.names }
  have nfp : ∀ b ∈ fp, (upd H2 L (ho0 L)) b = none := fun b hb => (f3 b hb).1.1
  generalize hce : compEnvC scope (cellsFrom (s3.heap.objs.size + 1) scope.names (cloFrom X.env.cells scope.names [])) s3.heap.objs.size X.env = ce at I4 pg pt pe pa ⊢
  have cL : ce.locals = s3.heap.objs.size := (by subst hce; rfl)
  generalize hH3 : upd H2 L (ho0 L) = H3 at I3 I4 pg pt pe pa w0 nfp f3
  generalize hs4 : ({ s3 with heap := pushCells (s3.heap.push { cls := .type "dict", data := .dict #[] }) scope.names } : Shared) = s4 at I4 ⊢
  have st4 : tn 0 s4.heap := T.keep _ _ _ st3 fun b _ o e => (by subst hs4; exact pushCells_keeps _ _ _ _ (Heap.get?_push_of_some _ e))
  have stat : ∀ {σ' : L2.St} {H' : Hp} {s' : Shared}, Inv (X.blk s3 H3 scope ce fp) [] σ' H' s' → (∀ b ∈ fp, H' b = none) → ∀ b ∈ fp, FpOk (X.blk s3 H3 scope ce fp) [] H' b := fun {σ' H' s'} I' hn b hb =>
    ⟨hn b hb, (I'.ok.exf b hb).1, I'.ok.exfs b hb, .inl hb, fun x c e => (I'.ok.exf b hb).2 x c e, fun r hr => absurd (show r ∈ ([] : List (Addr × Obj)) ++ [] from hr) (by simp)⟩
  have loop : codeAny (model X.prog X.w) X.A (.compLoop (.SetComp elt [⟨tg, iter, ifs, 0⟩] scope pos) 0 (.ref it) (.ref L) ce) (compPost (model X.prog X.w) X.A X.xe use Qf (.ref L) s3.heap.objs.size) s4 := by
    refine PpSet.compLoopS_any (fun n s' => ∃ i H', Inv (X.blk s3 H3 scope ce fp) [] (wipe σ (own.map (·.2))) H' s' ∧ tn i s'.heap ∧ (∀ b ∈ fp, H' b = none) ∧ Wt i n H') ?_ m0 ⟨0, H3, I4, st4, nfp, w0⟩
    rintro n s5 ⟨i, H5, I5, st5, n5, w5⟩
    rcases turn i n H5 w5 with ⟨stop, qq⟩ | ⟨go, Nx, hNx, step⟩
    · refine thnF (T.done (X.blk s3 H3 scope ce fp) rfl rfl rfl hc i [] s5 _ H5 (fun _ _ => False) I5 (stat I5 n5) st5 stop) fun r s6 z => ?_
      obtain ⟨rfl, I6⟩ := z
      have I7 : Inv X pins σ H5 s6 := I3.call' (ch := fp) I6.os I6.base I6.hok I6.bare fun b hb => let z := (f3 b hb).1.2; ⟨z.2.2.1, z.1, z.2.2.2.1, z.2.2.2.2⟩
      have nC : H5 s3.heap.objs.size = none := cL ▸ I6.free
      obtain ⟨m, hn, _⟩ := I6.loc
      exact hRR L s3.heap.objs.size s6 m H5 I7 qq (cL ▸ hn) (I3.fpOk (Nat.le_refl _) nC)
    · refine thnF (T.item (X.blk s3 H3 scope ce fp) rfl rfl rfl hc i [] s5 _ H5 (fun _ _ => False) I5 (stat I5 n5) st5 go) fun r s6 z => ?_
      obtain ⟨u, rfl, h6⟩ := z
      refine thnF h6 fun _ s7 ⟨x, H7, I7, r7, y7, st7, n7⟩ => ?_
      refine thnF (pg.run _ s7 _ H7 x u _ (I7.pinned (stat I7 n7) (T.obj _ _ st7)) r7 (step x H7 y7)) fun _ s8 z8 => ?_
      obtain ⟨σ8, H8, I8, hw8, q8⟩ := z8
      refine thnF (pt.run _ s8 σ8 H8 _ I8 q8) fun b s9 z9 => ?_
      obtain ⟨H9, I9, q9⟩ := z9
      have fin : ∀ {s' : Shared} {H' : Hp}, Inv (X.blk s3 H3 scope ce fp) ([] ++ pinsAt fp s7.heap) σ8 H' s' → Nx H' → ∃ m, m < n ∧ ∃ i H', Inv (X.blk s3 H3 scope ce fp) [] (wipe σ (own.map (·.2))) H' s' ∧ tn i s'.heap ∧ (∀ b ∈ fp, H' b = none) ∧ Wt i m H' := fun {s' H'} I' nx => by
        obtain ⟨m', hm, w'⟩ := hNx H' nx
        have pin' : ∀ b ∈ fp, ∀ o, s7.heap.get? b = some o → s'.heap.get? b = some o ∧ H' b = none := fun b hb o e => let z := I'.pin (b, o) (List.mem_append_right _ (List.mem_append_right _ (mem_pinsAt hb e))); ⟨z.1, z.2.1⟩
        refine ⟨m', hm, i + 1, H', (I'.unpinned (pins := [])).weak (by rw [← hw8, wipe_length]) (fun j v e => (wipe_some (by rw [hw8]; exact e)).1), T.keep _ _ _ st7 fun b hb o e => (pin' b hb o e).1, fun b hb => ?_, w'⟩
        obtain ⟨o, e, _⟩ := T.obj _ _ st7 b hb
        exact (pin' b hb o e).2
      cases b with
      | false => exact fin I9 q9
      | true =>
        refine thnF (pe.run _ s9 σ8 H9 _ I9 q9) fun z s10 zz => ?_
        obtain ⟨yv, H10, I10, r10, ra⟩ := zz
        refine thnF (pa _ s10 σ8 H10 (.ref L) [yv] (.ref L) [z] _ I10 rfl (.cons r10 .nil) ra) fun _ s11 z11 => ?_
        obtain ⟨_, H11, I11, _, nx⟩ := z11
        exact fin I11 nx
  exact PpSet.codeAny_compStart_set loop (T.self X.A 0 _ _ _ st4 loop)
theorem pe_sca {elt tg iter : Expr} {ifs : List Expr} {scope : Scope} {own : List (Str × Nat)} {pos : Pos} {ho0 : Addr → HO} {rA : V → List V → Hp → VK → Prop} {wi : TI} {g : TG} {tt : TT} {te : TE} (hc : X.calm = true) (hN : X.N.Nodup) (hi : PI X tg iter wi) (ok : BlkOk X.N X.env.scope scope own)
    (hnew : ∀ (H' : Hp) (h : Heap), ObjOk X.prog X.w H' (h.push (newS X.w)) h.objs.size (ho0 h.objs.size))
    (hadd : ∀ (s : Shared) (H : Hp) (ce : PySem.Env) (fp : List Addr), MtR (X.blk s H scope ce fp) "set.add" rA)
    (hg : ∀ (s : Shared) (H : Hp) (C : Addr) (cl : List (Str × Addr)) (fp : List Addr), PG (X.blk s H scope (compEnvC scope cl C X.env) fp) tg g) (ht : ∀ (s : Shared) (H : Hp) (C : Addr) (cl : List (Str × Addr)) (fp : List Addr), PTs (X.blk s H scope (compEnvC scope cl C X.env) fp) ifs tt)
    (he : ∀ (s : Shared) (H : Hp) (C : Addr) (cl : List (Str × Addr)) (fp : List Addr), PE (X.blk s H scope (compEnvC scope cl C X.env) fp) elt te) (hs : ∀ x, foldedSetIterable iter X.env x = pure x := by intro _; rfl) :
    PE X (.SetComp elt [⟨tg, iter, ifs, 0⟩] scope pos) (tScA ho0 rA wi g tt te (own.map (·.2))) := by
  refine ⟨fun pins s σ H Q I h => ?_⟩
  rw [PpSet.eval_SetComp]
  refine sca_core hc hN I hi ok hnew hadd hg ht he hs h fun D C s' m H' I' q hn f => ⟨m, hn, fun h'' sb => ?_⟩
  obtain ⟨f0, f1, f2, f3, f4, f5⟩ := f
  exact ⟨.ref D, H', I'.turned (t' := s'.toks) (fun b o hb e => (sb.2 b hb).trans e) f0 f1 f3 f4 f5, rfl, q⟩
/-! ### what is done with it -/
def tLenK (P : Program) (w : World) (te : TE) : TE := fun σ H Q => te σ H fun x H1 => ∃ (a : Addr) (S : Key → Bool) (n : Nat), x = V.ref a ∧ H1 a = some (SetK P w a S n) ∧ n < 1000000 ∧ Q (.int n) H1
theorem pe_lenK {e : Expr} {te : TE} {p pos : Pos} (hg : Gl X "len") (hm : X.mg "len" = none) (he : PE X e te) (na : starEach [e] X.env = (false, eval e X.env) :: starEach [] X.env := by rfl) : PE X (.Call (.Name "len" p) [e] [] pos) (tLenK X.prog X.w te) := by
  refine ⟨fun pins s σ H Q I h => ?_⟩
  refine Call_ (ld_blt I hg hm PySem.boot_len ?_)
  refine PyProof.Rows.callWith_builtin1 (PyProof.Rows.args_cons (thn (he.run pins s σ H _ I h) fun v s1 ⟨x, H1, I1, r1, q1⟩ => PyProof.Rows.args_nil ?_) na) na rfl
  obtain ⟨a, S, n, rfl, ha, h1, q1⟩ := q1
  cases r1
  obtain ⟨o, es, ep, t, ho, hex, hd, _, _, _, hf, hn⟩ := setK_get I1 ha
  exact call_len_set ho hex hd hf (by rw [hn]; omega) ⟨.int n, H1, I1.tok _, ⟨_, by rw [hn]⟩, q1⟩
theorem pe_sortS {e : Expr} {te : TE} {p pos : Pos} (hc : X.calm = true) (hg : Gl X "sorted") (hm : X.mg "sorted" = none) (he : PE X e te) (na : starEach [e] X.env = (false, eval e X.env) :: starEach [] X.env := by rfl) : PE X (.Call (.Name "sorted" p) [e] [] pos) (fun σ H Q => te σ H fun x H1 => rSortedSet X.w [x] H1 Q) := by
  refine ⟨fun pins s σ H Q I h => ?_⟩
  refine Call_ (ld_blt I hg hm PyProof.Rows.boot_sorted ?_)
  refine PyProof.Rows.callWith_builtin1 (PyProof.Rows.args_cons (thn (he.run pins s σ H _ I h) fun v s1 ⟨x, H1, I1, r1, q1⟩ => PyProof.Rows.args_nil ?_) na) na rfl
  exact cr_sortedSet hc pins s1 σ H1 [x] [v] Q I1 (.cons r1 .nil) q1
end
/-- a set comprehension over a walk -/
theorem sc_it {J : It} {n : Nat} {Gd : Hp → Prop} {Y : Nat → Hp → V → Hp → Prop} (w : Walk J n Gd Y) {ho0 : Addr → HO} {rA : V → List V → Hp → VK → Prop} {g : TG} {tt : TT} {te : TE} {vs : List Nat} {σ : L2.St} {H1 : Hp} {D : Addr} {Qd : Hp → Prop} (Pv : Nat → Hp → Prop) (h0 : Pv 0 (upd H1 D (ho0 D))) (hG : ∀ i H, i ≤ n → Pv i H → Gd H)
    (hs : ∀ i x H H', i < n → Pv i H → Y i H x H' → g x (wipe σ vs) H' fun σ2 H2 => wipe σ2 vs = wipe σ vs ∧ tt σ2 H2 fun b H3 =>
      if b = true then te σ2 H3 fun y H4 => rA (.ref D) [y] H4 fun _ H5 => Pv (i + 1) H5 else Pv (i + 1) H3) (hd : ∀ H, Pv n H → Qd H) :
    ∃ Wt : Nat → Nat → Hp → Prop, (∃ m, Wt 0 m (upd H1 D (ho0 D))) ∧ ∀ i m H, Wt i m H →
      (J.stop i H ∧ Qd H) ∨ (J.go i H ∧ ∃ Nx : Hp → Prop, (∀ H', Nx H' → ∃ m', m' < m ∧ Wt (i + 1) m' H') ∧ ∀ x H', J.yld i H x H' → g x (wipe σ vs) H' fun σ2 H2 => wipe σ2 vs = wipe σ vs ∧ tt σ2 H2 fun b H3 =>
        if b = true then te σ2 H3 fun y H4 => rA (.ref D) [y] H4 fun _ H5 => Nx H5 else Nx H3) := by
  refine ⟨fun i m H => m = n - i ∧ i ≤ n ∧ Pv i H, ⟨n, (by simp), Nat.zero_le _, h0⟩, fun i m H z => ?_⟩
  obtain ⟨rfl, hi, p⟩ := z
  have q := hG i H hi p
  rcases Nat.lt_or_ge i n with hlt | hge
  · exact .inr ⟨w.goes i H hlt q, Pv (i + 1), fun H' p' => ⟨n - (i + 1), (by omega), rfl, hlt, p'⟩, fun x H' y => hs i x H H' hlt p (w.yields i H x H' hlt q y)⟩
  · obtain rfl : i = n := (by omega)
    exact .inl ⟨w.stops H q, hd H p⟩
theorem compLoop_pre {body : Env → R (Option D)} {t : Tg} : ∀ (ds acc : List D) (s s' : Env) (r : List D), compLoop body t ds acc s = .ok r s' → ∃ l, r = acc ++ l
  | [], acc, s, s', r, h => by
    unfold compLoop at h
    cases h
    exact ⟨[], (List.append_nil _).symm⟩
  | d :: ds, acc, s, s', r, h => by
    unfold compLoop at h
    split at h
    · cases h
    · obtain ⟨o, s2, _, h⟩ := R.bind_ok h
      obtain ⟨l, e⟩ := compLoop_pre ds _ _ _ _ h
      cases o with
      | none => exact ⟨l, e⟩
      | some y => exact ⟨[y] ++ l, by rw [e]; simp⟩
section
variable {M : Pm} {G : Gh} {W : WX} {F F' : Hp} {σ : L2.St} {Q Q' : VK} {X : Cx} {e a b c : Expr} {ca cb cc : E} {pos : Pos} {es : List Expr} {ces : List E}
/-- what is asked of the list comprehension, its answer taken as a set -/
def PostS (M : Pm) (G : Gh) (W : WX) (F : Hp) (σ : L2.St) (hoF : Addr → List D → HO) (okD : D → Bool) (res : R Res) (Q : VK) : Prop := match res with
  | .ok r s' => ∃ acc, r = .tmp (.lst acc) ∧ acc.all okD = true ∧ acc.length ≤ 4000 ∧ ∀ as' F' H' D, Same F F' → StA M.K G as' F' s' σ H' → H' D = some (hoF D acc) → Q (.ref D) H'
  | .ex x p s' => ∀ as' F' H' cls d, Same F F' → StA M.K G as' F' s' σ H' → XRel M x p cls d F' H' → W cls d σ H'
  | .stk => False
theorem scomp_core {k : IK} {src : List E} {t : Tg} {own : List Nat} {celt : E} {cnd : Option E} {wi : TI} {tt : TT} {as : Nat → List Addr} {s : Env} {H : Hp} {hoF : Addr → List D → HO} {okD : D → Bool} {rA : V → List V → Hp → VK → Prop}
    (hA : ∀ (Dn : Addr) (accD : List D) (dd : D) (y : V) (F H : Hp) (Q : VK), Rp M.K F y dd → okD dd = true → accD.length < 4000 → H Dn = some (hoF Dn accD) → Q .non (upd H Dn (hoF Dn (accD ++ [dd]))) → rA (.ref Dn) [y] H Q)
    (hnt : ∀ (Dn : Addr) (accD : List D) (xs : List V), hoF Dn accD ≠ .tup xs) (hown : ∀ i ∈ t.slots, i ∈ own) (htt : Cnd M cnd tt) (hwi : ∀ Rr, (∃ G as F s, StA M.K G as F s σ H ∧ PostI M G W F σ k (evr M.Γ src s) Rr) → wi σ H Rr)
    (S : StA M.K G as F s σ H) (h : PostS M G W F σ hoF okD (ev M.Γ false (.comp celt t k src cnd own) s) Q) : tScA (fun Dn => hoF Dn []) rA wi (tgT t) tt (tE M W0 celt) own σ H Q := by
  refine hwi _ ⟨G, as, F, s, S, ?_⟩
  have h : PostS M G W F σ hoF okD ((evr M.Γ src s).bind fun rs s1 => match (lookAll s1 rs).bind (itF k) with
    | none => .stk
    | some items => match srcE k s1 rs with
      | none => .stk
      | some s2 => if plainE s2 own = false ∨ big < items.length then .stk else match compLoop (compBody M.Γ celt cnd own) t items [] (wipeE s2 own) with
        | .ok acc s3 => .ok (.tmp (.lst acc)) (restE s2 s3 own)
        | _ => .stk) Q := by
    simp only [ev, fin_false] at h
    exact h
  cases e1 : evr M.Γ src s with
  | stk => rw [e1] at h; exact h
  | ex x p s' => rw [e1] at h; exact h
  | ok rs s1 =>
    rw [e1] at h
    simp only [R.bind] at h
    simp only [PostI]
    cases e2 : (lookAll s1 rs).bind (itF k) with
    | none => rw [e2] at h; exact h.elim
    | some items =>
      rw [e2] at h
      simp only at h
      cases e3 : srcE k s1 rs with
      | none => rw [e3] at h; exact h.elim
      | some s2 =>
        rw [e3] at h
        simp only at h
        intro as1 F1 H1 J sf1 S1 wd Dn hD
        split at h
        · exact h.elim
        rename_i hpl
        have pl : plainE s2 own = true := by
          cases q : plainE s2 own with
          | true => rfl
          | false => exact absurd (.inl q) hpl
        have pl2 := plainE_at pl
        obtain ⟨asw, Sw, hsw⟩ := S1.wipe (own := own) fun i hi => by
          rcases pl2 i hi with q | ⟨d, q⟩
          · exact .inl q
          · exact .inr ⟨_, q⟩
        cases e4 : compLoop (compBody M.Γ celt cnd own) t items [] (wipeE s2 own) with
        | stk => rw [e4] at h; exact h.elim
        | ex x p s' => rw [e4] at h; exact h.elim
        | ok acc s3 =>
          rw [e4] at h
          obtain ⟨acc', ea, hall, hlen, hq⟩ := h
          cases ea
          obtain ⟨st, hst, wk⟩ := wd
          have AD : Alien G asw F1 Dn := ⟨S1.same.free hD, by
            cases q : G.H0 Dn with
            | none => rfl
            | some o => exact absurd hD (S1.dom Dn (by rw [q]; simp)), fun i hi => S1.there (hsw i _ hi) hD⟩
          have SE := Sw.enter (.refl _) Sw.same
          have lenW : ∀ i ∈ own, i < s2.length := fun i hi => by
            rcases pl2 i hi with q | ⟨d, q⟩ <;> exact (List.getElem?_eq_some_iff.mp q).1
          refine sc_it (ho0 := fun Dn => hoF Dn []) (rA := rA) (g := tgT t) (tt := tt) (te := tE M W0 celt) (vs := own) (σ := σ) (H1 := H1) (D := Dn) (Qd := Q (.ref Dn)) wk (fun i H => ∃ (asi : Nat → List Addr) (Fi : Hp) (si : Env) (accD : List D), StA M.K (G.reg F1 H1 (wipeE s2 own) asw) asi Fi si (L2.wipe σ own) H ∧ H Dn = some (hoF Dn accD) ∧
              Alien (G.reg F1 H1 (wipeE s2 own) asw) asi Fi Dn ∧ Same F1 Fi ∧ (∀ j ∈ own, si[j]? = some none) ∧ compLoop (compBody M.Γ celt cnd own) t (items.drop i) accD si = .ok acc s3) ?_ ?_ ?_ ?_
          · exact ⟨asw, F1, _, [], SE.other ⟨AD.f, hD, AD.a⟩, upd_same, ⟨AD.f, hD, AD.a⟩, .refl _, fun j hj => wipeE_in hj (lenW j hj), e4⟩
          · rintro i H2 _ ⟨asi, Fi, si, accD, Si, _, _, sfi, _, _⟩
            refine hst H2 (sfi.trans Si.same) fun i' m' c' q o e' hm' hj' hq => Si.fra q o (fun z => ?_) hq
            obtain ⟨j, m, c, e, hm, hj⟩ := mem_ownAt.mp z
            have : s2[j]? = some (some (m, c)) := by
              by_cases y : j ∈ own
              · rw [wipeE_in y (lenW j y)] at e; cases e
              · rw [wipeE_out y] at e; exact e
            have ej : j = i' := S1.dis j i' q (hsw j q hj) hj'
            subst ej
            rw [this] at e'
            cases e'
            rw [hm] at hm'
            cases hm'
          · rintro i x H2 H3 hi ⟨asi, Fi, si, accD, Si, hDi, ADi, sfi, emi, li⟩ ⟨rfl, d, hd, rx⟩
            have ed : items.drop i = d :: items.drop (i + 1) := by
              rw [List.drop_eq_getElem_cons hi]
              congr 1
              rw [List.getElem?_eq_getElem hi] at hd
              exact Option.some.inj hd
            rw [ed] at li
            unfold compLoop at li
            split at li
            · cases li
            rename_i s1' eb
            obtain ⟨o, s2', eo, li⟩ := R.bind_ok li
            have SI := Si.enter (.refl _) Si.same
            refine bindT_ok SI (fun j hj => .inl (emi j (hown j hj))) (rx.mono sfi) eb fun as' σ2 S2 hsub hout => ?_
            have hw : L2.wipe σ2 own = L2.wipe σ own := by
              have hl2 : σ2.length = σ.length := by
                rw [← S2.len, bindT_len eb, Si.len, wipe_length]
              apply List.ext_getElem?
              intro j
              by_cases z : j ∈ own
              · by_cases y : j < σ.length
                · rw [wipe_in z y, wipe_in z (by rw [hl2]; exact y)]
                · rw [List.getElem?_eq_none (by rw [wipe_length]; omega), List.getElem?_eq_none (by rw [wipe_length]; omega)]
              · rw [wipe_out z, hout j (fun y => z (hown j y))]
            refine ⟨hw, ?_⟩
            have nxt : ∀ {sb : Env} {asb : Nat → List Addr} {Fb Hb : Hp}, StA M.K ((G.reg F1 H1 (wipeE s2 own) asw).reg Fi H3 si asi) asb Fb sb σ2 Hb → freeI sb own = true →
                ∃ asc, StA M.K (G.reg F1 H1 (wipeE s2 own) asw) asc Fb (wipeE sb own) (L2.wipe σ own) Hb ∧ Hb Dn = some (hoF Dn accD) ∧ Alien (G.reg F1 H1 (wipeE s2 own) asw) asc Fb Dn ∧ Same Fi Fb ∧ ∀ j ∈ own, (wipeE sb own)[j]? = some none := by
              intro sb asb Fb Hb Sb hf
              obtain ⟨asc, Sc, _⟩ := Sb.wipe (freeI_at hf)
              rw [hw] at Sc
              obtain ⟨A2, h2⟩ := Sc.alien ADi hDi (hnt _ _)
              exact ⟨asc, Si.leave (.refl _) Sc, h2, ⟨A2.f, ADi.o, A2.a⟩, Sc.f0, fun j hj => wipeE_in hj (freeI_at hf j hj).lt⟩
            have el : ∀ {sb : Env} {asb : Nat → List Addr} {Fb Hb : Hp}, StA M.K ((G.reg F1 H1 (wipeE s2 own) asw).reg Fi H3 si asi) asb Fb sb σ2 Hb → ((ev M.Γ false celt sb).bind fun r s' => keepR s' r own) = .ok o s2' →
                tE M W0 celt σ2 Hb fun y H4 => rA (.ref Dn) [y] H4 fun _ H5 => ∃ (asi : Nat → List Addr) (Fi : Hp) (si : Env) (accD : List D), StA M.K (G.reg F1 H1 (wipeE s2 own) asw) asi Fi si (L2.wipe σ own) H5 ∧ H5 Dn = some (hoF Dn accD) ∧
                  Alien (G.reg F1 H1 (wipeE s2 own) asw) asi Fi Dn ∧ Same F1 Fi ∧ (∀ j ∈ own, si[j]? = some none) ∧ compLoop (compBody M.Γ celt cnd own) t (items.drop (i + 1)) accD si = .ok acc s3 := by
              intro sb asb Fb Hb Sb eo'
              obtain ⟨r, s5, e5, e6⟩ := R.bind_ok eo'
              refine ⟨_, asb, Fb, sb, Sb, ?_⟩
              rw [e5]
              intro as5 F5 H5 y aT sf5 S5 R5
              unfold keepR at e6
              split at e6
              · rename_i dd s6 e7
                split at e6
                · rename_i hf
                  cases e6
                  obtain ⟨as6, F6, sf6, S6, rp⟩ := frz_ok S5 R5 e7
                  obtain ⟨asc, Sc, h2, A2, sf7, emc⟩ := nxt S6 hf
                  obtain ⟨l, el⟩ := compLoop_pre _ _ _ _ _ li
                  have el : acc = accD ++ [dd] ++ l := el
                  have hok : okD dd = true := List.all_eq_true.mp hall dd (by rw [el]; simp)
                  have hln : accD.length < 4000 := by
                    rw [el] at hlen
                    simp at hlen
                    omega
                  exact hA Dn accD dd y F6 H5 _ rp hok hln h2 ⟨asc, F6, _, accD ++ [dd], Sc.other A2, upd_same, A2, sfi.trans sf7, emc, li⟩
                · cases e6
              · cases e6
            cases htt with
            | no => exact el S2 eo
            | yes cc =>
              obtain ⟨rc, sc, e5, e6⟩ := R.bind_ok (show ((ev M.Γ true cc s1').bind fun rc sc => match boolR rc with
                | some true => (ev M.Γ false celt sc).bind fun r s' => keepR s' r own
                | some false => if freeI sc own = true then .ok none (wipeE sc own) else .stk
                | none => .stk) = .ok o s2' from eo)
              refine ⟨_, as', Fi, s1', S2, ?_⟩
              rw [e5]
              intro as5 F5 H5 v aT sf5 S5 R5
              cases eb5 : boolR rc with
              | none => rw [eb5] at e6; cases e6
              | some k =>
                rw [eb5] at e6
                refine ⟨k, (boolR_rel R5 eb5).1, ?_⟩
                cases k with
                | true =>
                  rw [if_pos rfl]
                  exact el S5 e6
                | false =>
                  rw [if_neg Bool.false_ne_true]
                  simp only at e6
                  split at e6
                  · rename_i hf
                    cases e6
                    obtain ⟨asc, Sc, h2, A2, sf7, emc⟩ := nxt S5 hf
                    exact ⟨asc, F5, _, accD, Sc, h2, A2, sfi.trans sf7, emc, li⟩
                  · cases e6
          · rintro H2 ⟨asi, Fi, si, accD, Si, hDi, ADi, sfi, emi, li⟩
            rw [List.drop_length] at li
            unfold compLoop at li
            cases li
            have SL := Sw.leave (.refl _) Si
            have SR := SL.rest (s2 := s2) emi fun i hi => by
              rcases pl2 i hi with q | ⟨d, q⟩
              · exact .inl q
              · obtain ⟨v, h1, h2⟩ := S1.cell _ _ _ q
                generalize as1 i = l at h2
                cases h2 with
                | val r => exact .inr ⟨d, v, q, h1, r.mono sfi⟩
            exact hq asi Fi H2 Dn (sf1.trans sfi) SR hDi
/-! ### the two families -/
def memK {A : Type} [DecidableEq A] (l : List A) (j : A) : Bool := l.any fun x => decide (j = x)
theorem memK_iff {A : Type} [DecidableEq A] {l : List A} {j : A} : memK l j = true ↔ j ∈ l := by
  unfold memK
  rw [List.any_eq_true]
  constructor
  · rintro ⟨x, h, e⟩
    rw [of_decide_eq_true e]
    exact h
  · exact fun h => ⟨j, h, decide_eq_true rfl⟩
theorem memK_snoc {A : Type} [DecidableEq A] (l : List A) (k j : A) : memK (l ++ [k]) j = (memK l j || decide (j = k)) := by
  unfold memK
  rw [List.any_append]
  simp
def hoK (P : Program) (w : World) (a : Addr) (ds : List D) : HO := SetK P w a (fun j => memK (keysL ds) j) (dst (keysL ds)).length
def hoI (w : World) (a : Addr) (ds : List D) : HO := SetO w a (fun j => decide (j ∈ intsL ds)) (dst (intsL ds)).length
theorem hoK_new (H' : Hp) (h : Heap) : ObjOk X.prog X.w H' (h.push (newS X.w)) h.objs.size (hoK X.prog X.w h.objs.size []) := by
  have new : (h.push (newS X.w)).SetOf (mixKind X.prog X.w) h.objs.size (fun _ => false) 0 :=
    ⟨_, #[], 0, _, Heap.get?_push_size _ rfl, ⟨rfl, rfl, rfl⟩, rfl, (fun e he => by simp at he), (fun k => by simp), (by decide), (by rfl), rfl⟩
  have e : (fun j : Key => memK (keysL []) j) = fun _ => false := by
    funext j
    rfl
  unfold hoK
  rw [e]
  exact setK_new new
theorem hoI_new (H' : Hp) (h : Heap) : ObjOk X.prog X.w H' (h.push (newS X.w)) h.objs.size (hoI X.w h.objs.size []) := by
  have e : (fun j : Int => decide (j ∈ intsL [])) = fun _ => false := by
    funext j
    simp [intsL]
  unfold hoI
  rw [e]
  exact setO_new (setR_fresh X.w)
theorem len_le {A : Type} {f : D → Option A} : ∀ ds : List D, (ds.filterMap f).length ≤ ds.length := fun ds => List.length_filterMap_le _ _
theorem hoK_add {K : PySem.W.Frag} {P : Program} {w : World} (Dn : Addr) (accD : List D) (dd : D) (y : V) (F H : Hp) (Q : VK) (r : Rp K F y dd) (hok : (keyD dd).isSome = true) (hl : accD.length < 4000) (hD : H Dn = some (hoK P w Dn accD)) (q : Q .non (upd H Dn (hoK P w Dn (accD ++ [dd])))) : rSAddK P w (.ref Dn) [y] H Q := by
  obtain ⟨k, hk⟩ := Option.isSome_iff_exists.mp hok
  have ey : y = kV k := by
    cases dd with
    | int i =>
      cases hk
      cases r
      rfl
    | str x =>
      cases hk
      cases r
      rfl
    | _ => cases hk
  have ek : keysL (accD ++ [dd]) = keysL accD ++ [k] := by
    unfold keysL
    rw [List.filterMap_append, List.filterMap_cons, hk]
    rfl
  have h1 := dst_le (keysL accD)
  have h2 : (keysL accD).length ≤ accD.length := len_le _
  have e : hoK P w Dn (accD ++ [dd]) = SetK P w Dn (fun j => memK (keysL accD) j || decide (j = k)) (if memK (keysL accD) k = true then (dst (keysL accD)).length else (dst (keysL accD)).length + 1) := by
    unfold hoK
    rw [ek, dst_snoc]
    congr 1
    · funext j
      exact memK_snoc _ _ _
    · by_cases z : k ∈ keysL accD
      · rw [if_pos z, if_pos (memK_iff.mpr z)]
      · rw [if_neg z, if_neg fun q => z (memK_iff.mp q)]
  rw [e] at q
  exact ⟨Dn, k, _, _, rfl, by rw [ey], hD, by unfold scanBound; omega, q⟩
theorem hoI_add {K : PySem.W.Frag} {w : World} (Dn : Addr) (accD : List D) (dd : D) (y : V) (F H : Hp) (Q : VK) (r : Rp K F y dd) (hok : (intD dd).isSome = true) (hl : accD.length < 4000) (hD : H Dn = some (hoI w Dn accD)) (q : Q .non (upd H Dn (hoI w Dn (accD ++ [dd])))) : rSAdd w (.ref Dn) [y] H Q := by
  obtain ⟨k, hk⟩ := Option.isSome_iff_exists.mp hok
  have ey : y = .int k := by
    cases dd with
    | int i =>
      cases hk
      cases r
      rfl
    | _ => cases hk
  have ek : intsL (accD ++ [dd]) = intsL accD ++ [k] := by
    unfold intsL
    rw [List.filterMap_append, List.filterMap_cons, hk]
    rfl
  have h1 := dst_le (intsL accD)
  have h2 : (intsL accD).length ≤ accD.length := len_le _
  have e : hoI w Dn (accD ++ [dd]) = SetO w Dn (fun j => decide (j ∈ intsL accD) || decide (j = k)) (if decide (k ∈ intsL accD) = true then (dst (intsL accD)).length else (dst (intsL accD)).length + 1) := by
    unfold hoI
    rw [ek, dst_snoc]
    congr 1
    · funext j
      simp
    · by_cases z : k ∈ intsL accD
      · rw [if_pos z, if_pos (decide_eq_true z)]
      · rw [if_neg z, if_neg (by rw [decide_eq_false z]; exact Bool.false_ne_true)]
  rw [e] at q
  exact ⟨Dn, k, _, _, rfl, by rw [ey], hD, by unfold scanBound; omega, q⟩
theorem comp_form {Γ : Cfg} {celt : E} {t : Tg} {k : IK} {src : List E} {cnd : Option E} {own : List Nat} {s s' : Env} {r : Res} (h : ev Γ false (.comp celt t k src cnd own) s = .ok r s') : ∃ acc, r = .tmp (.lst acc) := by
  have hh : ev Γ false (.comp celt t k src cnd own) s = (evr Γ src s).bind fun rs s1 => match (lookAll s1 rs).bind (itF k) with
    | none => .stk
    | some items => match srcE k s1 rs with
      | none => .stk
      | some s2 => if plainE s2 own = false ∨ big < items.length then .stk else match compLoop (compBody Γ celt cnd own) t items [] (wipeE s2 own) with
        | .ok acc s3 => .ok (.tmp (.lst acc)) (restE s2 s3 own)
        | _ => .stk := by
    simp only [ev, fin_false]
    rfl
  rw [hh] at h
  obtain ⟨rs, s1, _, h⟩ := R.bind_ok h
  split at h
  · cases h
  · split at h
    · cases h
    · split at h
      · cases h
      · split at h
        · cases h
          exact ⟨_, rfl⟩
        · cases h
/-- a call on the set that a comprehension makes -/
theorem set_post {f : Lib} {ce : E} {hoF : Addr → List D → HO} {okD : D → Bool} {s : Env} {Q' : VK} (hform : ∀ r s', ev M.Γ false ce s = .ok r s' → ∃ acc, r = .tmp (.lst acc)) (h : Post M G W F σ (ev M.Γ false (.lib f [ce]) s) Q)
    (hf : ∀ acc r, libF f [.list acc] = some r → acc.all okD = true ∧ acc.length ≤ 4000 ∧ ∀ F' H' D, H' D = some (hoF D acc) → Same F' H' → OutQ M.K F' H' r Q → Q' (.ref D) H') : PostS M G W F σ hoF okD (ev M.Γ false ce s) Q' := by
  simp only [ev, fin_false] at h
  cases e1 : ev M.Γ false ce s with
  | stk =>
    simp only [evr, e1, R.bind] at h
    exact h
  | ex x p s' =>
    simp only [evr, e1, R.bind] at h
    exact h
  | ok r s' =>
    obtain ⟨acc, rfl⟩ := hform r s' e1
    simp only [evr, e1, R.bind, hold, Cell.d?, Option.map_some, lookAll, look, Option.bind_some] at h
    cases e2 : libF f [.list acc] with
    | none =>
      rw [e2] at h
      exact h.elim
    | some r2 =>
      obtain ⟨h1, h2, h3⟩ := hf acc r2 e2
      refine ⟨acc, rfl, h1, h2, fun as' F' H' D sf S' hD => ?_⟩
      have h' : Post M G W F' σ (R.opt (libF f [.list acc]) s') Q := by
        rw [e2] at h ⊢
        exact fun as'' F'' H'' v aT sf2 S'' R'' => h as'' F'' H'' v aT (sf.trans sf2) S'' R''
      obtain ⟨r3, e3, q⟩ := Post.opt S' h'
      rw [e2] at e3
      cases e3
      exact h3 F' H' D hD S'.same q
section
variable {elt tg iter : Expr} {ifs : List Expr} {scope : Scope} {own : List (Str × Nat)} {k : IK} {src : List E} {t : Tg} {celt : E} {cnd : Option E} {tt : TT} {p pos2 : Pos}
/-- len({..}), ints and texts -/
theorem ev_slen (hc : X.calm = true) (hN : X.N.Nodup) (ok : BlkOk X.N X.env.scope scope own) (hgl : Gl X "len") (hm : X.mg "len" = none)
    (hi : IV M X tg iter k src) (hg : ∀ s H C cl fp, PG (X.blk s H scope (compEnvC scope cl C X.env) fp) tg (tgT t)) (ht : ∀ s H C cl fp, PTs (X.blk s H scope (compEnvC scope cl C X.env) fp) ifs tt) (htt : Cnd M cnd tt)
    (he : ∀ s H C cl fp, EV M (X.blk s H scope (compEnvC scope cl C X.env) fp) elt celt) (hown : ∀ i ∈ t.slots, i ∈ own.map (·.2)) (hf : ∀ x, foldedSetIterable iter X.env x = pure x := by intro _; rfl)
    (na : starEach [.SetComp elt [⟨tg, iter, ifs, 0⟩] scope pos] X.env = (false, eval (.SetComp elt [⟨tg, iter, ifs, 0⟩] scope pos) X.env) :: starEach [] X.env := by rfl) :
    EV M X (.Call (.Name "len" p) [.SetComp elt [⟨tg, iter, ifs, 0⟩] scope pos] [] pos2) (.lib .slen [.comp celt t k src cnd (own.map (·.2))]) :=
  ⟨fun W tk => PE.imp (pe_lenK hgl hm (pe_sca (ho0 := fun Dn => hoK X.prog X.w Dn []) (rA := rSAddK X.prog X.w) hc hN (hi.run W tk) ok hoK_new (fun s H ce fp => mt_saddK (X := X.blk s H scope ce fp)) hg ht (fun s H C cl fp => (he s H C cl fp).run W0 takesN0) hf) na) fun σ H Q ⟨G, as, F, s, S, h⟩ => by
    refine scomp_core (M := M) (okD := fun d => (keyD d).isSome) (hoF := hoK X.prog X.w) (fun Dn accD dd y F H Q r hok hl hD q => hoK_add Dn accD dd y F H Q r hok hl hD q) (fun _ _ _ h => by cases h) hown htt (fun _ q => q) S (set_post (fun r s' e => comp_form e) h fun acc r e => ?_)
    unfold libF at e
    dsimp only at e
    split at e
    · rename_i hh
      cases e
      have h1 := dst_le (keysL acc)
      have h2 : (keysL acc).length ≤ acc.length := len_le _
      exact ⟨hh.1, hh.2, fun F' H' D hD sm q => ⟨D, _, _, rfl, hD, by omega, q.same sm (.int _)⟩⟩
    · cases e⟩
/-- sorted({..}), ints -/
theorem ev_ssort (hc : X.calm = true) (hN : X.N.Nodup) (ok : BlkOk X.N X.env.scope scope own) (hgl : Gl X "sorted") (hm : X.mg "sorted" = none)
    (hi : IV M X tg iter k src) (hg : ∀ s H C cl fp, PG (X.blk s H scope (compEnvC scope cl C X.env) fp) tg (tgT t)) (ht : ∀ s H C cl fp, PTs (X.blk s H scope (compEnvC scope cl C X.env) fp) ifs tt) (htt : Cnd M cnd tt)
    (he : ∀ s H C cl fp, EV M (X.blk s H scope (compEnvC scope cl C X.env) fp) elt celt) (hown : ∀ i ∈ t.slots, i ∈ own.map (·.2)) (hf : ∀ x, foldedSetIterable iter X.env x = pure x := by intro _; rfl)
    (na : starEach [.SetComp elt [⟨tg, iter, ifs, 0⟩] scope pos] X.env = (false, eval (.SetComp elt [⟨tg, iter, ifs, 0⟩] scope pos) X.env) :: starEach [] X.env := by rfl) :
    EV M X (.Call (.Name "sorted" p) [.SetComp elt [⟨tg, iter, ifs, 0⟩] scope pos] [] pos2) (.lib .ssort [.comp celt t k src cnd (own.map (·.2))]) :=
  ⟨fun W tk => PE.imp (pe_sortS hc hgl hm (pe_sca (ho0 := fun Dn => hoI X.w Dn []) (rA := rSAdd X.w) hc hN (hi.run W tk) ok hoI_new (fun s H ce fp => mt_sadd (X := X.blk s H scope ce fp)) hg ht (fun s H C cl fp => (he s H C cl fp).run W0 takesN0) hf) na) fun σ H Q ⟨G, as, F, s, S, h⟩ => by
    refine scomp_core (M := M) (okD := fun d => (intD d).isSome) (hoF := hoI X.w) (fun Dn accD dd y F H Q r hok hl hD q => hoI_add Dn accD dd y F H Q r hok hl hD q) (fun _ _ _ h => by cases h) hown htt (fun _ q => q) S (set_post (fun r s' e => comp_form e) h fun acc r e => ?_)
    unfold libF at e
    dsimp only at e
    split at e
    · rename_i hh
      cases e
      refine ⟨hh.1, hh.2.1, fun F' H' D hD sm q => ⟨D, _, _, rfl, hD, hh.2.2, fun ns p hp hmem hlen hn => ?_⟩⟩
      have hnd : ns.Nodup := hp.imp fun h => by omega
      have pm : ns.Perm (dst (intsL acc)) := (List.perm_ext_iff_of_nodup hnd (dst_nodup _)).mpr fun x => by
        rw [hmem, decide_eq_true_iff, dst_mem]
      rw [sort_unique pm (hp.imp fun h => by omega)]
      exact q.list sm hn (.of_ints _)
    · cases e⟩
end
end
end MP

set_option linter.all false
set_option maxRecDepth 100000
set_option maxHeartbeats 2000000
/-! MP: len({..}) of tuples of ints, fewer than 63. -/
namespace MP
open PySem L2 PySem.Spec PyProof.Rows
section
variable {P : Program} {w : World} {A : Around} {E : Value → Shared → Prop} {s : Shared}
/-- set.add of a tuple of ints -/
theorem setT_add {a x : Addr} {k : List Int} {L : List (Addr × List Int)} {es : Array (Int × Value)} {ep : Nat} {t : SetTable} (R : SetTR P w s.heap a L es ep t) (hx : IsT P w s.heap k x) (hu : A.units + 8 < cLine) (hfew : L.length + 1 < 64) {Q : Value → Shared → Prop}
    (hQ : ∀ h' tk L' es' ep' t', Heap.SameBut a s.heap h' → SetTR P w h' a L' es' ep' t' → (k ∈ L.map (·.2) → L' = L) → (k ∉ L.map (·.2) → L'.Perm ((x, k) :: L)) → Q .none { s with heap := h', toks := tk }) :
    wpAny (model P w) A (call (.builtin "set.add") [.ref a, .ref x]) Q E s := by
  obtain ⟨o, ho, hex, hd⟩ := R.ob
  have hT : s.TypeIs (.ref a) "set" := ⟨o, ho, hex.1⟩
  refine wpAny_call_entry F.slot_set_add hT F.entry_set_add ?_ (F.args_set_add_2 _ _)
  unfold Builtin.«set.add» Builtin.Frozenset.oneOther
  simp only [List.isEmpty_nil, bind_assoc]
  unfold Builtin.Frozenset.addrOf setAdd
  refine wpAny_bind (wpAny_pure ?_)
  try dsimp only
  refine wpAny_bind (wpAny_pure ?_)
  try dsimp only
  refine wpAny_bind ?_
  refine wpAny_holding ?_
  refine wpAny_bind (wpAny_pyHash_tuple (by first | assumption | (show _ + _ < _; omega) | (have : A.in1.units = A.units + 1 := rfl; omega)) hx ?_)
  refine add_at (s := { s with toks := s.toks + (k.length + 1) }) R hx (by first | assumption | (show _ + _ < _; omega) | (have : A.in1.units = A.units + 1 := rfl; omega)) hfew fun b h' L' es' ep' t' sb R' c1 c2 => ?_
  show wpAny _ _ (ret Value.none) _ _ _
  exact wpAny_pure ⟨_, rfl, hQ h' _ L' es' ep' t' sb R' c1 c2⟩
end
section
variable {X : Cx}
def rAddT (K : PySem.W.Frag) (P : Program) (w : World) : V → List V → Hp → VK → Prop := fun x xs H Q => ∃ (a b : Addr) (L : List (Addr × List Int)) (k : List Int), x = V.ref a ∧ xs = [V.ref b] ∧ H a = some (SetTO P w a L) ∧ (∀ p ∈ L, SqT K H p.1 (p.2.map V.int)) ∧ SqT K H b (k.map V.int) ∧ L.length + 1 < 64 ∧
  ∀ L', (k ∈ L.map (·.2) → L' = L) → (k ∉ L.map (·.2) → L'.Perm ((b, k) :: L)) → Q .non (upd H a (SetTO P w a L'))
theorem mt_addT (hu : X.A.units + 64 < cLine) : MtR X "set.add" (rAddT X.K X.prog X.w) := by
  intro pins s σ H x xs v us Q I rx rxs h
  obtain ⟨a, b, L, k, rfl, rfl, ha, hL, hb, hfew, q⟩ := h
  cases rx
  cases rxs with
  | cons ry rt =>
    cases rt
    cases ry
    have R0 : SetT0 X.prog X.w s.heap a L := (I.hok a _ ha).1
    obtain ⟨es, ep, t, R⟩ := R0.full fun p hp => I.isT (hL p hp)
    refine setT_add R (I.isT hb) (by omega) hfew fun h' tk L' es' ep' t' sb R' c1 c2 => ?_
    have he : ∃ u, h'.get? a = some u := by
      have ⟨o, ho, _⟩ := R'.ob
      exact ⟨o, ho⟩
    exact ⟨.non, upd H a (SetTO X.prog X.w a L'), I.write (e := a) (t' := tk) (by rw [ha]; trivial) (.inl rfl) (fun c u hc hu => (sb.2 c hc).trans hu) he (setTO_new R'.t0), rfl, q L' c1 c2⟩
def tLenT (P : Program) (w : World) (te : TE) : TE := fun σ H Q => te σ H fun x H1 => ∃ (a : Addr) (L : List (Addr × List Int)), x = V.ref a ∧ H1 a = some (SetTO P w a L) ∧ Q (.int L.length) H1
theorem pe_lenT {e : Expr} {te : TE} {p pos : Pos} (hg : Gl X "len") (hm : X.mg "len" = none) (he : PE X e te) (na : starEach [e] X.env = (false, eval e X.env) :: starEach [] X.env := by rfl) : PE X (.Call (.Name "len" p) [e] [] pos) (tLenT X.prog X.w te) := by
  refine ⟨fun pins s σ H Q I h => ?_⟩
  refine Call_ (ld_blt I hg hm PySem.boot_len ?_)
  refine PyProof.Rows.callWith_builtin1 (PyProof.Rows.args_cons (thn (he.run pins s σ H _ I h) fun v s1 ⟨x, H1, I1, r1, q1⟩ => PyProof.Rows.args_nil ?_) na) na rfl
  obtain ⟨a, L, rfl, ha, q1⟩ := q1
  cases r1
  have R0 : SetT0 X.prog X.w s1.heap a L := (I1.hok a _ ha).1
  obtain ⟨es, ep, t, ⟨o, ho, hex, hd⟩, hr, tab, _, _, _, hroom, hfew⟩ := R0.ex
  have hsz : es.size = L.length := by
    have h := congrArg List.length hr
    unfold rowsOf at h
    rw [Array.length_toList, List.length_map] at h
    exact h
  have hf : t.fits es.size = true := by
    have h1 := tab.sz
    rw [List.length_map] at h1
    unfold SetTable.fits SetTable.fill
    rw [tab.dm, Bool.and_eq_true, beq_iff_eq, decide_eq_true_eq]
    show t.place.size = es.size ∧ t.place.size + 0 ≤ t.mask
    omega
  refine call_len_set ho hex hd hf (by rw [hsz]; omega) ⟨.int L.length, H1, I1.tok _, ⟨_, by rw [hsz]⟩, q1⟩
end
section
variable {M : Pm} {G : Gh} {W : WX} {F F' : Hp} {σ : L2.St} {Q Q' : VK} {X : Cx} {e a b c : Expr} {ca cb cc : E} {pos : Pos} {es : List Expr} {ces : List E}
/-- what is asked of the list comprehension, its answer taken as a set -/
def PostR2 (M : Pm) (G : Gh) (W : WX) (F : Hp) (σ : L2.St) (RS : Hp → Addr → List D → HO → Prop) (okA : List D → Prop) (res : R Res) (Q : VK) : Prop := match res with
  | .ok r s' => ∃ acc, r = .tmp (.lst acc) ∧ okA acc ∧ ∀ as' F' H' D ho, Same F F' → StA M.K G as' F' s' σ H' → H' D = some ho → RS F' D acc ho → Q (.ref D) H'
  | .ex x p s' => ∀ as' F' H' cls d, Same F F' → StA M.K G as' F' s' σ H' → XRel M x p cls d F' H' → W cls d σ H'
  | .stk => False
theorem scomp_coreR {k : IK} {src : List E} {t : Tg} {own : List Nat} {celt : E} {cnd : Option E} {wi : TI} {tt : TT} {as : Nat → List Addr} {s : Env} {H : Hp} {RS : Hp → Addr → List D → HO → Prop} {okA : List D → Prop} {ho0 : Addr → HO} {rA : V → List V → Hp → VK → Prop}
    (hm : ∀ (F F' : Hp) (Dn : Addr) (acc : List D) (ho : HO), Same F F' → RS F Dn acc ho → RS F' Dn acc ho) (h0 : ∀ (F : Hp) (Dn : Addr), RS F Dn [] (ho0 Dn))
    (hA : ∀ (Dn : Addr) (acc accD l : List D) (dd : D) (y : V) (F H : Hp) (ho : HO) (Q : VK), okA acc → acc = accD ++ [dd] ++ l → Same F H → Rp M.K F y dd → H Dn = some ho → RS F Dn accD ho → (∀ ho', RS F Dn (accD ++ [dd]) ho' → Q .non (upd H Dn ho')) → rA (.ref Dn) [y] H Q)
    (hnt : ∀ (F : Hp) (Dn : Addr) (acc : List D) (ho : HO) (xs : List V), RS F Dn acc ho → ho ≠ .tup xs) (hown : ∀ i ∈ t.slots, i ∈ own) (htt : Cnd M cnd tt) (hwi : ∀ Rr, (∃ G as F s, StA M.K G as F s σ H ∧ PostI M G W F σ k (evr M.Γ src s) Rr) → wi σ H Rr)
    (S : StA M.K G as F s σ H) (h : PostR2 M G W F σ RS okA (ev M.Γ false (.comp celt t k src cnd own) s) Q) : tScA ho0 rA wi (tgT t) tt (tE M W0 celt) own σ H Q := by
  refine hwi _ ⟨G, as, F, s, S, ?_⟩
  have h : PostR2 M G W F σ RS okA ((evr M.Γ src s).bind fun rs s1 => match (lookAll s1 rs).bind (itF k) with
    | none => .stk
    | some items => match srcE k s1 rs with
      | none => .stk
      | some s2 => if plainE s2 own = false ∨ big < items.length then .stk else match compLoop (compBody M.Γ celt cnd own) t items [] (wipeE s2 own) with
        | .ok acc s3 => .ok (.tmp (.lst acc)) (restE s2 s3 own)
        | _ => .stk) Q := by
    simp only [ev, fin_false] at h
    exact h
  cases e1 : evr M.Γ src s with
  | stk => rw [e1] at h; exact h
  | ex x p s' => rw [e1] at h; exact h
  | ok rs s1 =>
    rw [e1] at h
    simp only [R.bind] at h
    simp only [PostI]
    cases e2 : (lookAll s1 rs).bind (itF k) with
    | none => rw [e2] at h; exact h.elim
    | some items =>
      rw [e2] at h
      simp only at h
      cases e3 : srcE k s1 rs with
      | none => rw [e3] at h; exact h.elim
      | some s2 =>
        rw [e3] at h
        simp only at h
        intro as1 F1 H1 J sf1 S1 wd Dn hD
        split at h
        · exact h.elim
        rename_i hpl
        have pl : plainE s2 own = true := by
          cases q : plainE s2 own with
          | true => rfl
          | false => exact absurd (.inl q) hpl
        have pl2 := plainE_at pl
        obtain ⟨asw, Sw, hsw⟩ := S1.wipe (own := own) fun i hi => by
          rcases pl2 i hi with q | ⟨d, q⟩
          · exact .inl q
          · exact .inr ⟨_, q⟩
        cases e4 : compLoop (compBody M.Γ celt cnd own) t items [] (wipeE s2 own) with
        | stk => rw [e4] at h; exact h.elim
        | ex x p s' => rw [e4] at h; exact h.elim
        | ok acc s3 =>
          rw [e4] at h
          obtain ⟨acc', ea, hall, hq⟩ := h
          cases ea
          obtain ⟨st, hst, wk⟩ := wd
          have AD : Alien G asw F1 Dn := ⟨S1.same.free hD, by
            cases q : G.H0 Dn with
            | none => rfl
            | some o => exact absurd hD (S1.dom Dn (by rw [q]; simp)), fun i hi => S1.there (hsw i _ hi) hD⟩
          have SE := Sw.enter (.refl _) Sw.same
          have lenW : ∀ i ∈ own, i < s2.length := fun i hi => by
            rcases pl2 i hi with q | ⟨d, q⟩ <;> exact (List.getElem?_eq_some_iff.mp q).1
          refine sc_it (ho0 := ho0) (rA := rA) (g := tgT t) (tt := tt) (te := tE M W0 celt) (vs := own) (σ := σ) (H1 := H1) (D := Dn) (Qd := Q (.ref Dn)) wk (fun i H => ∃ (asi : Nat → List Addr) (Fi : Hp) (si : Env) (accD : List D), StA M.K (G.reg F1 H1 (wipeE s2 own) asw) asi Fi si (L2.wipe σ own) H ∧ (∃ ho, H Dn = some ho ∧ RS Fi Dn accD ho) ∧
              Alien (G.reg F1 H1 (wipeE s2 own) asw) asi Fi Dn ∧ Same F1 Fi ∧ (∀ j ∈ own, si[j]? = some none) ∧ compLoop (compBody M.Γ celt cnd own) t (items.drop i) accD si = .ok acc s3) ?_ ?_ ?_ ?_
          · exact ⟨asw, F1, _, [], SE.other ⟨AD.f, hD, AD.a⟩, ⟨_, upd_same, h0 _ _⟩, ⟨AD.f, hD, AD.a⟩, .refl _, fun j hj => wipeE_in hj (lenW j hj), e4⟩
          · rintro i H2 _ ⟨asi, Fi, si, accD, Si, _, _, sfi, _, _⟩
            refine hst H2 (sfi.trans Si.same) fun i' m' c' q o e' hm' hj' hq => Si.fra q o (fun z => ?_) hq
            obtain ⟨j, m, c, e, hm, hj⟩ := mem_ownAt.mp z
            have : s2[j]? = some (some (m, c)) := by
              by_cases y : j ∈ own
              · rw [wipeE_in y (lenW j y)] at e; cases e
              · rw [wipeE_out y] at e; exact e
            have ej : j = i' := S1.dis j i' q (hsw j q hj) hj'
            subst ej
            rw [this] at e'
            cases e'
            rw [hm] at hm'
            cases hm'
          · rintro i x H2 H3 hi ⟨asi, Fi, si, accD, Si, ⟨hoi, hDi, rsi⟩, ADi, sfi, emi, li⟩ ⟨rfl, d, hd, rx⟩
            have ed : items.drop i = d :: items.drop (i + 1) := by
              rw [List.drop_eq_getElem_cons hi]
              congr 1
              rw [List.getElem?_eq_getElem hi] at hd
              exact Option.some.inj hd
            rw [ed] at li
            unfold compLoop at li
            split at li
            · cases li
            rename_i s1' eb
            obtain ⟨o, s2', eo, li⟩ := R.bind_ok li
            have SI := Si.enter (.refl _) Si.same
            refine bindT_ok SI (fun j hj => .inl (emi j (hown j hj))) (rx.mono sfi) eb fun as' σ2 S2 hsub hout => ?_
            have hw : L2.wipe σ2 own = L2.wipe σ own := by
              have hl2 : σ2.length = σ.length := by
                rw [← S2.len, bindT_len eb, Si.len, wipe_length]
              apply List.ext_getElem?
              intro j
              by_cases z : j ∈ own
              · by_cases y : j < σ.length
                · rw [wipe_in z y, wipe_in z (by rw [hl2]; exact y)]
                · rw [List.getElem?_eq_none (by rw [wipe_length]; omega), List.getElem?_eq_none (by rw [wipe_length]; omega)]
              · rw [wipe_out z, hout j (fun y => z (hown j y))]
            refine ⟨hw, ?_⟩
            have nxt : ∀ {sb : Env} {asb : Nat → List Addr} {Fb Hb : Hp}, StA M.K ((G.reg F1 H1 (wipeE s2 own) asw).reg Fi H3 si asi) asb Fb sb σ2 Hb → freeI sb own = true →
                ∃ asc, StA M.K (G.reg F1 H1 (wipeE s2 own) asw) asc Fb (wipeE sb own) (L2.wipe σ own) Hb ∧ Hb Dn = some hoi ∧ Alien (G.reg F1 H1 (wipeE s2 own) asw) asc Fb Dn ∧ Same Fi Fb ∧ ∀ j ∈ own, (wipeE sb own)[j]? = some none := by
              intro sb asb Fb Hb Sb hf
              obtain ⟨asc, Sc, _⟩ := Sb.wipe (freeI_at hf)
              rw [hw] at Sc
              obtain ⟨A2, h2⟩ := Sc.alien ADi hDi (fun xs => hnt _ _ _ _ xs rsi)
              exact ⟨asc, Si.leave (.refl _) Sc, h2, ⟨A2.f, ADi.o, A2.a⟩, Sc.f0, fun j hj => wipeE_in hj (freeI_at hf j hj).lt⟩
            have el : ∀ {sb : Env} {asb : Nat → List Addr} {Fb Hb : Hp}, StA M.K ((G.reg F1 H1 (wipeE s2 own) asw).reg Fi H3 si asi) asb Fb sb σ2 Hb → ((ev M.Γ false celt sb).bind fun r s' => keepR s' r own) = .ok o s2' →
                tE M W0 celt σ2 Hb fun y H4 => rA (.ref Dn) [y] H4 fun _ H5 => ∃ (asi : Nat → List Addr) (Fi : Hp) (si : Env) (accD : List D), StA M.K (G.reg F1 H1 (wipeE s2 own) asw) asi Fi si (L2.wipe σ own) H5 ∧ (∃ ho, H5 Dn = some ho ∧ RS Fi Dn accD ho) ∧
                  Alien (G.reg F1 H1 (wipeE s2 own) asw) asi Fi Dn ∧ Same F1 Fi ∧ (∀ j ∈ own, si[j]? = some none) ∧ compLoop (compBody M.Γ celt cnd own) t (items.drop (i + 1)) accD si = .ok acc s3 := by
              intro sb asb Fb Hb Sb eo'
              obtain ⟨r, s5, e5, e6⟩ := R.bind_ok eo'
              refine ⟨_, asb, Fb, sb, Sb, ?_⟩
              rw [e5]
              intro as5 F5 H5 y aT sf5 S5 R5
              unfold keepR at e6
              split at e6
              · rename_i dd s6 e7
                split at e6
                · rename_i hf
                  cases e6
                  obtain ⟨as6, F6, sf6, S6, rp⟩ := frz_ok S5 R5 e7
                  obtain ⟨asc, Sc, h2, A2, sf7, emc⟩ := nxt S6 hf
                  obtain ⟨l, el⟩ := compLoop_pre _ _ _ _ _ li
                  have el : acc = accD ++ [dd] ++ l := el
                  exact hA Dn acc accD l dd y F6 H5 hoi _ hall el S6.same rp h2 (hm _ _ _ _ _ sf7 rsi) fun ho' r' => ⟨asc, F6, _, accD ++ [dd], Sc.other A2, ⟨ho', upd_same, r'⟩, A2, sfi.trans sf7, emc, li⟩
                · cases e6
              · cases e6
            cases htt with
            | no => exact el S2 eo
            | yes cc =>
              obtain ⟨rc, sc, e5, e6⟩ := R.bind_ok (show ((ev M.Γ true cc s1').bind fun rc sc => match boolR rc with
                | some true => (ev M.Γ false celt sc).bind fun r s' => keepR s' r own
                | some false => if freeI sc own = true then .ok none (wipeE sc own) else .stk
                | none => .stk) = .ok o s2' from eo)
              refine ⟨_, as', Fi, s1', S2, ?_⟩
              rw [e5]
              intro as5 F5 H5 v aT sf5 S5 R5
              cases eb5 : boolR rc with
              | none => rw [eb5] at e6; cases e6
              | some k =>
                rw [eb5] at e6
                refine ⟨k, (boolR_rel R5 eb5).1, ?_⟩
                cases k with
                | true =>
                  rw [if_pos rfl]
                  exact el S5 e6
                | false =>
                  rw [if_neg Bool.false_ne_true]
                  simp only at e6
                  split at e6
                  · rename_i hf
                    cases e6
                    obtain ⟨asc, Sc, h2, A2, sf7, emc⟩ := nxt S5 hf
                    exact ⟨asc, F5, _, accD, Sc, ⟨hoi, h2, hm _ _ _ _ _ sf7 rsi⟩, A2, sfi.trans sf7, emc, li⟩
                  · cases e6
          · rintro H2 ⟨asi, Fi, si, accD, Si, ⟨hoi, hDi, rsi⟩, ADi, sfi, emi, li⟩
            rw [List.drop_length] at li
            unfold compLoop at li
            cases li
            have SL := Sw.leave (.refl _) Si
            have SR := SL.rest (s2 := s2) emi fun i hi => by
              rcases pl2 i hi with q | ⟨d, q⟩
              · exact .inl q
              · obtain ⟨v, h1, h2⟩ := S1.cell _ _ _ q
                generalize as1 i = l at h2
                cases h2 with
                | val r => exact .inr ⟨d, v, q, h1, r.mono sfi⟩
            exact hq asi Fi H2 Dn hoi (sf1.trans sfi) SR hDi rsi

/-! ### tuples of ints -/
def RST (P : Program) (w : World) (F : Hp) (Dn : Addr) (acc : List D) (ho : HO) : Prop := ∃ L : List (Addr × List Int), ho = SetTO P w Dn L ∧ (∀ p ∈ L, F p.1 = some (.tup (p.2.map V.int))) ∧ (L.map (·.2)).Nodup ∧ ∀ k, k ∈ L.map (·.2) ↔ k ∈ tupsL acc
def okT (acc : List D) : Prop := (acc.all fun d => (tupD d).isSome) = true ∧ acc.length ≤ 4000 ∧ (dst (tupsL acc)).length < 63
theorem rpa_ints {K : PySem.W.Frag} {F : Hp} : ∀ {xs : List V} {ds : List D} {ns : List Int}, RpA K F xs ds → intsF ds = some ns → xs = ns.map V.int
  | _, _, ns, .nil, h => by
    unfold intsF at h
    cases h
    rfl
  | _, _, ns, .cons (d := d) (ds := ds) r t, h => by
    cases d with
    | int i =>
      cases r
      cases e : intsF ds with
      | none => simp [intsF, e] at h
      | some l =>
        simp [intsF, e] at h
        rw [← h, rpa_ints t e]
        rfl
    | _ => simp [intsF] at h
theorem nodup_le {A : Type} [DecidableEq A] : ∀ (l m : List A), l.Nodup → (∀ x, x ∈ l → x ∈ m) → l.length ≤ m.length
  | [], _, _, _ => Nat.zero_le _
  | a :: l, m, h, hs => by
    obtain ⟨h1, h2⟩ := List.nodup_cons.mp h
    have hm := hs a List.mem_cons_self
    have := nodup_le l (m.erase a) h2 fun x hx => (List.mem_erase_of_ne fun z => h1 (by rw [← z]; exact hx)).mpr (hs x (List.mem_cons_of_mem _ hx))
    rw [List.length_erase_of_mem hm] at this
    have := List.length_pos_of_mem hm
    rw [List.length_cons]
    omega
theorem rst_mono {P : Program} {w : World} (F F' : Hp) (Dn : Addr) (acc : List D) (ho : HO) (s : Same F F') (h : RST P w F Dn acc ho) : RST P w F' Dn acc ho := by
  obtain ⟨L, e, hL, nd, hm⟩ := h
  exact ⟨L, e, fun p hp => s _ _ (hL p hp), nd, hm⟩
theorem rst_zero {P : Program} {w : World} (F : Hp) (Dn : Addr) : RST P w F Dn [] (SetTO P w Dn []) := ⟨[], rfl, fun p hp => (by cases hp), List.nodup_nil, fun k => (by simp [tupsL])⟩
theorem rst_add {K : PySem.W.Frag} {P : Program} {w : World} (Dn : Addr) (acc accD l : List D) (dd : D) (y : V) (F H : Hp) (ho : HO) (Q : VK) (hok : okT acc) (hacc : acc = accD ++ [dd] ++ l) (sm : Same F H) (r : Rp K F y dd) (hD : H Dn = some ho) (hr : RST P w F Dn accD ho) (q : ∀ ho', RST P w F Dn (accD ++ [dd]) ho' → Q .non (upd H Dn ho')) : rAddT K P w (.ref Dn) [y] H Q := by
  obtain ⟨L, rfl, hL, nd, hm⟩ := hr
  have hdd : (tupD dd).isSome = true := List.all_eq_true.mp hok.1 dd (by rw [hacc]; simp)
  obtain ⟨k, hk⟩ := Option.isSome_iff_exists.mp hdd
  have ek : tupsL (accD ++ [dd]) = tupsL accD ++ [k] := by
    unfold tupsL
    rw [List.filterMap_append, List.filterMap_cons, hk]
    rfl
  have hsub : ∀ x, x ∈ tupsL accD → x ∈ tupsL acc := fun x hx => by
    rw [hacc]
    unfold tupsL at hx ⊢
    rw [List.filterMap_append, List.filterMap_append]
    exact List.mem_append_left _ (List.mem_append_left _ hx)
  have hlen : L.length ≤ (dst (tupsL acc)).length := by
    have := nodup_le _ (dst (tupsL acc)) nd fun x hx => dst_mem.mpr (hsub x ((hm x).mp hx))
    rwa [List.length_map] at this
  have hfew := hok.2.2
  cases dd with
  | tuple ds =>
    cases r with
    | tup hp rr =>
      rename_i p xs
      have ex : xs = k.map V.int := rpa_ints rr hk
      subst ex
      refine ⟨Dn, p, L, k, rfl, rfl, hD, fun z hz => .of (sm _ _ (hL z hz)), .of (sm _ _ hp), by omega, fun L' c1 c2 => q _ ⟨L', rfl, ?_⟩⟩
      rw [ek]
      by_cases hin : k ∈ L.map (·.2)
      · rw [c1 hin]
        refine ⟨hL, nd, fun x => ?_⟩
        rw [hm x, List.mem_append, List.mem_singleton]
        constructor
        · exact .inl
        · rintro (h | rfl)
          · exact h
          · exact (hm _).mp hin
      · have pm := c2 hin
        have pm2 : (L'.map (·.2)).Perm (k :: L.map (·.2)) := pm.map (·.2)
        refine ⟨fun z hz => ?_, pm2.nodup_iff.mpr (List.nodup_cons.mpr ⟨hin, nd⟩), fun x => ?_⟩
        · rcases List.mem_cons.mp (pm.mem_iff.mp hz) with rfl | h
          · exact hp
          · exact hL z h
        · rw [pm2.mem_iff, List.mem_cons, hm x, List.mem_append, List.mem_singleton]
          exact Or.comm
  | _ => cases hk
theorem hoT_new (H' : Hp) (h : Heap) : ObjOk X.prog X.w H' (h.push (newS X.w)) h.objs.size (SetTO X.prog X.w h.objs.size []) :=
  setTO_new (setTR_fresh (P := X.prog) (Heap.get?_push_size _ rfl)).t0
theorem set_postR {f : Lib} {ce : E} {RS : Hp → Addr → List D → HO → Prop} {okA : List D → Prop} {s : Env} {Q' : VK} (hform : ∀ r s', ev M.Γ false ce s = .ok r s' → ∃ acc, r = .tmp (.lst acc)) (h : Post M G W F σ (ev M.Γ false (.lib f [ce]) s) Q)
    (hf : ∀ acc r, libF f [.list acc] = some r → okA acc ∧ ∀ F' H' D ho, H' D = some ho → RS F' D acc ho → Same F' H' → OutQ M.K F' H' r Q → Q' (.ref D) H') : PostR2 M G W F σ RS okA (ev M.Γ false ce s) Q' := by
  simp only [ev, fin_false] at h
  cases e1 : ev M.Γ false ce s with
  | stk =>
    simp only [evr, e1, R.bind] at h
    exact h
  | ex x p s' =>
    simp only [evr, e1, R.bind] at h
    exact h
  | ok r s' =>
    obtain ⟨acc, rfl⟩ := hform r s' e1
    simp only [evr, e1, R.bind, hold, Cell.d?, Option.map_some, lookAll, look, Option.bind_some] at h
    cases e2 : libF f [.list acc] with
    | none =>
      rw [e2] at h
      exact h.elim
    | some r2 =>
      obtain ⟨h1, h3⟩ := hf acc r2 e2
      refine ⟨acc, rfl, h1, fun as' F' H' D ho sf S' hD hR => ?_⟩
      have h' : Post M G W F' σ (R.opt (libF f [.list acc]) s') Q := by
        rw [e2] at h ⊢
        exact fun as'' F'' H'' v aT sf2 S'' R'' => h as'' F'' H'' v aT (sf.trans sf2) S'' R''
      obtain ⟨r3, e3, q⟩ := Post.opt S' h'
      rw [e2] at e3
      cases e3
      exact h3 F' H' D ho hD hR S'.same q
section
variable {elt tg iter : Expr} {ifs : List Expr} {scope : Scope} {own : List (Str × Nat)} {k : IK} {src : List E} {t : Tg} {celt : E} {cnd : Option E} {tt : TT} {p pos2 : Pos}
/-- len({..}), tuples of ints -/
theorem ev_slenT (hu : X.A.units + 64 < cLine) (hc : X.calm = true) (hN : X.N.Nodup) (ok : BlkOk X.N X.env.scope scope own) (hgl : Gl X "len") (hm : X.mg "len" = none)
    (hi : IV M X tg iter k src) (hg : ∀ s H C cl fp, PG (X.blk s H scope (compEnvC scope cl C X.env) fp) tg (tgT t)) (ht : ∀ s H C cl fp, PTs (X.blk s H scope (compEnvC scope cl C X.env) fp) ifs tt) (htt : Cnd M cnd tt)
    (he : ∀ s H C cl fp, EV M (X.blk s H scope (compEnvC scope cl C X.env) fp) elt celt) (hown : ∀ i ∈ t.slots, i ∈ own.map (·.2)) (hK : X.K = M.K := by rfl) (hf : ∀ x, foldedSetIterable iter X.env x = pure x := by intro _; rfl)
    (na : starEach [.SetComp elt [⟨tg, iter, ifs, 0⟩] scope pos] X.env = (false, eval (.SetComp elt [⟨tg, iter, ifs, 0⟩] scope pos) X.env) :: starEach [] X.env := by rfl) :
    EV M X (.Call (.Name "len" p) [.SetComp elt [⟨tg, iter, ifs, 0⟩] scope pos] [] pos2) (.lib .slenT [.comp celt t k src cnd (own.map (·.2))]) :=
  ⟨fun W tk => PE.imp (pe_lenT hgl hm (pe_sca (ho0 := fun Dn => SetTO X.prog X.w Dn []) (rA := rAddT X.K X.prog X.w) hc hN (hi.run W tk) ok hoT_new (fun s H ce fp => mt_addT (X := X.blk s H scope ce fp) hu) hg ht (fun s H C cl fp => (he s H C cl fp).run W0 takesN0) hf) na) fun σ H Q ⟨G, as, F, s, S, h⟩ => by
    refine scomp_coreR (M := M) (okA := okT) (RS := RST X.prog X.w) rst_mono (fun F Dn => rst_zero F Dn) (fun Dn acc accD l dd y F H ho Q a1 a2 a3 a4 a5 a6 a7 => by rw [hK]; exact rst_add Dn acc accD l dd y F H ho Q a1 a2 a3 a4 a5 a6 a7) (fun _ _ _ _ _ h e => by obtain ⟨L, e2, _⟩ := h; rw [e2] at e; cases e) hown htt (fun _ q => q) S (set_postR (fun r s' e => comp_form e) h fun acc r e => ?_)
    unfold libF at e
    dsimp only at e
    split at e
    · rename_i hh
      cases e
      refine ⟨hh, fun F' H' D ho hD hR sm q => ?_⟩
      obtain ⟨L, rfl, hL, nd, hm⟩ := hR
      have pm : (L.map (·.2)).Perm (dst (tupsL acc)) := (List.perm_ext_iff_of_nodup nd (dst_nodup _)).mpr fun x => by rw [hm x, dst_mem]
      have el : L.length = (dst (tupsL acc)).length := by rw [← pm.length_eq, List.length_map]
      refine ⟨D, L, rfl, hD, ?_⟩
      rw [el]
      exact q.same sm (.int _)
    · cases e⟩
end
end
end MP

set_option linter.all false
set_option maxRecDepth 100000
set_option maxHeartbeats 2000000
/-! MP: sorted(..) of data: ints, texts, lists or tuples of such. -/
namespace MP
open PySem L2 PySem.Spec PyProof.Rows
/-- sorted(xs), xs a list that reads as data -/
def rSortD (K : PySem.W.Frag) : List V → Hp → VK → Prop := fun vs H Q => ∃ (F : Hp) (a : Addr) (xs : List V) (ds : List D), vs = [V.ref a] ∧ Same F H ∧ SqL K H a xs ∧ RpA K F xs ds ∧ (ds.all fun d => SeqAt.shaped d) = true ∧ alikeB ds = true ∧ (ds.all tupB = true ∨ ds.all oneB = true) ∧ ds.length ≤ big ∧
  ∀ ys p, RpA K F ys (ds.mergeSort (PySem.W.dataLe false id)) → H p = none → Q (.ref p) (upd H p (.lst ys))
theorem rpa_zip {K : PySem.W.Frag} {F : Hp} : ∀ {xs : List V} {ds : List D}, RpA K F xs ds → ∀ b ∈ xs.zip ds, Rp K F b.1 b.2
  | _, _, .nil, b, h => by simp at h
  | _, _, .cons r t, b, h => by
    rcases List.mem_cons.mp h with rfl | h
    · exact r
    · exact rpa_zip t b h
theorem rpa_unzip {K : PySem.W.Frag} {F : Hp} : ∀ (bs : List (V × D)), (∀ b ∈ bs, Rp K F b.1 b.2) → RpA K F (bs.map (·.1)) (bs.map (·.2))
  | [], _ => .nil
  | b :: bs, h => .cons (h b (by simp)) (rpa_unzip bs fun c hc => h c (by simp [hc]))
theorem zip_each : ∀ {xs : List V} {us : List Value} {ds : List D}, Vals xs us → xs.length = ds.length → PySem.W.EachIs (fun (v : Value) (b : V × D) => RelV b.1 v) us (xs.zip ds)
  | _, _, [], .nil, _ => .nil
  | _, _, _ :: _, .nil, h => by simp at h
  | _, _, [], .cons _ _, h => by simp at h
  | _, _, d :: ds, .cons r t, h => .cons r (zip_each t (by simpa using h))
theorem each_vals : ∀ {us : List Value} {bs : List (V × D)}, PySem.W.EachIs (fun (v : Value) (b : V × D) => RelV b.1 v) us bs → Vals (bs.map (·.1)) us
  | _, _, .nil => .nil
  | _, _, .cons r t => .cons r (each_vals t)
theorem zip_snd : ∀ {xs : List V} {ds : List D}, xs.length = ds.length → (xs.zip ds).map (·.2) = ds
  | [], [], _ => rfl
  | _ :: _, [], h => by simp at h
  | [], _ :: _, h => by simp at h
  | x :: xs, d :: ds, h => by rw [List.zip_cons_cons, List.map_cons, zip_snd (by simpa using h)]
theorem zip_fst : ∀ {xs : List V} {ds : List D}, xs.length = ds.length → (xs.zip ds).map (·.1) = xs
  | [], [], _ => rfl
  | _ :: _, [], h => by simp at h
  | [], _ :: _, h => by simp at h
  | x :: xs, d :: ds, h => by rw [List.zip_cons_cons, List.map_cons, zip_fst (by simpa using h)]
theorem each_with {R S : Value → V × D → Prop} : ∀ {us : List Value} {bs : List (V × D)}, PySem.W.EachIs R us bs → (∀ v b, b ∈ bs → R v b → S v b) → PySem.W.EachIs S us bs
  | _, _, .nil, _ => .nil
  | _, _, .cons r t, h => .cons (h _ _ (by simp) r) (each_with t fun v b hb => h v b (by simp [hb]))
section
variable {X : Cx}
theorem cr_sortD (hu : X.A.units + 66 < cLine) : CallR X (.builtin "sorted") (rSortD X.K) := by
  intro pins s σ H vs us Q I r h
  obtain ⟨F, a, xs, ds, rfl, sm, hs, rr, sh, al, so, hb, q⟩ := h
  obtain ⟨its, rv, hl, hz⟩ := I.list hs
  obtain ⟨u, rfl, ru⟩ := vals1 r
  obtain rfl : u = Value.ref a := ru
  have hln := rr.length
  have hzip := rpa_zip rr
  have hmem : ∀ b ∈ xs.zip ds, b.2 ∈ ds := fun b hb => by
    rw [← zip_snd hln]
    exact List.mem_map.mpr ⟨b, hb, rfl⟩
  have e1 := zip_each rv hln
  have hm2 : (xs.zip ds).map (fun (b : V × D) => b.2) = ds := zip_snd hln
  rw [List.all_eq_true] at sh
  have lz : (xs.zip ds).length ≤ sizeLine := by
    rw [List.length_zip, hln, Nat.min_self, sizeLine_eq]
    exact hb
  refine PySem.W.sorted_data (R := fun (v : Value) (b : V × D) => RelV b.1 v) (enc := fun (b : V × D) => b.2) (bs := xs.zip ds) hl.isList e1 (each_with e1 fun v b hb' rv' => ?_) ?_ ?_ lz ?_ fun out ho eo => ?_
  · have hp := Rt.dp sm (Rp.rt (.refl _) (hzip b hb') |>.mono (.refl _) sm) (sh b.2 (hmem b hb'))
    exact Dp.reads I b.2 b.1 v hp rv'
  · rw [hm2]
    intro d hd d' hd'
    unfold alikeB at al
    rw [List.all_eq_true] at al
    have := al d hd
    rw [List.all_eq_true] at this
    exact this d' hd'
  · rw [hm2]
    rcases so with so | so
    · refine .inl fun d hd => ?_
      have := List.all_eq_true.mp so d hd
      unfold tupB at this
      split at this
      · exact ⟨_, _, rfl⟩
      · cases this
    · refine .inr fun d hd => ?_
      have := List.all_eq_true.mp so d hd
      unfold oneB at this
      split at this
      · cases this
      · cases this
      · rename_i h1 h2
        exact ⟨h1, h2⟩
  · intro b hb'
    have hsh := sh b.2 (hmem b hb')
    unfold SeqAt.shaped at hsh
    rw [Bool.and_eq_true, decide_eq_true_iff] at hsh
    have := hsh.2
    omega
  · obtain ⟨n, hn⟩ := sortedAll_at s.heap its out.toArray
    have hv := each_vals eo
    have hperm := List.mergeSort_perm (xs.zip ds) (PySem.W.dataLe false fun (b : V × D) => b.2)
    have hr := rpa_unzip (K := X.K) (F := F) ((xs.zip ds).mergeSort (PySem.W.dataLe false fun (b : V × D) => b.2)) fun b hb' => hzip b (hperm.mem_iff.mp hb')
    have hsort : ((xs.zip ds).mergeSort (PySem.W.dataLe false fun (b : V × D) => b.2)).map (fun (b : V × D) => b.2) = ds.mergeSort (PySem.W.dataLe false id) := by
      rw [PySem.W.sort_maps (r := PySem.W.dataLe false fun (b : V × D) => b.2) (s := PySem.W.dataLe false id) (fun (b : V × D) => b.2) (fun a _ b _ => rfl), hm2]
    have hr2 : RpA X.K F (((xs.zip ds).mergeSort (PySem.W.dataLe false fun (b : V × D) => b.2)).map (·.1)) (ds.mergeSort (PySem.W.dataLe false id)) := by
      rw [← hsort]
      exact hr
    refine ⟨.ref (s.heap.objs.size + 1), _, I.laid (t' := s.toks) (fun b o e => sortedAll_old e) (Nat.le_succ _) (o := .lst (((xs.zip ds).mergeSort (PySem.W.dataLe false fun (b : V × D) => b.2)).map (·.1))) ⟨?_, out, n, hv, hn⟩, rfl, q _ _ hr2 (I.hok.fresh (Nat.le_succ _))⟩
    rw [List.length_map, List.length_mergeSort]
    exact lz
end
theorem units2_of {k : Nat} {A : Around} (r : Room k A) : A.units + 66 < cLine := by have := r.un; omega
section
variable {M : Pm} {G : Gh} {W : WX} {F F' : Hp} {σ : L2.St} {Q Q' : VK} {X : Cx} {e a b c : Expr} {ca cb cc : E} {pos : Pos} {es : List Expr} {ces : List E}
/-- sorted: ints or data -/
def rSortX (K : PySem.W.Frag) : List V → Hp → VK → Prop := fun xs H Q => ∃ F ds r, Same F H ∧ RtA K F H xs ds ∧ libF .sortD ds = some r ∧ OutQ K F H r Q
theorem cr_sortX (hu : X.A.units + 66 < cLine) : CallR X (.builtin "sorted") (rSortX X.K) := by
  intro pins s σ H vs us Q I r h
  obtain ⟨F, ds, res, sm, tx, e, q⟩ := h
  unfold libF at e
  split at e
  all_goals first | (cases ‹Lib.sortD = Lib.lrng›) | (cases ‹Lib.sortD = Lib.index›) | (cases ‹Lib.sortD = Lib.tuple›) | (cases ‹Lib.sortD = Lib.bool›) | (cases ‹Lib.sortD = Lib.slen›) | (cases ‹Lib.sortD = Lib.ssort›) | (cases ‹Lib.sortD = Lib.slenT›) | (cases ‹Lib.sortD = Lib.sortK›) | (cases ‹Lib.sortD = Lib.ssortT›) | (cases ‹Lib.sortD = Lib.lrev›) | (cases e; done) | skip
  obtain ⟨v, rfl, a, ys, rfl, h, rr⟩ := tx.one
  unfold sortDF at e
  split at e
  · rename_i ns e'
    cases e
    obtain ⟨g1, g2⟩ := rr.ints e'
    subst g1
    exact cr_sortedI pins s σ H _ us Q I r ⟨a, ns, rfl, h, fun ns' p hp hs hn => by rw [sort_unique hp hs]; exact q.list sm hn (.of_ints _)⟩
  · split at e
    · rename_i hc
      cases e
      exact cr_sortD hu pins s σ H _ us Q I r ⟨F, a, ys, _, rfl, sm, h, rr, hc.1, hc.2.1, hc.2.2.1, hc.2.2.2, fun ys' p hr hn => q.list sm hn hr⟩
    · cases e
theorem ev_sortD {p : Pos} (hu : X.A.units + 66 < cLine) (hg : Gl X "sorted") (hm : X.mg "sorted" = none) (ha : AR M X [a] ces) (hK : X.K = M.K := by rfl)
    (he : starEach [a] X.env = (false, eval a X.env) :: starEach [] X.env := by rfl) (hpl : (backTo pos (starEach [] X.env)).any (·.1) = false := by rfl) : EV M X (.Call (.Name "sorted" p) [a] [] pos) (.lib .sortD ces) := by
  have key : ∀ W, L2N.Takes X W → PE X (.Call (.Name "sorted" p) [a] [] pos) (tCB (rSortX X.K) (tR M W ces)) := fun W tk =>
    pe_callB (cr_sortX hu) hg hm (boot_blt .sorted) (ha.run W tk) (blt_ne .sorted).1 (blt_ne .sorted).2 he hpl
  refine ⟨fun W tk => PE.imp (key W tk) fun σ H Q ⟨G, as, F, s, S, h⟩ => ⟨G, as, F, s, S, ?_⟩⟩
  have key := lib_core S h
  cases e1 : evr M.Γ ces s with
  | stk => rw [e1] at key; exact key
  | ex x p s' => rw [e1] at key; exact key
  | ok rs s1 =>
    rw [e1] at key
    intro as' F' H' vs sf S' R'
    obtain ⟨F1, ds, r, sm, rr, e2, q, hl⟩ := key as' F' H' vs sf S' R'
    rw [hK]
    exact ⟨F1, ds, r, sm, rr, e2, q⟩
end
end MP

set_option linter.all false
set_option maxRecDepth 100000
set_option maxHeartbeats 2000000
/-! MP: l.index(x), l.index(x, start). -/
namespace MP
open PySem L2 RT PySem.Spec PyProof.Rows
theorem ixF_spec {ds : List D} {x : D} {a j : Nat} (h : ixF ds x a = some j) : a ≤ j ∧ ∃ z, ds[j]? = some z ∧ PyData.eqv z x = true ∧ ∀ (m : Nat) (z' : D), a ≤ m → m < j → ds[m]? = some z' → PyData.eqv z' x = false := by
  unfold ixF at h
  rw [Option.map_eq_some_iff] at h
  obtain ⟨k, hk, rfl⟩ := h
  rw [List.findIdx?_eq_some_iff_getElem] at hk
  obtain ⟨h1, h2, h3⟩ := hk
  rw [List.length_drop] at h1
  refine ⟨by omega, ds[k + a], List.getElem?_eq_getElem (by omega), ?_, fun m z' hm1 hm2 hz => ?_⟩
  · rw [List.getElem_drop] at h2
    have : a + k = k + a := by omega
    simp only [this] at h2
    exact h2
  · have h4 := h3 (m - a) (by omega)
    rw [List.getElem_drop] at h4
    obtain ⟨hl, hz2⟩ := List.getElem?_eq_some_iff.mp hz
    have : a + (m - a) = m := by omega
    simp only [this, hz2] at h4
    simpa using h4
section
variable {X : Cx}
def rIx3 (K : PySem.W.Frag) : V → List V → Hp → VK → Prop := fun x xs H Q => ∃ (a : Addr) (y : V) (d : D) (ds : List D) (j : Nat) (z : D) (n0 : Int), x = V.ref a ∧ xs = [y, V.int n0] ∧ 0 ≤ n0 ∧ Dp K H (V.ref a) (.list ds) ∧ Dp K H y d ∧
  SeqAt.shaped (.list ds) = true ∧ SeqAt.shaped d = true ∧ n0.toNat ≤ j ∧ ds[j]? = some z ∧ PyData.eqv z d = true ∧ (∀ (m : Nat) (z' : D), n0.toNat ≤ m → m < j → ds[m]? = some z' → PyData.eqv z' d = false) ∧ Q (.int (j : Nat)) H
theorem mt_ix3 (hu : X.A.units + 65 < cLine) : MtR X "list.index" (rIx3 X.K) := by
  intro pins s σ H x xs v us Q I rx rxs h
  obtain ⟨a, y, d, ds, j, z, n0, rfl, rfl, hn0, hl, hy, sl, sd, hnj, hz, hzj, hno, q⟩ := h
  cases rx
  cases rxs with
  | cons ry rt =>
    rename_i uy ut
    cases rt with
    | cons rn rt2 =>
      rename_i un ut2
      cases rt2
      obtain ⟨tn, rfl⟩ := rn
      obtain ⟨bs, r1⟩ := Dp.reads I d y uy hy ry
      have hxs : PyData.canLayAll0 ds = true := SeqAt.canLay_of_shaped sl
      have hroom : X.A.units + 1 + min (PyData.depthAll ds) d.depth < cLine := room_in_shaped sd hu
      cases hl with
      | lst hs ha =>
        obtain ⟨its, rv, ⟨⟨cls, dd, data, sls⟩, n, ho, hc, hdn, hdt⟩, hlen⟩ := I.list hs
        simp only at hc hdt
        subst hc hdt
        obtain ⟨as, h4⟩ := Dp.readsAll I ds _ its ha rv
        have hn : its.length = ds.length := SeqAt.ReadsAll.length ds its as h4
        have hmap : its.map (SeqAt.readOf s.heap) = ds := SeqAt.readsAll_map ds its as hxs h4
        have hvl := rv.length
        have hsl := sizeLine_eq
        obtain ⟨hjd, _⟩ := List.getElem?_eq_some_iff.mp hz
        have hjl : j < its.length := by omega
        have hj : j < its.toArray.size := by simpa using hjl
        have at_ : ∀ (m : Nat) (hm : m < its.toArray.size) (z' : D), ds[m]? = some z' → SeqAt.readOf s.heap its.toArray[m] = z' := by
          intro m hm z' hz'
          have hml : m < its.length := by simpa using hm
          rw [← hmap, List.getElem?_map, List.getElem?_eq_getElem hml] at hz'
          have e1 : SeqAt.readOf s.heap its[m] = z' := Option.some.inj (show some (SeqAt.readOf s.heap its[m]) = some z' from hz')
          simpa using e1
        have hsf : SeqAt.searchFrom n0 its.toArray.size = n0.toNat := SeqAt.searchFrom_nonneg hn0 _
        have ie := SeqAt.items_eqAt (A := X.A) (vs := its.toArray) (show ReadsAll s.heap its.toArray.toList ds as from h4) r1 hxs (SeqAt.canLay_of_shaped sd) hroom
        refine call_meets PySem.F.slot_list_index ⟨_, ho, rfl⟩ PySem.F.entry_list_index (PySem.F.args_list_index_3 _ _ _)
          (SeqAt.list_index3_found a its.toArray n dd sls uy (fun i => if h : i < its.toArray.size then PyData.eqv (SeqAt.readOf s.heap its.toArray[i]) d else false) n0 tn j hj (by rw [hsf]; exact hnj) (by omega) ?_ ?_) ⟨ho, fun i hi => ?_, ?_⟩
        · rw [dif_pos hj, at_ j hj z hz]
          exact hzj
        · intro m hm hm1 hmj
          rw [hsf] at hm1
          have hmd : m < ds.length := by omega
          have hz' : ds[m]? = some ds[m] := List.getElem?_eq_getElem hmd
          rw [dif_pos hm, at_ m hm _ hz']
          exact hno m _ hm1 hmj hz'
        · rw [dif_pos hi]
          exact ie _ (Array.getElem_mem hi)
        · exact ⟨.int (j : Nat), H, I.tok _, ⟨_, rfl⟩, q⟩
def rIx (K : PySem.W.Frag) : V → List V → Hp → VK → Prop := fun x xs H Q => ∃ F ds r, Same F H ∧ RtA K F H (x :: xs) ds ∧ libF .index ds = some r ∧ OutQ K F H r Q
theorem mt_ix (hu : X.A.units + 65 < cLine) : MtR X "list.index" (rIx X.K) := by
  intro pins s σ H x xs v us Q I rx rxs h
  obtain ⟨F, ds, r, sm, tx, e, q⟩ := h
  replace e : ixLF ds = some r := e
  unfold ixLF at e
  split at e
  · rename_i l d
    split at e
    · rename_i hc
      rw [Option.map_eq_some_iff] at e
      obtain ⟨j, hj, rfl⟩ := e
      cases tx with
      | cons t1 tx =>
        cases tx with
        | cons t2 tx =>
          cases tx
          obtain ⟨_, z, hz, hzj, hno⟩ := ixF_spec hj
          have d1 := t1.dp sm hc.1
          have d2 := t2.dp sm hc.2.1
          obtain ⟨p, ys, rfl, hp, rr⟩ := t1
          exact mt_indexD hu pins s σ H _ _ v us Q I rx rxs ⟨p, _, d, l, j, z, rfl, rfl, d1, d2, hc.1, hc.2.1, hz, hzj, fun m z' hm => hno m z' (Nat.zero_le _) hm, q.same sm (.int _)⟩
    · cases e
  · rename_i l d a
    split at e
    · rename_i hc
      rw [Option.map_eq_some_iff] at e
      obtain ⟨j, hj, rfl⟩ := e
      cases tx with
      | cons t1 tx =>
        cases tx with
        | cons t2 tx =>
          cases tx with
          | cons t3 tx =>
            cases tx
            obtain ⟨h0, z, hz, hzj, hno⟩ := ixF_spec hj
            have d1 := t1.dp sm hc.1
            have d2 := t2.dp sm hc.2.1
            obtain ⟨p, ys, rfl, hp, rr⟩ := t1
            cases t3
            exact mt_ix3 hu pins s σ H _ _ v us Q I rx rxs ⟨p, _, d, l, j, z, a, rfl, rfl, hc.2.2.1, d1, d2, hc.1, hc.2.1, h0, hz, hzj, hno, q.same sm (.int _)⟩
    · cases e
  · cases e
end
section
variable {M : Pm} {G : Gh} {W : WX} {F F' : Hp} {σ : L2.St} {Q Q' : VK} {X : Cx} {o e a b c : Expr} {co ca cb cc : E} {pos : Pos} {es : List Expr} {ces : List E}
theorem ev_index {apos : Pos} (hu : X.A.units + 65 < cLine) (ho : EV M X o co) (ha : AR M X (a :: es) ces) (hK : X.K = M.K := by rfl)
    (hbase : attributeBase o "index" X.env (eval o X.env) = eval o X.env := by rfl)
    (hfew : ((backTo pos (starEach (a :: es) X.env)).all (fun x => !x.1) && (backToKw pos (keywordEach [] X.env)).all (fun x => x.1.isSome)
      && decide ((a :: es).length + ([] : List Keyword).length + (if ([] : List Keyword).isEmpty then 0 else 1) < 30)) = true := by rfl)
    (hline : (apos.endLine == pos.line) = true := by rfl) (hs : starEach (a :: es) X.env = (false, eval a X.env) :: starEach es X.env := by rfl) (hpl : (backTo pos (starEach es X.env)).any (·.1) = false := by rfl) :
    EV M X (.Call (.Attribute o "index" apos) (a :: es) [] pos) (.meth .index co ces) := by
  refine ⟨fun W tk => PE.imp (pe_bm PySem.F.plainAttrs_list PySem.F.slot_list_index PySem.F.type_list_index (mt_ix hu) (ho.run W tk) (ha.run W tk) hbase hfew hline hs hpl) fun σ H Q ⟨G, as, F, s, S, h⟩ => ?_⟩
  simp only [ev, fin_false] at h
  refine ⟨G, as, F, s, S, Post.bind h fun ra s1 as1 F1 H1 x aT _ _ S1 R1 h1 => ?_⟩
  obtain ⟨F2, ra', sf2, S2, R2, h2⟩ := hold_ok (k := fun r1 => match look s1 r1 with
      | some (.list _) => (evr M.Γ ces s1).bind fun rs s2 => R.opt ((lookAll s2 (r1 :: rs)).bind (libF .index)) s2
      | _ => .stk) S1 R1 h1
  split at h2
  · rename_i ds0 e0
    have rt := S2.lookH R2 e0
    obtain ⟨p, ys, rfl, hp, rr⟩ := rt
    refine ⟨.inl ⟨rfl, ys, by rw [hK]; exact hp⟩, G, as1, F2, s1, S2, PostR.bind h2 fun rs s2 as3 F3 H3 vs _ sf3 S3 R3 h3 => ?_⟩
    obtain ⟨r, e3, q⟩ := Post.opt S3 h3
    obtain ⟨ds, l1, e3⟩ := bind_some e3
    rw [hK]
    exact ⟨F3, ds, r, S3.same, S3.lookAll (.cons (R2.mono sf3) R3) l1, e3, q⟩
  · exact h2.elim
end
end MP

set_option linter.all false
set_option maxRecDepth 100000
set_option maxHeartbeats 2000000
/-! MP: dicts whose keys are ints and texts; range with the step -1. -/
namespace MP
open PySem L2
/-! ### data -/
theorem dput_rel {K : PySem.W.Frag} {F : Hp} {z : Key} {v : V} {d : D} (rv : Rp K F v d) : ∀ {ks : List (Key × V)} {ds : List D}, RpA K F (ks.map (·.2)) ds →
    ∃ ds', RpA K F ((ks.map fun kv => if kv.1 = z then (kv.1, v) else kv).map (·.2)) ds' ∧ (((ks.map fun p => kd p.1).zip ds).map fun p => if keyD p.1 = some z then (p.1, d) else p) = ((ks.map fun kv => if kv.1 = z then (kv.1, v) else kv).map fun p => kd p.1).zip ds'
  | [], _, r => ⟨[], .nil, rfl⟩
  | (k, w) :: ks, [], r => by cases r
  | (k, w) :: ks, e :: ds, r => by
    cases r with
    | cons r t =>
      obtain ⟨ds', h1, h2⟩ := dput_rel rv t
      by_cases h : k = z
      · refine ⟨d :: ds', ?_, ?_⟩
        · rw [List.map_cons, if_pos h]
          exact .cons rv h1
        · rw [List.map_cons, List.zip_cons_cons, List.map_cons, h2, List.map_cons, if_pos h]
          show (if keyD (kd k) = some z then (kd k, d) else (kd k, e)) :: _ = _
          rw [keyD_kd, if_pos (by rw [h])]
          rfl
      · refine ⟨e :: ds', ?_, ?_⟩
        · rw [List.map_cons, if_neg h]
          exact .cons r h1
        · rw [List.map_cons, List.zip_cons_cons, List.map_cons, h2, List.map_cons, if_neg h]
          show (if keyD (kd k) = some z then (kd k, d) else (kd k, e)) :: _ = _
          rw [keyD_kd, if_neg (fun q => h (Option.some.inj q))]
          rfl
theorem any_rel {K : PySem.W.Frag} {F : Hp} {z : Key} : ∀ {ks : List (Key × V)} {ds : List D}, RpA K F (ks.map (·.2)) ds → (((ks.map fun p => kd p.1).zip ds).any fun p => decide (keyD p.1 = some z)) = ks.any fun kv => decide (kv.1 = z)
  | [], _, r => rfl
  | (k, w) :: ks, [], r => by cases r
  | (k, w) :: ks, e :: ds, r => by
    cases r with
    | cons r t =>
      rw [List.map_cons, List.zip_cons_cons, List.any_cons, List.any_cons, any_rel t]
      congr 1
      show decide (keyD (kd k) = some z) = decide (k = z)
      rw [keyD_kd]
      exact decide_eq_decide.mpr ⟨fun q => Option.some.inj q, fun q => by rw [q]⟩
theorem putK_rel {K : PySem.W.Frag} {F : Hp} {z : Key} {v : V} {d : D} (rv : Rp K F v d) {ks : List (Key × V)} {ds : List D} (r : RpA K F (ks.map (·.2)) ds) :
    ∃ ds', RpA K F ((putK ks z v).map (·.2)) ds' ∧ dPut ((ks.map fun p => kd p.1).zip ds) (kd z) d z = ((putK ks z v).map fun p => kd p.1).zip ds' := by
  unfold dPut putK
  rw [any_rel r]
  split
  · exact dput_rel rv r
  · refine ⟨ds ++ [d], ?_, ?_⟩
    · rw [List.map_append]
      exact r.append (.cons rv .nil)
    · rw [List.map_append]
      have hl := r.length
      rw [List.length_map] at hl
      rw [List.zip_append (by rw [List.length_map]; exact hl)]
      rfl
theorem zip_len {K : PySem.W.Frag} {F : Hp} {ks : List (Key × V)} {ds : List D} (r : RpA K F (ks.map (·.2)) ds) : ((ks.map fun p => kd p.1).zip ds).length = ks.length := by
  have hl := r.length
  rw [List.length_map] at hl
  rw [List.length_zip, List.length_map]
  omega
theorem dputT_rel {K : PySem.W.Frag} {F : Hp} {z : List Key} {v : V} {d : D} (rv : Rp K F v d) : ∀ {ks : List (List Key × V)} {ds : List D}, RpA K F (ks.map (·.2)) ds →
    ∃ ds', RpA K F ((ks.map fun kv => if kv.1 = z then (kv.1, v) else kv).map (·.2)) ds' ∧ (((ks.map fun p => PyData.tuple (p.1.map kd)).zip ds).map fun p => if keyT p.1 = some z then (p.1, d) else p) = ((ks.map fun kv => if kv.1 = z then (kv.1, v) else kv).map fun p => PyData.tuple (p.1.map kd)).zip ds'
  | [], _, r => ⟨[], .nil, rfl⟩
  | (k, w) :: ks, [], r => by cases r
  | (k, w) :: ks, e :: ds, r => by
    cases r with
    | cons r t =>
      obtain ⟨ds', h1, h2⟩ := dputT_rel rv t
      by_cases h : k = z
      · refine ⟨d :: ds', ?_, ?_⟩
        · rw [List.map_cons, if_pos h]
          exact .cons rv h1
        · rw [List.map_cons, List.zip_cons_cons, List.map_cons, h2, List.map_cons, if_pos h]
          show (if keyT (PyData.tuple (k.map kd)) = some z then (PyData.tuple (k.map kd), d) else (PyData.tuple (k.map kd), e)) :: _ = _
          rw [keyT_kd, if_pos (by rw [h])]
          rfl
      · refine ⟨e :: ds', ?_, ?_⟩
        · rw [List.map_cons, if_neg h]
          exact .cons r h1
        · rw [List.map_cons, List.zip_cons_cons, List.map_cons, h2, List.map_cons, if_neg h]
          show (if keyT (PyData.tuple (k.map kd)) = some z then (PyData.tuple (k.map kd), d) else (PyData.tuple (k.map kd), e)) :: _ = _
          rw [keyT_kd, if_neg (fun q => h (Option.some.inj q))]
          rfl
theorem anyT_rel {K : PySem.W.Frag} {F : Hp} {z : List Key} : ∀ {ks : List (List Key × V)} {ds : List D}, RpA K F (ks.map (·.2)) ds → (((ks.map fun p => PyData.tuple (p.1.map kd)).zip ds).any fun p => decide (keyT p.1 = some z)) = ks.any fun kv => decide (kv.1 = z)
  | [], _, r => rfl
  | (k, w) :: ks, [], r => by cases r
  | (k, w) :: ks, e :: ds, r => by
    cases r with
    | cons r t =>
      rw [List.map_cons, List.zip_cons_cons, List.any_cons, List.any_cons, anyT_rel t]
      congr 1
      show decide (keyT (PyData.tuple (k.map kd)) = some z) = decide (k = z)
      rw [keyT_kd]
      exact decide_eq_decide.mpr ⟨fun q => Option.some.inj q, fun q => by rw [q]⟩
theorem putT_rel {K : PySem.W.Frag} {F : Hp} {z : List Key} {v : V} {d : D} (rv : Rp K F v d) {ks : List (List Key × V)} {ds : List D} (r : RpA K F (ks.map (·.2)) ds) :
    ∃ ds', RpA K F ((putK ks z v).map (·.2)) ds' ∧ dPutT ((ks.map fun p => PyData.tuple (p.1.map kd)).zip ds) (PyData.tuple (z.map kd)) d z = ((putK ks z v).map fun p => PyData.tuple (p.1.map kd)).zip ds' := by
  unfold dPutT putK
  rw [anyT_rel r]
  split
  · exact dputT_rel rv r
  · refine ⟨ds ++ [d], ?_, ?_⟩
    · rw [List.map_append]
      exact r.append (.cons rv .nil)
    · rw [List.map_append]
      have hl := r.length
      rw [List.length_map] at hl
      rw [List.zip_append (by rw [List.length_map]; exact hl)]
      rfl
theorem zipT_len {K : PySem.W.Frag} {F : Hp} {ks : List (List Key × V)} {ds : List D} (r : RpA K F (ks.map (·.2)) ds) : ((ks.map fun p => PyData.tuple (p.1.map kd)).zip ds).length = ks.length := by
  have hl := r.length
  rw [List.length_map] at hl
  rw [List.length_zip, List.length_map]
  omega
theorem OutQ.dic {K : PySem.W.Frag} {F H : Hp} {Q : VK} {p : Addr} {ks : List (Key × V)} {ds : List D} (q : OutQ K F H (.tmp (.dic ((ks.map fun p => kd p.1).zip ds))) Q) (s : Same F H) (n : H p = none) (r : RpA K F (ks.map (·.2)) ds) : Q (.ref p) (upd H p (.dK ks)) :=
  q F _ _ [p] (grow_new s n) ⟨.dK upd_same r, by simp, fun b h => by
    have e : b = p := by simpa using h
    subst e
    exact ⟨s.free n, n⟩⟩
section
variable {M : Pm} {G : Gh} {W : WX} {F F' : Hp} {σ : L2.St} {Q Q' : VK} {X : Cx} {e a b c : Expr} {ca cb cc : E} {pos : Pos} {es : List Expr} {ces : List E}
/-! ### {}, {k: v} of names and constants -/
theorem ev_dic0 : EV M X (.Dict [] [] pos) .dic0 := by
  refine ⟨fun W tk => PE.imp pe_dnewK fun σ H Q ⟨G, as, F, s, S, h⟩ p hp => ?_⟩
  simp only [ev, fin_false] at h
  have q : OutQ M.K F H (.tmp (.dic [])) Q := fun F' H' v aT g n => h as F' H' v aT g.f (S.new g n).1 (S.new g n).2
  exact OutQ.dic (ks := []) (ds := []) q S.same hp .nil
/-- a name or a constant -/
def AtRel (σ : L2.St) (v : V) : At → Prop
  | .cst d => ∀ (K : PySem.W.Frag) (F : Hp), Rp K F v d
  | .slot i => σ[i]? = some (some v)
structure AtE (M : Pm) (X : Cx) (e : Expr) (a : At) : Prop where
  run : PE X e fun σ H Q => ∃ v, AtRel σ v a ∧ Q v H
theorem at_int {i : Int} {j : Nat} : AtE M X (.Constant (.int i) j pos) (.cst (.int i)) := ⟨PE.imp pe_int fun σ H Q ⟨v, r, q⟩ => by
  have := r M.K fun _ => none
  cases this
  exact q⟩
theorem at_bl {i : Bool} {j : Nat} : AtE M X (.Constant (.bool i) j pos) (.cst (.bool i)) := ⟨PE.imp pe_bl fun σ H Q ⟨v, r, q⟩ => by
  have := r M.K fun _ => none
  cases this
  exact q⟩
theorem at_var (i : Nat) {x : Str} (hN : X.N[i]? = some x := by rfl) (hv : Vis X.env.scope x := by first | exact Or.inl rfl | exact Or.inr (Or.inl rfl) | exact Or.inr (Or.inr rfl)) (hd : (x == ("__debug__" : Str)) = false := by decide)
    (hcd : (x == ("__classdict__" : Str)) = false := by decide) : AtE M X (.Name x pos) (.slot i) := ⟨PE.imp (pe_var (i := i) hN hv hd hcd) fun σ H Q ⟨v, r, q⟩ => ⟨v, r, q⟩⟩
theorem at_rel {as : Nat → List Addr} {s : Env} {H : Hp} (S : StA M.K G as F s σ H) {a : At} {d : D} (e : a.d? s = some d) (hc : ∀ d, a = .cst d → (∃ i, d = .int i) ∨ ∃ b, d = .bool b) : ∃ v, AtRel σ v a ∧ Rp M.K F v d := by
  cases a with
  | cst d' =>
    cases e
    rcases hc _ rfl with ⟨i, rfl⟩ | ⟨b, rfl⟩
    · exact ⟨.int i, fun _ _ => .int i, .int i⟩
    · exact ⟨.bl b, fun _ _ => .bl b, .bl b⟩
  | slot i =>
    simp only [At.d?] at e
    split at e
    · rename_i m d' q
      cases e
      obtain ⟨v, h1, h2⟩ := S.cell _ _ _ q
      generalize as i = l at h2
      cases h2 with
      | val r => exact ⟨v, h1, r⟩
    · cases e
def atOk : At → Bool
  | .cst (.int _) => true
  | .cst (.bool _) => true
  | .slot _ => true
  | _ => false
theorem atOk_of {a : At} (h : atOk a = true) : ∀ d, a = .cst d → (∃ i, d = .int i) ∨ ∃ b, d = .bool b := fun d e => by
  subst e
  cases d <;> first | exact .inl ⟨_, rfl⟩ | exact .inr ⟨_, rfl⟩ | cases h
theorem ev_dic1 {k v : At} (hk : AtE M X a k) (hv : AtE M X b v) (h1 : atOk k = true := by rfl) (h2 : atOk v = true := by rfl) : EV M X (.Dict [some a] [b] pos) (.dic1 k v) := by
  refine ⟨fun W tk => PE.imp (pe_disp (pps_cons hk.run hv.run pps_nil) rfl rfl (by simp) (by simp)) fun σ H Q ⟨G, as, F, s, S, h⟩ p hp => ?_⟩
  simp only [ev, fin_false] at h
  split at h
  · rename_i dk dv e1 e2
    split at h
    · rename_i z ez
      obtain ⟨x, ax, rx⟩ := at_rel S e1 (atOk_of h1)
      obtain ⟨y, ay, ry⟩ := at_rel S e2 (atOk_of h2)
      obtain ⟨rfl, rfl⟩ := key_rel (Rp.rt (H := F) (.refl _) rx) ez
      refine ⟨_, ax, _, ay, upd_same, [(z, y)], rfl, by simp, ?_⟩
      have q : OutQ M.K F H (.tmp (.dic [(kd z, dv)])) Q := fun F' H' v aT g n => h as F' H' v aT g.f (S.new g n).1 (S.new g n).2
      have q' := OutQ.dic (ks := [(z, y)]) (ds := [dv]) q S.same hp (.cons ry .nil)
      have eu : upd (upd H p (.dK [])) p (.dK [(z, y)]) = upd H p (.dK [(z, y)]) := upd_upd
      show Q (.ref p) (upd (upd H p (.dK [])) p (.dK [(z, y)]))
      rw [eu]
      exact q'
    · exact h.elim
  · exact h.elim
/-! ### d[k] -/
theorem lookD_rel {as : Nat → List Addr} {s : Env} {H : Hp} (S : StA M.K G as F s σ H) {i : Nat} {kvs : List (D × D)} (e : lookD s i = some kvs) : ∃ v, σ[i]? = some (some v) ∧ Rt M.K F H v (.dict kvs) := by
  unfold lookD at e
  split at e
  · rename_i m kvs' q
    cases e
    obtain ⟨v, h1, h2⟩ := S.cell _ _ _ q
    exact ⟨v, h1, h2.rt S.same rfl⟩
  · rename_i m kvs' q
    cases e
    obtain ⟨v, h1, h2⟩ := S.cell _ _ _ q
    exact ⟨v, h1, h2.rt S.same rfl⟩
  · cases e
theorem ev_dget (i : Nat) {x : Str} {p1 : Pos} (hu : X.A.units + 65 < cLine) (hb : EV M X b cb) (hs : NoSl b) (hN : X.N[i]? = some x := by rfl) (hv : Vis X.env.scope x := by first | exact Or.inl rfl | exact Or.inr (Or.inl rfl) | exact Or.inr (Or.inr rfl)) (hd : (x == ("__debug__" : Str)) = false := by decide)
    (hcd : (x == ("__classdict__" : Str)) = false := by decide) : EV M X (.Subscript (.Name x p1) b pos) (.dget i cb) := by
  refine ⟨fun W tk => PE.imp (pe_dget (by omega) (pe_var (i := i) hN hv hd hcd) (hb.run W tk) hs) fun σ H Q ⟨G, as, F, s, S, h⟩ => ?_⟩
  simp only [ev, fin_false] at h
  cases e0 : lookD s i with
  | none => rw [e0] at h; exact h.elim
  | some kvs0 =>
    rw [e0] at h
    obtain ⟨v, hv, _⟩ := lookD_rel S e0
    refine ⟨v, hv, G, as, F, s, S, Post.bind h fun rk s1 as1 F1 H1 y aT _ _ S1 R1 h1 => ?_⟩
    obtain ⟨r, e3, q⟩ := Post.opt S1 h1
    obtain ⟨kvs, l1, e3⟩ := bind_some e3
    obtain ⟨dk, l2, e3⟩ := bind_some e3
    rw [Option.map_eq_some_iff] at e3
    obtain ⟨d, ej, rfl⟩ := e3
    obtain ⟨o, eo, e5⟩ : ∃ o, dGetF kvs dk = some o ∧ o = some d := by
      cases eo : dGetF kvs dk with
      | none => rw [eo] at ej; cases ej
      | some o => rw [eo] at ej; exact ⟨o, rfl, ej⟩
    obtain ⟨v', hv', tv⟩ := lookD_rel S1 l1
    rw [hv] at hv'
    cases hv'
    obtain ⟨a, o', rfl, g, _, hd⟩ := dget_rel tv (S1.rt R1 l2) eo
    obtain ⟨w, rfl, rw'⟩ := hd d e5
    exact ⟨a, w, rfl, g, q.same S1.same rw'⟩
/-! ### d[k] = v -/
theorem StA.changeC {as : Nat → List Addr} {s : Env} {H : Hp} (S : StA M.K G as F s σ H) {i : Nat} {m : Mode} {kvs : List (D × D)} {l : Addr} {c2 : Cell} {ob : HO} (h : s[i]? = some (some (m, .dic kvs))) (hm : m ≠ .ro) (hv : σ[i]? = some (some (.ref l))) (hr : CRel M.K F (upd H l ob) (.ref l) c2 [l]) :
    StA M.K G as F (s.set i (some (m, c2))) σ (upd H l ob) := by
  obtain ⟨v, hv', rc⟩ := S.cell _ _ _ h
  rw [hv] at hv'
  cases hv'
  have hi : i < s.length := (List.getElem?_eq_some_iff.mp h).1
  have ha : as i = [l] := by
    generalize as i = a at rc
    cases rc with
    | dK h r => rfl
    | dT h r => rfl
  have lin : l ∈ as i := by rw [ha]; simp
  have get : ∀ (j : Nat) m' c', (s.set i (some (m, c2)))[j]? = some (some (m', c')) → (j = i ∧ m' = m ∧ c' = c2) ∨ (j ≠ i ∧ s[j]? = some (some (m', c'))) := fun j m' c' q => by
    by_cases z : j = i
    · subst z
      rw [List.getElem?_set_self hi] at q
      cases q
      exact .inl ⟨rfl, rfl, rfl⟩
    · rw [List.getElem?_set_ne (Ne.symm z)] at q
      exact .inr ⟨z, q⟩
  exact {
    len := by rw [List.length_set]; exact S.len
    cell := fun j m' c' q => by
      rcases get j m' c' q with ⟨rfl, rfl, rfl⟩ | ⟨z, q⟩
      · exact ⟨.ref l, hv, by rw [ha]; exact hr⟩
      · obtain ⟨w, h1, h2⟩ := S.cell _ _ _ q
        refine ⟨w, h1, h2.mono (.refl _) fun p hp o e => ?_⟩
        rw [upd_ne fun y : p = l => z (S.dis j i l (by rw [← y]; exact hp) lin)]
        exact e
    emp := fun j q => by
      by_cases z : j = i
      · subst z
        exact absurd (List.getElem?_set_self hi) (q _ _)
      · refine S.emp j fun m' c' q' => q m' c' ?_
        rw [List.getElem?_set_ne (Ne.symm z)]
        exact q'
    dis := S.dis
    nd := S.nd
    fr := S.fr
    md := fun j m' c' p q hp => by
      rcases get j m' c' q with ⟨rfl, rfl, rfl⟩ | ⟨z, q⟩
      · exact S.md j _ _ p h hp
      · exact S.md j m' c' p q hp
    same := fun q o e => by
      rw [upd_ne fun z : q = l => by rw [z, S.fr i l lin] at e; cases e]
      exact S.same q o e
    f0 := S.f0
    fnew := fun q hq => by
      rw [upd_ne fun z => hq (by rw [z]; exact S.fr i l lin)]
      exact S.fnew q hq
    fra := fun q o hq e => by
      rw [upd_ne fun z : q = l => by
        rw [z] at hq e
        rcases S.md i _ _ l h lin with y | y | y | y
        · exact hm y.1
        · rw [y] at e; cases e
        · exact hq y.2
        · exact hq y.2.1]
      exact S.fra q o hq e
    dom := fun q hq => by
      by_cases z : q = l
      · rw [z, upd_same]; simp
      · rw [upd_ne z]; exact S.dom q hq
    pin := fun j m' c' q hm' => by
      rcases get j m' c' q with ⟨rfl, rfl, rfl⟩ | ⟨z, q⟩
      · exact S.pin j _ _ h hm'
      · exact S.pin j m' c' q hm' }
theorem StA.changeD {as : Nat → List Addr} {s : Env} {H : Hp} (S : StA M.K G as F s σ H) {i : Nat} {m : Mode} {kvs : List (D × D)} {ks : List (Key × V)} {ds : List D} {l : Addr} (h : s[i]? = some (some (m, .dic kvs))) (hm : m ≠ .ro) (hv : σ[i]? = some (some (.ref l))) (r : RpA M.K F (ks.map (·.2)) ds) :
    StA M.K G as F (s.set i (some (m, .dic ((ks.map fun p => kd p.1).zip ds)))) σ (upd H l (.dK ks)) := S.changeC h hm hv (.dK upd_same r)
theorem putT_ne {ks : List (List Key × V)} {z : List Key} {v : V} (h : ks ≠ []) : putK ks z v ≠ [] := by
  unfold putK
  split
  · simpa using h
  · simp
theorem s_asgD {i : Nat} {x : Str} {p1 p2 : Pos} {k : Expr} {ck : E} (hu : X.A.units + 65 < cLine) (hN : X.N[i]? = some x) (hv : Vis X.env.scope x) (he : EV M X e ca) (hk : EV M X k ck) (hd : (x == ("__debug__" : Str)) = false := by decide) (hcd : (x == ("__classdict__" : Str)) = false := by decide)
    (ha : ∀ v, assign (.Subscript (.Name x p1) k p2) X.env v = (do
      let ov ← holding [v] (eval (.Name x p1) X.env)
      let iv ← holding [v, ov] (eval k X.env)
      standAt p2
      holding [v, ov, iv] (setItem ov iv v)
      release [v, ov, iv] []) := by intro _; rfl)
    (hs : swapsWithSole [.Subscript (.Name x p1) k p2] e pos.line X.env = pure false := by rfl) (hw : swappedStores [.Subscript (.Name x p1) k p2] e X.env = pure none := by rfl)
    (h1 : (assignEach [.Subscript (.Name x p1) k p2] X.env).map (·.2) = [assign (.Subscript (.Name x p1) k p2) X.env] := by rfl) : S1 M X (.Assign [.Subscript (.Name x p1) k p2] e pos) (.asgD i ck ca) := by
  refine ⟨fun W tk hp => PS.imp (ps_asg (he.run W tk) (pg_sub (pe_var (i := i) hN hv hd hcd) (hk.run W tk) (set_dict (by omega)) ha) hs hw h1) fun D σ H ⟨G, as, F, s, S, h⟩ => ⟨G, as, F, s, S, ?_⟩⟩
  simp only [ex1, evs] at h
  cases e1 : ev M.Γ false ca s with
  | stk => rw [e1] at h; exact h
  | ex x p s' => rw [e1] at h; exact fun as' F' H' cls d sf S' R => h as' F' σ H' cls d sf S' R
  | ok r s1 =>
    intro as1 F1 H1 v aT sf1 S1 R1
    rw [e1] at h
    simp only [R.bind] at h
    cases e2 : frz s1 r with
    | none => rw [e2] at h; exact h.elim
    | some ds2 =>
      obtain ⟨d, s2⟩ := ds2
      rw [e2] at h
      obtain ⟨as2, F2, sf2, S2, rp⟩ := frz_ok S1 R1 e2
      have h : PostX M G W F (match s2[i]? with
        | some (some (_, .dic _)) => (ev M.Γ false ck s2).thenX fun rk s3 => match s3[i]?, look s3 rk, [d] with
          | some (some (md, .dic kvs)), some kk, [d] => if md = .ro then .stk else match dPutF kvs kk d with
            | some kvs' => .nx (s3.set i (some (md, .dic kvs')))
            | none => .stk
          | _, _, _ => .stk
        | _ => .stk) D := h
      split at h
      · rename_i md0 xs0 q0
        obtain ⟨w, hw, rc⟩ := S2.cell _ _ _ q0
        refine ⟨w, hw, G, as2, F2, s2, S2, PostX.then (PostX.mono h (sf1.trans sf2)) fun rk s3 as3 F3 H3 y bT _ sf3 S3 R3 h3 => ?_⟩
        split at h3
        · rename_i md kvs kk d' q3 e3 ed
          cases ed
          split at h3
          · exact h3.elim
          · rename_i hm
            split at h3
            · rename_i kvs' hn
              unfold dPutF at hn
              split at hn
              · rename_i hz
                rw [Option.map_eq_some_iff] at hn
                obtain ⟨z, ez, rfl⟩ := hn
                obtain ⟨rfl, rfl⟩ := key_rel (S3.rt R3 e3) ez
                obtain ⟨w', hw', rc'⟩ := S3.cell _ _ _ q3
                rw [hw] at hw'
                cases hw'
                generalize as3 i = l1 at rc'
                cases rc' with
                | @dK l ks ds hl rr =>
                  obtain ⟨ds', g1, g2⟩ := putK_rel (z := z) (rp.mono sf3) rr
                  refine ⟨l, _, rfl, .inl ⟨ks, z, hl, rfl, by rw [← big_eq, ← zip_len rr]; exact hz.1, rfl⟩, ?_⟩
                  rw [g2] at h3
                  exact h3 as3 F3 σ _ (.refl _) (S3.changeD q3 hm hw g1)
                | dT hl rr =>
                  rw [kindK_T hl.2 rr] at hz
                  cases hz.2
              · rename_i hk0
                split at hn
                · rename_i hz
                  rw [Option.map_eq_some_iff] at hn
                  obtain ⟨z, ez, rfl⟩ := hn
                  obtain ⟨b, rfl, hb, rfl⟩ := keyT_rel (S3.rt R3 e3) ez
                  obtain ⟨w', hw', rc'⟩ := S3.cell _ _ _ q3
                  rw [hw] at hw'
                  cases hw'
                  generalize as3 i = l1 at rc'
                  cases rc' with
                  | @dK l ks ds hl rr => exact absurd ⟨hz.1, kindK_K rr⟩ hk0
                  | @dT l ks ds hl rr =>
                    obtain ⟨ds', g1, g2⟩ := putT_rel (z := z) (rp.mono sf3) rr
                    refine ⟨l, _, rfl, .inr ⟨ks, z, b, hl.1, rfl, hb, by rw [← big_eq, ← zipT_len rr]; exact hz.1, rfl⟩, ?_⟩
                    rw [g2] at h3
                    exact h3 as3 F3 σ _ (.refl _) (S3.changeC q3 hm hw (.dT ⟨upd_same, putT_ne hl.2⟩ g1))
                · cases hn
            · exact h3.elim
        · exact h3.elim
      · exact h.elim
/-! ### a dict handed on: x = y, y not used any more -/
theorem StA.move {as : Nat → List Addr} {s : Env} {H : Hp} {v : V} (S : StA M.K G as F s σ H) {i j : Nat} {kvs : List (D × D)} (hi : freeAt s i) (hj : s[j]? = some (some (.fr, .dic kvs))) (hij : i ≠ j) (hv : σ[j]? = some (some v)) :
    StA M.K G (fun k => if k = i then as j else if k = j then [] else as k) F ((s.set j none).set i (some (.fr, .dic kvs))) (σ.set i (some v)) H := by
  obtain ⟨v', hv', rc⟩ := S.cell _ _ _ hj
  rw [hv] at hv'
  cases hv'
  have li := hi.lt
  have lj : j < s.length := (List.getElem?_eq_some_iff.mp hj).1
  have get : ∀ (k : Nat) m' c', ((s.set j none).set i (some (Mode.fr, Cell.dic kvs)))[k]? = some (some (m', c')) → (k = i ∧ m' = .fr ∧ c' = .dic kvs) ∨ (k ≠ i ∧ k ≠ j ∧ s[k]? = some (some (m', c'))) := fun k m' c' q => by
    by_cases z : k = i
    · subst z
      rw [List.getElem?_set_self (by rw [List.length_set]; exact li)] at q
      cases q
      exact .inl ⟨rfl, rfl, rfl⟩
    · rw [List.getElem?_set_ne (Ne.symm z)] at q
      by_cases z2 : k = j
      · subst z2
        rw [List.getElem?_set_self lj] at q
        cases q
      · rw [List.getElem?_set_ne (Ne.symm z2)] at q
        exact .inr ⟨z, z2, q⟩
  exact {
    len := by rw [List.length_set, List.length_set, List.length_set]; exact S.len
    cell := fun k m' c' q => by
      rcases get k m' c' q with ⟨rfl, rfl, rfl⟩ | ⟨z, z2, q⟩
      · exact ⟨v, List.getElem?_set_self (by rw [← S.len]; exact li), by rw [if_pos rfl]; exact rc⟩
      · obtain ⟨w, h1, h2⟩ := S.cell _ _ _ q
        exact ⟨w, by rw [List.getElem?_set_ne (Ne.symm z)]; exact h1, by rw [if_neg z, if_neg z2]; exact h2⟩
    emp := fun k q => by
      by_cases z : k = i
      · subst z
        exact absurd (List.getElem?_set_self (by rw [List.length_set]; exact li)) (q _ _)
      · rw [if_neg z]
        by_cases z2 : k = j
        · rw [if_pos z2]
        · rw [if_neg z2]
          refine S.emp k fun m' c' q' => q m' c' ?_
          rw [List.getElem?_set_ne (Ne.symm z), List.getElem?_set_ne (Ne.symm z2)]
          exact q'
    dis := fun k k' p hk hk' => by
      by_cases z : k = i
      · by_cases z' : k' = i
        · rw [z, z']
        · rw [if_pos z] at hk
          rw [if_neg z'] at hk'
          by_cases z2 : k' = j
          · rw [if_pos z2] at hk'; cases hk'
          · rw [if_neg z2] at hk'
            exact absurd (S.dis k' j p hk' hk) z2
      · rw [if_neg z] at hk
        by_cases y : k = j
        · rw [if_pos y] at hk; cases hk
        · rw [if_neg y] at hk
          by_cases z' : k' = i
          · rw [if_pos z'] at hk'
            exact absurd (S.dis k j p hk hk') y
          · rw [if_neg z'] at hk'
            by_cases z2 : k' = j
            · rw [if_pos z2] at hk'; cases hk'
            · rw [if_neg z2] at hk'
              exact S.dis k k' p hk hk'
    nd := fun k => by
      split
      · exact S.nd j
      · split
        · exact .nil
        · exact S.nd k
    fr := fun k p hp => by
      split at hp
      · exact S.fr j p hp
      · split at hp
        · cases hp
        · exact S.fr k p hp
    md := fun k m' c' p q hp => by
      rcases get k m' c' q with ⟨rfl, rfl, rfl⟩ | ⟨z, z2, q⟩
      · rw [if_pos rfl] at hp
        exact S.md j _ _ p hj hp
      · rw [if_neg z, if_neg z2] at hp
        exact S.md k m' c' p q hp
    same := S.same
    f0 := S.f0
    fnew := S.fnew
    fra := S.fra
    dom := S.dom
    pin := fun k m' c' q hm' => by
      rcases get k m' c' q with ⟨rfl, rfl, rfl⟩ | ⟨z, z2, q⟩
      · exact absurd rfl hm'
      · rw [List.getElem?_set_ne (Ne.symm z)]
        exact S.pin k m' c' q hm' }
theorem s_mov {i j : Nat} {x y : Str} {pos' pos2 : Pos} (hN : X.N.Nodup) (hi : X.N[i]? = some x) (hx : Loc X.env.scope x) (hj : X.N[j]? = some y) (hvj : Vis X.env.scope y) (hs : swapsWith (.Name y pos2) (some (.Name x pos')) pos.line X.env = pure false := by rfl)
    (hd : (y == ("__debug__" : Str)) = false := by decide) (hcd : (y == ("__classdict__" : Str)) = false := by decide)
    (hf : X.fn x = true ∨ X.env.scope.names.lookup x = some .local := by first | exact .inl rfl | exact .inr rfl | assumption) : S1 M X (.Assign [.Name x pos'] (.Name y pos2) pos) (.mov i j) := by
  refine ⟨fun W tk hp => PS.imp (ps_set hN hi hx (pe_var (i := j) hj hvj hd hcd) hs hf) fun D σ H ⟨G, as, F, s, S, h⟩ => ?_⟩
  simp only [ex1] at h
  split at h
  · rename_i c kvs q1 q2
    split at h
    · exact h.elim
    · rename_i hij
      obtain ⟨v, hv, _⟩ := S.cell _ _ _ q2
      exact ⟨v, hv, h _ F _ H (.refl _) (S.move (.inr ⟨c, q1⟩) q2 hij hv)⟩
  · rename_i kvs q1 q2
    split at h
    · exact h.elim
    · rename_i hij
      obtain ⟨v, hv, _⟩ := S.cell _ _ _ q2
      exact ⟨v, hv, h _ F _ H (.refl _) (S.move (.inl q1) q2 hij hv)⟩
  · exact h.elim
/-! ### for k in d -/
/-- locked (it stays so) and frozen -/
theorem StA.lockSlot {as : Nat → List Addr} {s : Env} {H : Hp} {a : Addr} {ks : List (Key × V)} {ds : List D} (S : StA M.K G as F s σ H) {i : Nat} (h : s[i]? = some (some (.fr, .dic ((ks.map fun p => kd p.1).zip ds)))) (hv : σ[i]? = some (some (.ref a))) (ha : as i = [a]) (hl : H a = some (.dK ks)) (r : RpA M.K F (ks.map (·.2)) ds) (od : Obj) :
    StA M.K G (fun j => if j = i then [] else as j) (upd F a (.frz od (.dK ks))) (s.set i (some (.fr, .val (.dict ((ks.map fun p => kd p.1).zip ds))))) σ (upd H a (.frz od (.dK ks))) := by
  have lin : a ∈ as i := by rw [ha]; simp
  have hF : F a = none := S.fr i a lin
  have sm : Same F (upd F a (.frz od (.dK ks))) := fun b u e => by rw [upd_ne (ne_of_none e hF)]; exact e
  have hi : i < s.length := (List.getElem?_eq_some_iff.mp h).1
  have oth : ∀ (j : Nat) (p : Addr), j ≠ i → p ∈ as j → p ≠ a := fun j p z hp e => z (S.dis j i p hp (by rw [e]; exact lin))
  have get : ∀ (j : Nat) m c', (s.set i (some (Mode.fr, Cell.val (.dict ((ks.map fun p => kd p.1).zip ds)))))[j]? = some (some (m, c')) → (j = i ∧ m = .fr ∧ c' = .val (.dict ((ks.map fun p => kd p.1).zip ds))) ∨ (j ≠ i ∧ s[j]? = some (some (m, c'))) := fun j m c' q => by
    by_cases z : j = i
    · subst z
      rw [List.getElem?_set_self hi] at q
      cases q
      exact .inl ⟨rfl, rfl, rfl⟩
    · rw [List.getElem?_set_ne (Ne.symm z)] at q
      exact .inr ⟨z, q⟩
  exact {
    len := by rw [List.length_set]; exact S.len
    cell := fun j m c' q => by
      rcases get j m c' q with ⟨rfl, rfl, rfl⟩ | ⟨z, q⟩
      · exact ⟨.ref a, hv, by rw [if_pos rfl]; exact .val (.dK (.inr ⟨od, upd_same⟩) (r.mono sm))⟩
      · obtain ⟨w, h1, h2⟩ := S.cell _ _ _ q
        refine ⟨w, h1, ?_⟩
        rw [if_neg z]
        exact h2.mono sm fun p hp o e => by rw [upd_ne (oth j p z hp)]; exact e
    emp := fun j q => by
      by_cases z : j = i
      · rw [if_pos z]
      · rw [if_neg z]
        refine S.emp j fun m c' q' => q m c' ?_
        rw [List.getElem?_set_ne (Ne.symm z)]
        exact q'
    dis := fun j k p hj hk => by
      split at hj
      · cases hj
      · split at hk
        · cases hk
        · exact S.dis j k p hj hk
    nd := fun j => by
      split
      · exact .nil
      · exact S.nd j
    fr := fun j p hj => by
      split at hj
      · cases hj
      · rename_i z
        rw [upd_ne (oth j p z hj)]
        exact S.fr j p hj
    md := fun j m c p q hj => by
      split at hj
      · cases hj
      · rename_i z
        rcases get j m c q with ⟨y, _, _⟩ | ⟨_, q⟩
        · exact absurd y z
        · exact S.md j m c p q hj
    same := fun b u e => by
      by_cases z : b = a
      · rw [z, upd_same] at e ⊢; exact e
      · rw [upd_ne z] at e ⊢; exact S.same b u e
    f0 := S.f0.trans sm
    fnew := fun b hb => by
      by_cases z : b = a
      · rw [z]
        rcases S.md i _ _ a h lin with y | y | y | y
        · cases y.1
        · exact .inr (.inl y)
        · cases y.1
        · exact .inr (.inr (.inl y.2.2))
      · rw [upd_ne z] at hb ⊢
        exact S.fnew b hb
    fra := fun b o hb e => by
      by_cases z : b = a
      · rw [z] at hb e
        rcases S.md i _ _ a h lin with y | y | y | y
        · cases y.1
        · rw [y] at e; cases e
        · cases y.1
        · exact absurd y.2.1 hb
      · rw [upd_ne z]
        exact S.fra b o hb e
    dom := fun b hb => by
      by_cases z : b = a
      · rw [z, upd_same]; simp
      · rw [upd_ne z]; exact S.dom b hb
    pin := fun j m c q hm => by
      rcases get j m c q with ⟨_, y, _⟩ | ⟨_, q⟩
      · exact absurd y hm
      · exact S.pin j m c q hm }
theorem ps_lockF {X : Cx} {st : Stmt} {t : TS} (h : PS X st t) : PS X st fun D σ H => ∃ d u, H d = some u ∧ L2.Mut (some u) ∧ ∀ od, t D σ (upd H d (.frz od u)) := by
  refine ⟨fun pins s σ H D I hw => ?_⟩
  obtain ⟨d, u, hd, mu, hw⟩ := hw
  obtain ⟨od, I1⟩ := I.lock hd mu
  exact h.run pins s σ _ D I1 (hw od)
/-- the loop behind the walk -/
theorem walk_for {items : List D} {t : Tg} {cb : List S} {tb : TS} {as1 : Nat → List Addr} {F1 H1 : Hp} {s2 : Env} {J : It} {D : Ends} (htb : ∀ D σ H, tS M W cb D σ H → tb D σ H) (S1 : StA M.K G as1 F1 s2 σ H1) (wd : WalkD M.K F1 H1 s2 as1 J items)
    (h : PostX M G W F1 (loopX (fun se => exs M.Γ cb se) t items s2) D) : ∃ W' : Nat → Nat → L2.St → Hp → Prop, (∃ m, W' 0 m σ H1) ∧ ∀ i m σ H, W' i m σ H →
    (J.stop i H ∧ D.nx σ H) ∨ (J.go i H ∧ ∃ N : L2.St → Hp → Prop, (∀ σ' H', N σ' H' → ∃ m', m' < m ∧ W' (i + 1) m' σ' H') ∧ ∀ x H', J.yld i H x H' → tgT t x σ H' fun σ2 H2 => tb { D with nx := N, ct := N, bk := D.nx } σ2 H2) := by
  obtain ⟨st, hst, wk⟩ := wd
  have h1 := PostX.reg S1 h
  refine for_it wk (fun i σ' H' => ∃ (asi : Nat → List Addr) (Fi : Hp) (si : Env), StA M.K (G.reg F1 H1 s2 as1) asi Fi si σ' H' ∧ Same F1 Fi ∧ PostX M (G.reg F1 H1 s2 as1) W Fi (loopX (fun se => exs M.Γ cb se) t (items.drop i) si) D) ?_ ?_ ?_ ?_
  · exact ⟨as1, F1, s2, S1.enter (.refl _) S1.same, .refl _, h1⟩
  · rintro i σ' H' _ ⟨asi, Fi, si, Si, sfi, _⟩
    refine hst H' (sfi.trans Si.same) fun i' m' c' q o e' hm' hj' hq => Si.still hq fun j m c e hm hj => ?_
    have ej : j = i' := S1.dis j i' q hj hj'
    subst ej
    rw [e] at e'
    cases e'
    rw [hm] at hm'
    cases hm'
  · rintro i x σ' H2 _ hi ⟨asi, Fi, si, Si, sfi, hp⟩ ⟨rfl, d, hd, rx⟩
    have ed : items.drop i = d :: items.drop (i + 1) := by
      rw [List.drop_eq_getElem_cons hi]
      congr 1
      rw [List.getElem?_eq_getElem hi] at hd
      exact Option.some.inj hd
    rw [ed] at hp
    obtain ⟨hf, s1', eb, hp⟩ := loopX_cons hp
    refine bindT_ok Si (freeI_at hf) (rx.mono sfi) eb fun as' σ2 S2 _ _ => htb _ _ _ ⟨_, as', Fi, s1', S2, ?_⟩
    cases e5 : exs M.Γ cb s1' with
    | nx s3 =>
      rw [e5] at hp
      exact fun as' F' σ' H' sf S' => ⟨as', F', s3, S', sfi.trans sf, PostX.mono (show PostX M (G.reg F1 H1 s2 as1) W Fi (loopX (fun se => exs M.Γ cb se) t (items.drop (i + 1)) s3) D from hp) sf⟩
    | ret c s3 => rw [e5] at hp; exact hp
    | ex x p s3 => rw [e5] at hp; exact hp
    | stk => rw [e5] at hp; exact hp
  · rintro σ' H2 ⟨asi, Fi, si, Si, sfi, hp⟩
    rw [List.drop_length] at hp
    exact hp asi Fi σ' H2 (.refl _) Si
theorem walkd_keys {K : PySem.W.Frag} {F H : Hp} {s : Env} {as : Nat → List Addr} {a : Addr} {od : Obj} {ks : List (Key × V)} (hF : F a = some (.frz od (.dK ks))) : WalkD K F H s as (Itk a od ks) (ks.map fun p => kd p.1) := by
  refine ⟨fun H' => H' a = some (.frz od (.dK ks)), fun H' sm _ => sm _ _ hF, ?_⟩
  rw [List.length_map]
  refine ⟨fun i H hi h => ⟨h, hi⟩, fun H h => ⟨h, Nat.le_refl _⟩, fun i H x H' hi h y => ?_⟩
  obtain ⟨e, k, v, hk, rfl⟩ := y
  refine ⟨e, kd k, ?_, ?_⟩
  · rw [List.getElem?_map, hk]
    rfl
  · cases k with
    | inl i => exact .int i
    | inr z => exact .str z
theorem s_forD {tg : Expr} {i : Nat} {x : Str} {p1 : Pos} {b : List Stmt} {t : Tg} {cb : List S} (hc : X.calm = true) (hN : X.N[i]? = some x) (hv : Vis X.env.scope x) (hg : PG X tg (tgT t)) (hb : SS M X b cb) (hf : ∀ y, foldedSetIterable (.Name x p1) X.env y = pure y := by intro _; rfl)
    (hd : (x == ("__debug__" : Str)) = false := by decide) (hcd : (x == ("__classdict__" : Str)) = false := by decide) :
    S1 M X (.For tg (.Name x p1) b [] pos) (.forD t i cb) := by
  refine ⟨fun W tk hp => PS.imp (ps_lockF (ps_for hp hc (pi_keys (pe_var (i := i) hN hv hd hcd)) hg (hb.run W tk hp) hf)) fun D σ H ⟨G, as, F, s, S, h⟩ => ?_⟩
  simp only [ex1] at h
  split at h
  · rename_i kvs q
    split at h
    · rename_i hk
      obtain ⟨v, hv', rc⟩ := S.cell _ _ _ q
      generalize hai : as i = l0 at rc
      cases rc with
      | @dK a ks ds hl rr =>
        refine ⟨a, .dK ks, hl, trivial, fun od => ?_⟩
        have S1 := S.lockSlot q hv' hai hl rr od
        refine ⟨_, hv', a, od, rfl, .inl ⟨ks, upd_same, ?_⟩⟩
        have hmap : ((ks.map fun p => kd p.1).zip ds).map (·.1) = ks.map fun p => kd p.1 := by
          have hlen := rr.length
          rw [List.length_map] at hlen
          rw [List.map_fst_zip (by rw [List.length_map]; omega)]
        rw [hmap] at h
        exact walk_for (fun _ _ _ q => q) S1 (walkd_keys upd_same) (PostX.mono h fun b u e => by rw [upd_ne (ne_of_none e (S.fr i a (by rw [hai]; simp)))]; exact e)
      | dT hl rr =>
        rw [kindK_T hl.2 rr] at hk
        cases hk
    · exact h.elim
  · exact h.elim
/-! ### [elt for k in d] -/
theorem pe_lockF {X : Cx} {e : Expr} {t : TE} (h : PE X e t) : PE X e fun σ H Q => ∃ d u, H d = some u ∧ L2.Mut (some u) ∧ ∀ od, t σ (upd H d (.frz od u)) Q := by
  refine ⟨fun pins s σ H Q I hw => ?_⟩
  obtain ⟨d, u, hd, mu, hw⟩ := hw
  obtain ⟨od, I1⟩ := I.lock hd mu
  exact h.run pins s σ _ Q I1 (hw od)
theorem compD_eq {Γ : Cfg} {celt : E} {t : Tg} {i : Nat} {own : List Nat} {s : Env} {kvs : List (D × D)} (q : s[i]? = some (some (.fr, .dic kvs))) (hk : kindK kvs = true) :
    ev Γ false (.compD celt t i own) s = ev Γ false (.comp celt t .seq [.cst (.list (kvs.map (·.1)))] none own) (s.set i (some (.fr, .val (.dict kvs)))) := by
  simp only [ev, fin_false, q, hk, if_true, evr, R.bind, hold, lookAll, look, Option.bind_some, Option.map_some, itF, srcE]
theorem ev_compD {elt tg : Expr} {scope : Scope} {own : List (Str × Nat)} {t : Tg} {celt : E} (i : Nat) {x : Str} {p1 : Pos} (hc : X.calm = true) (hN : X.N.Nodup) (ok : BlkOk X.N X.env.scope scope own)
    (hg : ∀ s H C cl fp, PG (X.blk s H scope (compEnvC scope cl C X.env) fp) tg (tgT t)) (he : ∀ s H C cl fp, EV M (X.blk s H scope (compEnvC scope cl C X.env) fp) elt celt) (hown : ∀ i ∈ t.slots, i ∈ own.map (·.2))
    (hi : X.N[i]? = some x := by rfl) (hv : Vis X.env.scope x := by first | exact Or.inl rfl | exact Or.inr (Or.inl rfl) | exact Or.inr (Or.inr rfl)) (hd : (x == ("__debug__" : Str)) = false := by decide) (hcd : (x == ("__classdict__" : Str)) = false := by decide)
    (hf : ∀ y, foldedSetIterable (.Name x p1) X.env y = pure y := by intro _; rfl) : EV M X (.ListComp elt [⟨tg, .Name x p1, [], 0⟩] scope pos) (.compD celt t i (own.map (·.2))) := by
  refine ⟨fun W tk => PE.imp (pe_lockF (pe_lc hc hN (pi_keys (pe_var (i := i) hi hv hd hcd)) ok hg (fun _ _ _ _ _ => ts_no) (fun s H C cl fp => (he s H C cl fp).run W0 takesN0) hf)) fun σ H Q ⟨G, as, F, s, S, h⟩ => ?_⟩
  have key : ∃ kvs, s[i]? = some (some (.fr, .dic kvs)) ∧ kindK kvs = true := by
    simp only [ev, fin_false] at h
    split at h
    · rename_i kvs q
      split at h
      · rename_i hk
        exact ⟨kvs, q, hk⟩
      · exact h.elim
    · exact h.elim
  obtain ⟨kvs, q, hk⟩ := key
  rw [compD_eq q hk] at h
  obtain ⟨v, hv', rc⟩ := S.cell _ _ _ q
  generalize hai : as i = l0 at rc
  cases rc with
  | @dK a ks ds hl rr =>
    refine ⟨a, .dK ks, hl, trivial, fun od => ?_⟩
    have S1 := S.lockSlot q hv' hai hl rr od
    have hmap : ((ks.map fun p => kd p.1).zip ds).map (·.1) = ks.map fun p => kd p.1 := by
      have hlen := rr.length
      rw [List.length_map] at hlen
      rw [List.map_fst_zip (by rw [List.length_map]; omega)]
    rw [hmap] at h
    refine comp_coreP (k := .seq) (src := [.cst (.list (ks.map fun p => kd p.1))]) (cnd := none) hown .no (fun Rr hr => ?_) S1 (Post.mono h fun b u e => by rw [upd_ne (ne_of_none e (S.fr i a (by rw [hai]; simp)))]; exact e)
    have hr : ∀ as' F' H' J, Same (upd F a (.frz od (.dK ks))) F' → StA M.K G as' F' (s.set i (some (.fr, .val (.dict ((ks.map fun p => kd p.1).zip ds))))) σ H' → WalkD M.K F' H' (s.set i (some (.fr, .val (.dict ((ks.map fun p => kd p.1).zip ds))))) as' J (ks.map fun p => kd p.1) → Rr J H' := by
      simpa only [evr, ev, fin_false, R.bind, hold, PostI, lookAll, look, Option.bind_some, Option.map_some, itF, srcE] using hr
    exact ⟨_, hv', a, od, rfl, .inl ⟨ks, upd_same, hr _ _ _ _ (.refl _) S1 (walkd_keys upd_same)⟩⟩
  | dT hl rr =>
    rw [kindK_T hl.2 rr] at hk
    cases hk
/-! ### range(a, n, -1) -/
theorem walkd_dwn {K : PySem.W.Frag} {F H : Hp} {s : Env} {as : Nat → List Addr} (a : Int) (n : Nat) : WalkD K F H s as (Itc a (-1) n) ((List.range n).map fun (k : Nat) => .int (a - k)) := by
  refine ⟨fun _ => True, fun _ _ _ => trivial, ?_⟩
  rw [List.length_map, List.length_range]
  refine ⟨fun i H hi _ => hi, fun H _ => Nat.le_refl _, fun i H x H' hi _ y => ⟨y.1, .int (a - i), ?_, ?_⟩⟩
  · rw [List.getElem?_map, List.getElem?_range hi]
    rfl
  · rw [y.2]
    have : a + (i : Nat) * (-1) = a - i := by omega
    rw [this]
    exact .int _
theorem iv_dwn {tg : Expr} {p : Pos} (hg : Gl X "range") (hm : X.mg "range" = none) (ha : AR M X [a, b, c] [ca, cb, cc]) (hs : starEach [a, b, c] X.env = (false, eval a X.env) :: starEach [b, c] X.env := by rfl) (hpl : (backTo pos (starEach [b, c] X.env)).any (·.1) = false := by rfl) :
    IV M X tg (.Call (.Name "range" p) [a, b, c] [] pos) .dwn [ca, cb, cc] := by
  refine ⟨fun W tk => PI.imp (pi_range3 hg hm (ha.run W tk) hs hpl) fun σ H Rr ⟨G, as, F, s, S, h⟩ => ⟨G, as, F, s, S, ?_⟩⟩
  cases e1 : evr M.Γ [ca, cb, cc] s with
  | stk => rw [e1] at h; exact h
  | ex x p s' => rw [e1] at h; exact h
  | ok rs s1 =>
    intro as1 F1 H1 vs sf1 S1 R1
    rw [e1] at h
    simp only [PostI] at h
    have hl := evr_len _ _ _ _ _ e1
    have hsrc : srcE .dwn s1 rs = some s1 := by
      match rs, hl with
      | [x, y, z], _ => cases x <;> rfl
    rw [hsrc] at h
    split at h
    · rename_i items s2 ei es
      cases es
      obtain ⟨ds, e2, e3⟩ := bind_some ei
      have rr := S1.lookAll R1 e2
      unfold itF at e3
      split at e3
      all_goals first | (cases ‹IK.dwn = IK.seq›) | (cases ‹IK.dwn = IK.rng›) | (cases ‹IK.dwn = IK.rev›) | (cases e3; done) | skip
      rename_i i j k _
      split at e3
      · rename_i hn
        cases e3
        obtain ⟨h1, h2, rfl⟩ := hn
        cases rr with
        | cons v1 rr =>
          cases rr with
          | cons v2 rr =>
            cases rr with
            | cons v3 rr =>
              cases rr
              cases v1; cases v2; cases v3
              exact ⟨i, j, -1, (i - j).toNat, rfl, RgC.neg (by omega) (by omega) (by omega) (by omega), h as1 F1 H1 _ sf1 S1 (walkd_dwn _ _)⟩
      · cases e3
    · exact h.elim
end
end MP

set_option linter.all false
set_option maxRecDepth 100000
set_option maxHeartbeats 2000000
/-! MP: dicts whose keys are tuples: {k: v}; sorted(d); sorted({..}) of triples. -/
namespace MP
open PySem L2 PySem.Spec PyProof.Rows
theorem OutQ.dicT {K : PySem.W.Frag} {F H : Hp} {Q : VK} {p : Addr} {ks : List (List Key × V)} {ds : List D} (q : OutQ K F H (.tmp (.dic ((ks.map fun p => PyData.tuple (p.1.map kd)).zip ds))) Q) (s : Same F H) (n : H p = none) (hk : ks ≠ []) (r : RpA K F (ks.map (·.2)) ds) : Q (.ref p) (upd H p (.dT ks)) :=
  q F _ _ [p] (grow_new s n) ⟨.dT ⟨upd_same, hk⟩ r, by simp, fun b h => by
    have e : b = p := by simpa using h
    subst e
    exact ⟨s.free n, n⟩⟩
theorem units1_of {k : Nat} {A : Around} (r : Room k A) : A.units + 1 < cLine := by have := r.un; omega
theorem units3_of {k : Nat} {A : Around} (r : Room k A) : A.units + 70 < cLine := by have := r.un; omega
/-! ### {k: v}, k a tuple -/
/-- the new dict stands empty while the pair is made -/
def tDisp1 (tk tv : TE) : TE := fun σ H Q => ∀ p, H p = none → tk σ (upd H p (.dT [])) fun x H1 => tv σ H1 fun y H2 => H2 p = some (.dT []) ∧ ∃ (b : Addr) (k : List Key), x = .ref b ∧ H2 b = some (.tup (k.map kV)) ∧ Q (.ref p) (upd H2 p (.dT [(k, y)]))
theorem pe_dispT {X : Cx} {pos : Pos} {k v : Expr} {tk tv : TE} (hu : X.A.units + 1 < cLine) (hk : PE X k tk) (hv : PE X v tv) : PE X (.Dict [some k] [v] pos) (tDisp1 tk tv) := by
  refine ⟨fun pins s σ H Q I q => ?_⟩
  have hn := I.hok.fresh (Nat.le_refl s.heap.objs.size)
  have I1 := I.laid (a := s.heap.objs.size) (o := .dT []) (h' := s.heap.push { cls := .type "dict", data := .dict #[] }) (t' := s.toks) (fun _ _ q => Heap.get?_push_of_some _ q) (Nat.le_refl _) (dt_empty s.heap I.big)
  rw [arm_eval_Dict, zip_pairTrees [some k] [v] X.env pos rfl rfl, dictDisplay_pairs (pairTrees [some k] [v] X.env pos) (by simp [pairTrees]) (by simp [pairTrees])]
  have room : (tupleKind (mixKind X.prog X.w)).room X.A := show X.A.units < cLine by omega
  refine wpAny_bind (wpAny_standAt (wpAny_bind (wpAny_subDictH (knd := tupleKind (mixKind X.prog X.w)) room (by simp [pairTrees]) ?_)))
  refine pairTrees_cons_walk (thn (hk.run pins _ σ _ _ I1 (q _ hn)) fun u s1 ⟨x, H1, I1, rx, q1⟩ => thn (hv.run pins s1 σ H1 _ I1 q1) fun w2 s2 ⟨y, H2, I2, ry, q2⟩ => pairTrees_nil_walk ?_)
  obtain ⟨e, b, key, rfl, hb, q2⟩ := q2
  cases (show u = Value.ref b from rx)
  obtain ⟨z, hd, xs, r0, dd⟩ := dt_of I2.hok e
  cases r0
  refine ⟨[(key, b, w2)], ⟨rfl, rfl, key_of I2.hok hb, trivial⟩, dd, fun h' tk' dd' hs => wpAny_pure ⟨.ref s.heap.objs.size, _, ?_, rfl, q2⟩⟩
  obtain ⟨o, es, ep, ho, hc, hdt, he, his, hnd⟩ := dd'
  have ne : b ≠ s.heap.objs.size := fun z => by rw [z, e] at hb; cases hb
  refine d_write I2 (by rw [e]; exact True.intro) hs ⟨o, ho⟩ ⟨Nat.le_trans (show 1 ≤ 16777216 by decide) (Nat.le_of_eq sizeLine_eq.symm), hd, [(key, b, w2)], .cons ⟨rfl, ?_, ry⟩ .nil, o, es, ep, ho, hc, hdt, he, hnd⟩
  rw [upd_ne ne]
  exact hb
section
variable {M : Pm} {G : Gh} {W : WX} {F F' : Hp} {σ : L2.St} {Q Q' : VK} {X : Cx} {e a b c : Expr} {ca cb cc : E} {pos : Pos} {es : List Expr} {ces : List E}
theorem RRel.leave {as as' : Nat → List Addr} {s : Env} {H H' H2 : Hp} {v : V} {r : Res} {aT : List Addr} {F1 : Hp} (S : StA M.K G as F s σ H) (sH : Same H H') (R : RRel M.K (G.reg F H' s as) as' F1 σ H2 v r aT) : RRel M.K G as' F1 σ H2 v r aT := by
  cases r with
  | val d => exact R
  | bor i => exact R
  | tmp c =>
    refine ⟨R.1, R.2.1, fun p hp => ⟨(R.2.2.1 p hp).1, ?_⟩, R.2.2.2⟩
    have h0 : H' p = none := (R.2.2.1 p hp).2
    cases e : G.H0 p with
    | none => rfl
    | some o => exact absurd (Same.free sH h0) (S.dom p (by rw [e]; simp))
theorem ev_dicE (hu : X.A.units + 1 < cLine) (ha : EV M X a ca) (hb : EV M X b cb) : EV M X (.Dict [some a] [b] pos) (.dicE ca cb) := by
  refine ⟨fun W tk => PE.imp (pe_dispT hu (ha.run W tk) (hb.run W tk)) fun σ H Q ⟨G, as, F, s, S, h⟩ p hp => ?_⟩
  simp only [ev, fin_false] at h
  have sH : Same H (upd H p (.dT [])) := fun q o e => by rw [upd_ne (ne_of_none e hp)]; exact e
  have A : Alien G as F p := ⟨Same.free S.same hp, by
    cases e : G.H0 p with
    | none => rfl
    | some o => exact absurd hp (S.dom p (by rw [e]; simp)), fun i hi => S.there hi hp⟩
  refine ⟨_, as, F, s, S.enter sH (S.same.trans sH), ?_⟩
  cases e1 : ev M.Γ false ca s with
  | stk => rw [e1] at h; exact h
  | ex x q s' =>
    rw [e1] at h
    exact fun as' F' H' cls d sf S' => h as' F' H' cls d sf (S.leave sH S')
  | ok rk s1 =>
    intro as1 F1 H1 x aT sf1 S1 R1
    rw [e1] at h
    simp only [R.bind] at h
    obtain ⟨A1, hp1⟩ := S1.alien A upd_same
    have T1 := S.leave sH S1
    have h := Post.mono h sf1
    split at h
    · exact h.elim
    · rename_i hz
      have hH : Held M.K F1 σ x rk := by
        cases rk with
        | val d => exact R1.1
        | bor i => exact R1.1
        | tmp c => exact absurd rfl hz
      refine ⟨_, as1, F1, s1, T1.enter (.refl _) T1.same, ?_⟩
      cases e2 : ev M.Γ false cb s1 with
      | stk => rw [e2] at h; exact h
      | ex x q s' =>
        rw [e2] at h
        exact fun as' F' H' cls d sf S' => h as' F' H' cls d sf (T1.leave (.refl _) S')
      | ok rv s2 =>
        intro as2 F2 H2 y bT sf2 S2 R2
        rw [e2] at h
        simp only at h
        cases e3 : frz s2 rv with
        | none => rw [e3] at h; exact h.elim
        | some ds =>
          obtain ⟨d, s3⟩ := ds
          rw [e3] at h
          obtain ⟨as3, F3, sf3, S3, rp⟩ := frz_ok S2 R2 e3
          obtain ⟨A3, hp3⟩ := S3.alien A1 hp1
          have T3 := T1.leave (.refl _) S3
          have h := Post.mono h (sf2.trans sf3)
          simp only at h
          cases e4 : look s3 rk with
          | none => rw [e4] at h; exact h.elim
          | some dk =>
            rw [e4] at h
            cases e5 : keyT dk with
            | none => simp only [Option.bind_some, e5] at h; exact h.elim
            | some key =>
              obtain ⟨bb, rfl, hb, rfl⟩ := keyT_rel (T3.lookH ((hH.mono sf2).mono sf3) e4) e5
              simp only [Option.bind_some, e5, Option.map_some, R.opt] at h
              refine ⟨hp3, bb, key, rfl, hb, ?_⟩
              have T4 := T3.other (o := .dT [(key, y)]) A3
              exact h as3 F3 _ _ [p] (.refl _) T4 ⟨.dT (kvs := [(key, y)]) (ds := [d]) ⟨upd_same, by simp⟩ (.cons rp .nil), by simp, fun q hq => by
                rw [List.mem_singleton.mp hq]
                exact ⟨A3.f, A3.o⟩, fun i q hi hq => A3.a i (by rw [← List.mem_singleton.mp hq]; exact hi)⟩
end
/-! ### sorted(d), the keys tuples -/
theorem readsAll_key {h : Heap} : ∀ {k : List Key} {its : List Value}, Vals (k.map kV) its → ReadsAll h its (k.map kd) []
  | [], _, r => by
    rw [List.map_nil] at r
    cases r
    exact .nil
  | x :: k, _, r => by
    rw [List.map_cons] at r
    cases r with
    | cons r t =>
      have t' := readsAll_key (h := h) t
      rw [List.map_cons]
      cases x with
      | inl i =>
        obtain ⟨tk, rfl⟩ := r
        exact .cons (.int i tk) t'
      | inr z =>
        obtain ⟨tk, rfl⟩ := r
        exact .cons (.str z tk) t'
section
variable {X : Cx}
theorem reads_key {pins : List (Addr × Obj)} {σ : L2.St} {H : Hp} {s : Shared} {b : Addr} {k : List Key} (I : Inv X pins σ H s) (hb : H b = some (.tup (k.map kV))) : Reads s.heap (.ref b) (.tuple (k.map kd)) [] := by
  obtain ⟨its, rv, ⟨o, ho, hc, n, hd⟩, _⟩ := I.tuple (SqT.of hb)
  refine .tuple ho hc hd ?_
  rw [List.toList_toArray]
  exact readsAll_key rv
theorem each_of {R : Value → List Key × Addr → Prop} : ∀ {bs : List (List Key × Addr)}, (∀ b ∈ bs, R (Value.ref b.2) b) → PySem.W.EachIs R (bs.map fun b => Value.ref b.2) bs
  | [], _ => .nil
  | b :: bs, h => .cons (h b (by simp)) (each_of fun c hc => h c (by simp [hc]))
theorem of_each : ∀ {us : List Value} {bs : List (List Key × Addr)}, PySem.W.EachIs (fun v b => v = Value.ref b.2) us bs → us = bs.map fun b => Value.ref b.2
  | _, _, .nil => rfl
  | _, _, .cons h t => by rw [List.map_cons, h, of_each t]
def encK (b : List Key × Addr) : D := .tuple (b.1.map kd)
def rSortKD : List V → Hp → VK → Prop := fun vs H Q => ∃ (a : Addr) (kvs : List (List Key × V)) (ds : List D), vs = [.ref a] ∧ H a = some (.dT kvs) ∧ ds = (kvs.map fun p => PyData.tuple (p.1.map kd)) ∧ (ds.all fun d => SeqAt.shaped d) = true ∧ alikeB ds = true ∧ ds.all tupB = true ∧
  ∀ (L : List (List Key × Addr)) (p : Addr), (∀ q ∈ L, H q.2 = some (.tup (q.1.map kV))) → L.map encK = ds.mergeSort (PySem.W.dataLe false id) → H p = none → Q (.ref p) (upd H p (.lst (L.map fun q => V.ref q.2)))
theorem cr_sortKD (hc : X.calm = true) (hu : X.A.units + 70 < cLine) : CallR X (.builtin "sorted") rSortKD := by
  intro pins s σ H xs us Q I r q
  obtain ⟨a, kvs, ds, rfl, hd, hds, sh, al, so, q⟩ := q
  obtain ⟨u, rfl, rx⟩ := r.one
  cases rx
  obtain ⟨z, hs, ks, pr, o, es, ep, ho, hx, hdt, he, hn⟩ := (show ObjOk X.prog X.w H s.heap a (.dT kvs) from I.hok _ _ hd)
  have l1 : es.size = ks.length := size_of_entries he
  have l2 : kvs.length = ks.length := Paired.length pr
  refine Calls.call_function_entry PyProof.Rows.kind_sorted PyProof.Rows.plain_sorted PyProof.Rows.entry_sorted (PyProof.Rows.args_sorted1 _) ?_
  unfold Builtin.«sorted»
  refine wpAny_bind (m := checkCount "sorted" 1 1 _) (wpAny_pure ?_)
  refine wpAny_bind (PySem.W.kdu_collect (A := X.A.in1) (kdl_raw hs hx hdt) (I.ok.hd hc) ho (by omega) fun h' tk acc hk hacc => ?_)
  have ea : acc.toList = ks.map fun x => Value.ref x.2.1 := by
    have hl : acc.toList.length = ks.length := by rw [Array.length_toList, hacc.1]; exact l1
    apply List.ext_getElem?
    intro j
    rw [List.getElem?_map]
    cases hj : acc.toList[j]? with
    | none =>
      have h1 := List.getElem?_eq_none_iff.mp hj
      rw [List.getElem?_eq_none (by omega)]
      all_goals rfl
    | some v =>
      obtain ⟨en, hen, hv⟩ := hacc.2 j v (by rw [← Array.getElem?_toList]; exact hj)
      have qe := entry_at he j
      rw [hen] at qe
      cases hb : ks[j]? with
      | none =>
        rw [hb] at qe
        exact nomatch (show some en = none from qe)
      | some b =>
        rw [hb] at qe
        have e2 : en = entryOfKey (tupleKind (mixKind X.prog X.w)) b := Option.some.inj qe
        rw [hv, e2]
        all_goals rfl
  -- the keys, with their places
  obtain ⟨bs, hbs⟩ : ∃ bs : List (List Key × Addr), bs = ks.map fun x => (x.1, x.2.1) := ⟨_, rfl⟩
  have eb : acc.toList = bs.map fun b => Value.ref b.2 := by rw [ea, hbs, List.map_map]; rfl
  have hbk : ∀ b ∈ bs, H b.2 = some (.tup (b.1.map kV)) := by
    rw [hbs]
    intro b hb
    obtain ⟨x, hx', rfl⟩ := List.mem_map.mp hb
    have key : ∀ {l : List (List Key × V)} {m : List (List Key × Addr × Value)}, KT H l m → ∀ x ∈ m, H x.2.1 = some (.tup (x.1.map kV)) := by
      intro l m t
      induction t with
      | nil => intro x hx; cases hx
      | @cons p q ps qs hq t ih =>
        intro x hx
        rcases List.mem_cons.mp hx with rfl | hx
        · rw [← hq.1]; exact hq.2.1
        · exact ih x hx
    exact key pr x hx'
  have hde : bs.map encK = ds := by
    rw [hds, hbs, List.map_map]
    have key : ∀ {l : List (List Key × V)} {m : List (List Key × Addr × Value)}, KT H l m → m.map (encK ∘ fun x => (x.1, x.2.1)) = l.map fun p => PyData.tuple (p.1.map kd) := by
      intro l m t
      induction t with
      | nil => rfl
      | @cons p q ps qs hq t ih =>
        rw [List.map_cons, List.map_cons, ih, hq.1]
        rfl
    exact key pr
  have I1 : Inv X pins σ H { s with heap := h', toks := tk } := I.kept hk
  have hlb : bs.length = ks.length := by rw [hbs, List.length_map]
  have hal : acc.toList.length = bs.length := by rw [eb, List.length_map]
  have hL : bs.length ≤ sizeLine := by omega
  refine wpAny_bind (wpAny_newList ?_ (by rw [hal]; exact hL))
  have hoL : (h'.push (seqObj "list" acc.toList.toArray 0)).get? h'.objs.size = some (seqObj "list" acc.toList.toArray 0) := Heap.get?_push_size _ rfl
  show wpAny _ _ _ _ _ { s with heap := h'.push (seqObj "list" acc.toList.toArray 0), toks := tk }
  have hmem : ∀ b ∈ bs, encK b ∈ ds := fun b hb => by rw [← hde]; exact List.mem_map.mpr ⟨b, hb, rfl⟩
  rw [List.all_eq_true] at sh so
  have er : PySem.W.EachIs (fun v b => v = Value.ref b.2) acc.toList bs := by
    rw [eb]
    exact each_of fun b _ => rfl
  have er2 : PySem.W.EachIs (fun v b => ∃ as, Reads (h'.push (seqObj "list" acc.toList.toArray 0)) v (encK b) as ∧ h'.objs.size ∉ as) acc.toList bs := by
    rw [eb]
    exact each_of fun b hb => ⟨[], PyProof.Rows.Reads.keeps (fun _ _ e => Heap.get?_push_of_some _ e) (reads_key I1 (hbk b hb)), by simp⟩
  refine wpAny_bind (wpAny_holding (PySem.W.list_sort_data (s := { s with heap := h'.push (seqObj "list" acc.toList.toArray 0), toks := tk }) (R := fun v b => v = Value.ref b.2) (enc := encK) (bs := bs) hoL er er2 ?_ ?_ hL ?_ fun out ho eo => ?_))
  · rw [hde]
    intro d hd d' hd'
    unfold alikeB at al
    rw [List.all_eq_true] at al
    have := al d hd
    rw [List.all_eq_true] at this
    exact this d' hd'
  · rw [hde]
    refine .inl fun d hd => ?_
    have := so d hd
    unfold tupB at this
    split at this
    · exact ⟨_, _, rfl⟩
    · cases this
  · intro b hb'
    have hsh := sh (encK b) (hmem b hb')
    unfold SeqAt.shaped at hsh
    rw [Bool.and_eq_true, decide_eq_true_iff] at hsh
    have := hsh.2
    have : X.A.in1.units = X.A.units + 1 := rfl
    omega
  · have e1 := of_each eo
    have hperm := List.mergeSort_perm bs (PySem.W.dataLe false encK)
    obtain ⟨e', he'⟩ := PyProof.Rows.sortedHeap_at (vs := acc.toList) (out := out.toArray) hoL
    have hlen : ((bs.mergeSort (PySem.W.dataLe false encK)).map fun q => V.ref q.2).length ≤ sizeLine := by
      rw [List.length_map, List.length_mergeSort]
      exact hL
    have hv : Vals ((bs.mergeSort (PySem.W.dataLe false encK)).map fun q => V.ref q.2) out := by
      rw [e1]
      have : ∀ l : List (List Key × Addr), Vals (l.map fun q => V.ref q.2) (l.map fun q => Value.ref q.2) := by
        intro l
        induction l with
        | nil => exact .nil
        | cons x l ih => exact .cons rfl ih
      exact this _
    have hsort : (bs.mergeSort (PySem.W.dataLe false encK)).map encK = ds.mergeSort (PySem.W.dataLe false id) := by
      rw [PySem.W.sort_maps (r := PySem.W.dataLe false encK) (s := PySem.W.dataLe false id) encK (fun a _ b _ => rfl), hde]
    refine wpAny_pure ⟨_, rfl, .ref h'.objs.size, upd H h'.objs.size (.lst ((bs.mergeSort (PySem.W.dataLe false encK)).map fun q => V.ref q.2)), I1.laid (t' := tk) (fun b u e => ?_) (Nat.le_refl _)
      (show ObjOk X.prog X.w _ _ _ (.lst ((bs.mergeSort (PySem.W.dataLe false encK)).map fun q => V.ref q.2)) from ⟨hlen, out, e', hv, he'⟩), rfl, q _ _ (fun x hx => hbk x (hperm.mem_iff.mp hx)) hsort (I1.hok.fresh (Nat.le_refl _))⟩
    have hb : b < h'.objs.size := Heap.lt_size e
    rw [PyProof.Rows.sortedHeap_old (Nat.ne_of_lt hb) (by rw [size_push']; exact Nat.lt_succ_of_lt hb)]
    exact Heap.get?_push_of_some _ e
theorem rpa_key {K : PySem.W.Frag} {F : Hp} : ∀ k : List Key, RpA K F (k.map kV) (k.map kd)
  | [] => .nil
  | .inl i :: k => .cons (.int i) (rpa_key k)
  | .inr z :: k => .cons (.str z) (rpa_key k)
theorem grow_tups {F H : Hp} {p : Addr} {o : HO} {bs : List Addr} (s : Same F H) (n : H p = none) (hb : ∀ b ∈ bs, ∃ xs, H b = some (.tup xs)) : Grow F H (ovr F H bs) (upd H p o) where
  f := fun q o e => by
    by_cases z : q ∈ bs
    · rw [ovr_in z]; exact s q o e
    · rw [ovr_out z]; exact e
  h := fun b u e => by rw [upd_ne (ne_of_none e n)]; exact e
  s := fun b u e => by
    have := ovr_same s b u e
    rw [upd_ne (ne_of_none this n)]
    exact this
  n := fun q h => by
    by_cases z : q ∈ bs
    · obtain ⟨xs, e⟩ := hb q z
      refine .inr (.inr ⟨xs, ?_⟩)
      rw [upd_ne (ne_of_none e n)]
      exact e
    · rw [ovr_out z] at h
      exact .inl h
theorem OutQ.tups {K : PySem.W.Frag} {F H : Hp} {Q : VK} {p : Addr} {xs : List V} {ds : List D} {bs : List Addr} (q : OutQ K F H (.tmp (.lst ds)) Q) (s : Same F H) (n : H p = none) (hb : ∀ b ∈ bs, ∃ xs, H b = some (.tup xs)) (r : RpA K (ovr F H bs) xs ds) : Q (.ref p) (upd H p (.lst xs)) :=
  q _ _ _ [p] (grow_tups s n hb) ⟨.lst upd_same r, by simp, fun b h => by
    have e : b = p := by simpa using h
    subst e
    refine ⟨?_, n⟩
    rw [ovr_out fun z => by
      obtain ⟨xs, e⟩ := hb _ z
      rw [n] at e
      cases e]
    exact s.free n⟩
def rSortY (K : PySem.W.Frag) : List V → Hp → VK → Prop := fun xs H Q => ∃ F ds r, Same F H ∧ RtA K F H xs ds ∧ libF .sortK ds = some r ∧ OutQ K F H r Q
theorem kindT_K {K : PySem.W.Frag} {F : Hp} {ks : List (Key × V)} {ds : List D} (h : (ks.map fun p => kd p.1).zip ds ≠ []) : kindT ((ks.map fun p => kd p.1).zip ds) = false := by
  cases ks with
  | nil => exact absurd rfl h
  | cons p ks =>
    cases ds with
    | nil => exact absurd rfl h
    | cons d ds =>
      obtain ⟨k, v⟩ := p
      cases k <;> rfl
theorem cr_sortY (hc : X.calm = true) (hu : X.A.units + 70 < cLine) : CallR X (.builtin "sorted") (rSortY X.K) := by
  intro pins s σ H vs us Q I r h
  obtain ⟨F, ds, res, sm, tx, e, q⟩ := h
  unfold libF at e
  split at e
  all_goals first | (cases ‹Lib.sortK = Lib.lrng›) | (cases ‹Lib.sortK = Lib.index›) | (cases ‹Lib.sortK = Lib.tuple›) | (cases ‹Lib.sortK = Lib.bool›) | (cases ‹Lib.sortK = Lib.slen›) | (cases ‹Lib.sortK = Lib.ssort›) | (cases ‹Lib.sortK = Lib.slenT›) | (cases ‹Lib.sortK = Lib.sortD›) | (cases ‹Lib.sortK = Lib.ssortT›) | (cases ‹Lib.sortK = Lib.lrev›) | (cases e; done) | skip
  split at e
  · rename_i kvs _ hz
    unfold sortTF at e
    split at e
    · rename_i hcn
      cases e
      obtain ⟨v, rfl, t⟩ := tx.one
      rcases t with ⟨a, ks, ds, rfl, h, r2, rfl⟩ | ⟨a, ks, ds, rfl, h, r2, rfl⟩
      · rw [kindT_K (K := X.K) (F := F) hz.2] at hz
        cases hz.1
      · have hmap : ((ks.map fun p => PyData.tuple (p.1.map kd)).zip ds).map (·.1) = ks.map fun p => PyData.tuple (p.1.map kd) := by
          have hlen := r2.length
          rw [List.length_map] at hlen
          rw [List.map_fst_zip (by rw [List.length_map]; omega)]
        rw [hmap] at hcn q
        refine cr_sortKD hc hu pins s σ H _ us Q I r ⟨a, ks, _, rfl, h.1, rfl, hcn.1, hcn.2.1, hcn.2.2.1, fun L p hL eL hp => ?_⟩
        rw [← eL] at q
        refine q.tups (bs := L.map (·.2)) sm hp (fun b hb => ?_) ?_
        · obtain ⟨x, hx, rfl⟩ := List.mem_map.mp hb
          exact ⟨_, hL x hx⟩
        · have key : ∀ M : List (List Key × Addr), (∀ x ∈ M, x ∈ L) → RpA X.K (ovr F H (L.map (·.2))) (M.map fun q => V.ref q.2) (M.map encK) := by
            intro M
            induction M with
            | nil => intro _; exact .nil
            | cons x M ih =>
              intro hM
              refine .cons (.tup ?_ (rpa_key _)) (ih fun y hy => hM y (by simp [hy]))
              rw [ovr_in (List.mem_map.mpr ⟨x, hM x (by simp), rfl⟩)]
              exact hL x (hM x (by simp))
          exact key L fun x hx => hx
    · cases e
  · cases e
end
section
variable {M : Pm} {G : Gh} {W : WX} {F F' : Hp} {σ : L2.St} {Q Q' : VK} {X : Cx} {e a b c : Expr} {ca cb cc : E} {pos : Pos} {es : List Expr} {ces : List E}
theorem ev_sortK {p : Pos} (hc : X.calm = true) (hu : X.A.units + 70 < cLine) (hg : Gl X "sorted") (hm : X.mg "sorted" = none) (ha : AR M X [a] ces) (hK : X.K = M.K := by rfl)
    (he : starEach [a] X.env = (false, eval a X.env) :: starEach [] X.env := by rfl) (hpl : (backTo pos (starEach [] X.env)).any (·.1) = false := by rfl) : EV M X (.Call (.Name "sorted" p) [a] [] pos) (.lib .sortK ces) := by
  have key : ∀ W, L2N.Takes X W → PE X (.Call (.Name "sorted" p) [a] [] pos) (tCB (rSortY X.K) (tR M W ces)) := fun W tk =>
    pe_callB (cr_sortY hc hu) hg hm (boot_blt .sorted) (ha.run W tk) (blt_ne .sorted).1 (blt_ne .sorted).2 he hpl
  refine ⟨fun W tk => PE.imp (key W tk) fun σ H Q ⟨G, as, F, s, S, h⟩ => ⟨G, as, F, s, S, ?_⟩⟩
  have key := lib_core S h
  cases e1 : evr M.Γ ces s with
  | stk => rw [e1] at key; exact key
  | ex x p s' => rw [e1] at key; exact key
  | ok rs s1 =>
    rw [e1] at key
    intro as' F' H' vs sf S' R'
    obtain ⟨F1, ds, r, sm, rr, e2, q, hl⟩ := key as' F' H' vs sf S' R'
    rw [hK]
    exact ⟨F1, ds, r, sm, rr, e2, q⟩
/-! ### sorted({..}), triples of small ints -/
theorem code3_eq (x y z : Int) : TS.code 64 [x, y, z] = code3 [x, y, z] := by
  show x * 64 ^ 2 + (y * 64 ^ 1 + (z * 64 ^ 0 + 0)) = x * 4096 + y * 64 + z
  omega
theorem small_form {k : List Int} (h : smallT k = true) : ∃ x y z, k = [x, y, z] ∧ (0 ≤ x ∧ x < 64) ∧ (0 ≤ y ∧ y < 64) ∧ 0 ≤ z ∧ z < 64 := by
  unfold smallT at h
  rw [Bool.and_eq_true, decide_eq_true_iff] at h
  obtain ⟨hl, ha⟩ := h
  match k, hl with
  | [x, y, z], _ =>
    simp at ha
    exact ⟨x, y, z, rfl, ha.1, ha.2.1, ha.2.2⟩
theorem code3_inj {k l : List Int} (h : smallT k = true) (h' : smallT l = true) (e : code3 k = code3 l) : k = l := by
  obtain ⟨x, y, z, rfl, a1, a2, a3⟩ := small_form h
  obtain ⟨x', y', z', rfl, b1, b2, b3⟩ := small_form h'
  simp only [code3] at e
  have : x = x' := by omega
  subst this
  have : y = y' := by omega
  subst this
  have : z = z' := by omega
  subst this
  rfl
theorem sortC_of {ks ls : List (List Int)} (hp : ks.Perm ls) (hs : ls.all smallT = true) (pw : ks.Pairwise fun a b => TS.code 64 a ≤ TS.code 64 b) : ks = sortC ls := by
  rw [List.all_eq_true] at hs
  have sm : ∀ k ∈ ks, smallT k = true := fun k hk => hs k (hp.mem_iff.mp hk)
  have p1 : ks.Pairwise fun a b => decide (code3 a ≤ code3 b) = true := by
    refine List.Pairwise.imp_of_mem (fun {a b} ha hb h => ?_) pw
    obtain ⟨x, y, z, rfl, _⟩ := small_form (sm _ ha)
    obtain ⟨x', y', z', rfl, _⟩ := small_form (sm _ hb)
    rw [code3_eq, code3_eq] at h
    exact decide_eq_true h
  have p2 : (sortC ls).Pairwise fun a b => decide (code3 a ≤ code3 b) = true := List.pairwise_mergeSort (fun a b c h1 h2 => by simp at h1 h2 ⊢; omega) (fun a b => by simp; omega) _
  have pm : ks.Perm (sortC ls) := hp.trans (List.mergeSort_perm _ _).symm
  refine List.Perm.eq_of_pairwise (le := fun a b => decide (code3 a ≤ code3 b) = true) (fun a b ha hb h1 h2 => ?_) p1 p2 pm
  exact code3_inj (sm a ha) (hs b ((List.mergeSort_perm _ _).mem_iff.mp hb)) (by simp at h1 h2; omega)
section
variable {elt tg iter : Expr} {ifs : List Expr} {scope : Scope} {own : List (Str × Nat)} {k : IK} {src : List E} {t : Tg} {celt : E} {cnd : Option E} {tt : TT} {p pos2 : Pos}
theorem pe_sortT {e : Expr} {te : TE} {p pos : Pos} (hc : X.calm = true) (hg : Gl X "sorted") (hm : X.mg "sorted" = none) (he : PE X e te) (na : starEach [e] X.env = (false, eval e X.env) :: starEach [] X.env := by rfl) : PE X (.Call (.Name "sorted" p) [e] [] pos) (fun σ H Q => te σ H fun x H1 => rSortedT X.K X.prog X.w [x] H1 Q) := by
  refine ⟨fun pins s σ H Q I h => ?_⟩
  refine Call_ (ld_blt I hg hm PyProof.Rows.boot_sorted ?_)
  refine PyProof.Rows.callWith_builtin1 (PyProof.Rows.args_cons (thn (he.run pins s σ H _ I h) fun v s1 ⟨x, H1, I1, r1, q1⟩ => PyProof.Rows.args_nil ?_) na) na rfl
  exact cr_sortedT hc pins s1 σ H1 [x] [v] Q I1 (.cons r1 .nil) q1
theorem ev_ssortT (hu : X.A.units + 64 < cLine) (hc : X.calm = true) (hN : X.N.Nodup) (ok : BlkOk X.N X.env.scope scope own) (hgl : Gl X "sorted") (hm : X.mg "sorted" = none)
    (hi : IV M X tg iter k src) (hg : ∀ s H C cl fp, PG (X.blk s H scope (compEnvC scope cl C X.env) fp) tg (tgT t)) (ht : ∀ s H C cl fp, PTs (X.blk s H scope (compEnvC scope cl C X.env) fp) ifs tt) (htt : Cnd M cnd tt)
    (he : ∀ s H C cl fp, EV M (X.blk s H scope (compEnvC scope cl C X.env) fp) elt celt) (hown : ∀ i ∈ t.slots, i ∈ own.map (·.2)) (hK : X.K = M.K := by rfl) (hf : ∀ x, foldedSetIterable iter X.env x = pure x := by intro _; rfl)
    (na : starEach [.SetComp elt [⟨tg, iter, ifs, 0⟩] scope pos] X.env = (false, eval (.SetComp elt [⟨tg, iter, ifs, 0⟩] scope pos) X.env) :: starEach [] X.env := by rfl) :
    EV M X (.Call (.Name "sorted" p) [.SetComp elt [⟨tg, iter, ifs, 0⟩] scope pos] [] pos2) (.lib .ssortT [.comp celt t k src cnd (own.map (·.2))]) :=
  ⟨fun W tk => PE.imp (pe_sortT hc hgl hm (pe_sca (ho0 := fun Dn => SetTO X.prog X.w Dn []) (rA := rAddT X.K X.prog X.w) hc hN (hi.run W tk) ok hoT_new (fun s H ce fp => mt_addT (X := X.blk s H scope ce fp) hu) hg ht (fun s H C cl fp => (he s H C cl fp).run W0 takesN0) hf) na) fun σ H Q ⟨G, as, F, s, S, h⟩ => by
    refine scomp_coreR (M := M) (okA := okT) (RS := RST X.prog X.w) rst_mono (fun F Dn => rst_zero F Dn) (fun Dn acc accD l dd y F H ho Q a1 a2 a3 a4 a5 a6 a7 => by rw [hK]; exact rst_add Dn acc accD l dd y F H ho Q a1 a2 a3 a4 a5 a6 a7) (fun _ _ _ _ _ h e => by obtain ⟨L, e2, _⟩ := h; rw [e2] at e; cases e) hown htt (fun _ q => q) S (set_postR (fun r s' e => comp_form e) h fun acc r e => ?_)
    unfold libF at e
    dsimp only at e
    split at e
    · rename_i hh
      cases e
      refine ⟨hh.1, fun F' H' D ho hD hR sm q => ?_⟩
      obtain ⟨L, rfl, hL, nd, hm⟩ := hR
      have pm : (L.map (·.2)).Perm (dst (tupsL acc)) := (List.perm_ext_iff_of_nodup nd (dst_nodup _)).mpr fun x => by rw [hm x, dst_mem]
      have hsm : ∀ k ∈ L.map (·.2), smallT k = true := fun k hk => List.all_eq_true.mp hh.2 k (pm.mem_iff.mp hk)
      refine ⟨D, L, 3, 64, rfl, hD, fun p hp => .of (sm _ _ (hL p hp)), by decide, fun p hp => ?_, fun L' p pm' nd' h64 pw hp => ?_⟩
      · obtain ⟨x, y, z, e, b1, b2, b3⟩ := small_form (hsm p.2 (List.mem_map.mpr ⟨p, hp, rfl⟩))
        rw [e]
        refine ⟨rfl, fun m hm => ?_⟩
        simp at hm
        rcases hm with rfl | rfl | rfl <;> assumption
      · have ek : L'.map (·.2) = sortC (dst (tupsL acc)) := sortC_of ((pm'.map _).trans pm) hh.2 (List.pairwise_map.mpr pw)
        have hL' : ∀ x ∈ L', F' x.1 = some (.tup (x.2.map V.int)) := fun x hx => hL x (pm'.mem_iff.mp hx)
        have er : (sortC (dst (tupsL acc))).map (fun k => PyData.tuple (k.map PyData.int)) = L'.map fun x => PyData.tuple (x.2.map PyData.int) := by rw [← ek, List.map_map]; rfl
        rw [er] at q
        refine q.list sm hp ?_
        have key : ∀ N : List (Addr × List Int), (∀ x ∈ N, F' x.1 = some (.tup (x.2.map V.int))) → RpA M.K F' (N.map fun q => V.ref q.1) (N.map fun x => PyData.tuple (x.2.map PyData.int)) := by
          intro N
          induction N with
          | nil => intro _; exact .nil
          | cons x N ih => intro h; exact .cons (.tup (h x (by simp)) (.of_ints _)) (ih fun y hy => h y (by simp [hy]))
        exact key L' hL'
    · cases e⟩
end
end
end MP

set_option linter.all false
set_option maxRecDepth 100000
set_option maxHeartbeats 2000000
/-! MP: runs of defs in plain Lean; the helpers that all laws share. -/
namespace MP
open PySem
section
variable {T : Nat → Option Fn} {wf : Nat} {sub : Nat → Nat → Bool} {n j : Nat}
/-- the defs at depth n -/
abbrev Gm (T : Nat → Option Fn) (wf : Nat) (sub : Nat → Nat → Bool) (n : Nat) : Cfg := ⟨fun j => ((T j).map fun (g : Fn) => g.pms).getD [], run T wf sub n, wf, sub⟩
theorem run_eq {f : Fn} {cs : List Cell} (hT : T j = some f) (hl : cs.length = f.pms.length) : run T wf sub (n + 1) j cs = endF f (exs (Gm T wf sub n) f.body (entry f cs)) := by
  show (match (T j : Option Fn) with | none => RC.stk | some f => if cs.length = f.pms.length then endF f (exs (Gm T wf sub n) f.body (entry f cs)) else .stk) = _
  rw [hT]
  exact if_pos hl
theorem pms_eq {f : Fn} (hT : T j = some f) : (Gm T wf sub n).pms j = f.pms := by
  show ((T j).map fun (g : Fn) => g.pms).getD [] = _
  rw [hT]
  rfl
/-! ### == on data -/
theorem eqF_int (a b : Int) : eqF (.int a) (.int b) = some (decide (a = b)) := by
  have e : PyData.eqv (.int a) (.int b) = decide (a = b) := by unfold PyData.eqv; exact Bool.beq_eq_decide_eq a b
  have h1 : SeqAt.shaped (.int a) = true := rfl
  have h2 : SeqAt.shaped (.int b) = true := rfl
  unfold eqF
  rw [if_pos ⟨h1, h2⟩, e]
theorem eqF_bool (a b : Bool) : eqF (.bool a) (.bool b) = some (decide (a = b)) := by
  have e : PyData.eqv (.bool a) (.bool b) = decide (a = b) := by unfold PyData.eqv; cases a <;> cases b <;> rfl
  have h1 : SeqAt.shaped (.bool a) = true := rfl
  have h2 : SeqAt.shaped (.bool b) = true := rfl
  unfold eqF
  rw [if_pos ⟨h1, h2⟩, e]
/-! ### _law_draw -/
def cDraw : List S := [.ite (.cmp .gt (.idx (.var 0) (.cst (.int 2))) (.cst (.int 0))) [.asg 2 (.bin .mod (.blt .int [(.idx (.var 0) (.cst (.int 2)))]) (.var 1)), .asgI 0 (.cst (.int 2)) (.bin .fdiv (.idx (.var 0) (.cst (.int 2))) (.var 1)), .ret (.var 2)] [], .ite (.andE (.cmp .eq (.bin .mod (.blt .int [(.idx (.var 0) (.cst (.int 4)))]) (.cst (.int 8))) (.cst (.int 0))) (.cmp .lt (.idx (.var 0) (.cst (.int 1))) (.blt .len [(.idx (.var 0) (.cst (.int 0)))]))) [.asg 3 (.blt .abs [(.idx (.idx (.var 0) (.cst (.int 0))) (.idx (.var 0) (.cst (.int 1))))]), .asgI 0 (.cst (.int 1)) (.bin .add (.idx (.var 0) (.cst (.int 1))) (.cst (.int 1))), .ite (.cmp .ge (.var 3) (.bin .pow (.cst (.int 10)) (.cst (.int 18)))) [.asgI 0 (.cst (.int 2)) (.bin .fdiv (.var 3) (.var 1)), .ret (.bin .mod (.blt .int [(.var 3)]) (.var 1))] [], .asgI 0 (.cst (.int 3)) (.var 3)] [], .asgI 0 (.cst (.int 4)) (.bin .add (.idx (.var 0) (.cst (.int 4))) (.cst (.int 1))), .asg 4 (.bin .mod (.blt .int [(.bin .add (.bin .add (.bin .mul (.idx (.var 0) (.cst (.int 3))) (.cst (.int 48271))) (.bin .mul (.idx (.var 0) (.cst (.int 4))) (.cst (.int 69621)))) (.cst (.int 7919)))]) (.cst (.int 2147483647))), .asg 4 (.bin .mod (.blt .int [(.bin .add (.bin .mul (.var 4) (.var 4)) (.bin .mul (.idx (.var 0) (.cst (.int 4))) (.cst (.int 40692))))]) (.cst (.int 2147483399))), .ret (.bin .mod (.blt .int [(.var 4)]) (.var 1))]
def fDraw : Fn := ⟨[.i, .v], 5, cDraw⟩
def pool (ns : List Int) (a b c d : Int) : List D := [.list (ns.map .int), .int a, .int b, .int c, .int d]
def PoolOk (ps : List D) : Prop := ∃ ns a b c d, ps = pool ns a b c d ∧ 0 ≤ a
theorem mul1 {a b : Int} (h : b.natAbs < 2 ^ 64) : mulOk a b = true := by
  unfold mulOk
  rw [decide_eq_true h]
  simp
theorem divOk1 {b : Int} (h : 0 < b) (h2 : b < 2 ^ 60) : divOk b = true := by
  unfold divOk
  have : b.natAbs < 2 ^ 60 := by omega
  have h3 : b.natAbs < 2 ^ 8000 := Nat.lt_of_lt_of_le this (Nat.pow_le_pow_right (by decide) (by decide))
  rw [decide_eq_true h, decide_eq_true h3]
  rfl
theorem draw_first {ns : List Int} {a b c d m : Int} (hT : T j = some fDraw) (hm : 0 < m) (hm2 : m < 2 ^ 60) (hb : 0 < b) :
    run T wf sub (n + 1) j [.lst (pool ns a b c d), .val (.int m)] = .ok (.val (.int (b % m))) (some (.lst (pool ns a (b / m) c d))) := by
  rw [run_eq hT rfl]
  simp [fDraw, cDraw, entry, argEnv, pool, exs, ex1, ev, evs, evr, evo, fin, truthR, R.bind, R.thenX, R.opt, X.seq, hold, look, lookAll, Cell.d?, idxF, L2.atI, L2.ixN, cmpF, eqF, boolR, truthF, bltF, binF, asgF, frz, retF, resOf, endF, outAt, inAt, hb, hm, divOk1 hm hm2]
def mixF (c d : Int) : Int := (((c * 48271 + d * 69621 + 7919) % 2147483647) * ((c * 48271 + d * 69621 + 7919) % 2147483647) + d * 40692) % 2147483399
theorem draw_late {ns : List Int} {a b c d m : Int} (hT : T j = some fDraw) (hm : 0 < m) (hm2 : m < 2 ^ 60) (hb : ¬ 0 < b) (ha : 0 ≤ a) (h : ¬ (d % 8 = 0 ∧ a < ns.length)) :
    run T wf sub (n + 1) j [.lst (pool ns a b c d), .val (.int m)] = .ok (.val (.int (mixF c (d + 1) % m))) (some (.lst (pool ns a b c (d + 1)))) := by
  have m1 : ∀ x : Int, mulOk x 48271 = true := fun x => mul1 (by decide)
  have m2 : ∀ x : Int, mulOk x 69621 = true := fun x => mul1 (by decide)
  have m3 : ∀ x : Int, mulOk x 40692 = true := fun x => mul1 (by decide)
  have m4 : ∀ x : Int, mulOk (x % 2147483647) (x % 2147483647) = true := fun x => mul1 (by have := Int.emod_lt_of_pos x (show (0 : Int) < 2147483647 by decide); have := Int.emod_nonneg x (show (2147483647 : Int) ≠ 0 by decide); omega)
  rw [run_eq hT rfl]
  by_cases h8 : d % 8 = 0
  · have ha2 : ¬ a < ns.length := fun z => h ⟨h8, z⟩
    simp [fDraw, cDraw, entry, argEnv, pool, mixF, exs, ex1, ev, evs, evr, evo, fin, truthR, R.bind, R.thenX, R.opt, X.seq, hold, look, lookAll, Cell.d?, idxF, L2.atI, L2.ixN, cmpF, eqF_int, boolR, truthF, bltF, binF, asgF, frz, retF, resOf, endF, outAt, inAt, hb, hm, h8, ha2, m1, m2, m3, m4]
  · simp [fDraw, cDraw, entry, argEnv, pool, mixF, exs, ex1, ev, evs, evr, evo, fin, truthR, R.bind, R.thenX, R.opt, X.seq, hold, look, lookAll, Cell.d?, idxF, L2.atI, L2.ixN, cmpF, eqF_int, boolR, truthF, bltF, binF, asgF, frz, retF, resOf, endF, outAt, inAt, hb, hm, h8, m1, m2, m3, m4]
theorem draw_big {ns : List Int} {a b c d m : Int} (hT : T j = some fDraw) (hm : 0 < m) (hm2 : m < 2 ^ 60) (hb : ¬ 0 < b) (ha : 0 ≤ a) (h8 : d % 8 = 0) (hl : a < ns.length) (hl2 : a.toNat < ns.length) (hbig : (1000000000000000000 : Int) ≤ if ns[a.toNat] < 0 then -ns[a.toNat] else ns[a.toNat]) :
    run T wf sub (n + 1) j [.lst (pool ns a b c d), .val (.int m)] = .ok (.val (.int ((if ns[a.toNat] < 0 then -ns[a.toNat] else ns[a.toNat]) % m))) (some (.lst (pool ns (a + 1) ((if ns[a.toNat] < 0 then -ns[a.toNat] else ns[a.toNat]) / m) c d))) := by
  rw [run_eq hT rfl]
  simp [fDraw, cDraw, entry, argEnv, pool, exs, ex1, ev, evs, evr, evo, fin, truthR, R.bind, R.thenX, R.opt, X.seq, hold, look, lookAll, Cell.d?, idxF, L2.atI, L2.ixN, cmpF, eqF_int, boolR, truthF, bltF, binF, asgF, frz, retF, resOf, endF, outAt, inAt, hb, hm, divOk1 hm hm2, h8, hl, ha, hl2, hbig]
theorem draw_small {ns : List Int} {a b c d m : Int} (hT : T j = some fDraw) (hm : 0 < m) (hm2 : m < 2 ^ 60) (hb : ¬ 0 < b) (ha : 0 ≤ a) (h8 : d % 8 = 0) (hl : a < ns.length) (hl2 : a.toNat < ns.length) (hbig : ¬ (1000000000000000000 : Int) ≤ if ns[a.toNat] < 0 then -ns[a.toNat] else ns[a.toNat]) :
    run T wf sub (n + 1) j [.lst (pool ns a b c d), .val (.int m)] = .ok (.val (.int (mixF (if ns[a.toNat] < 0 then -ns[a.toNat] else ns[a.toNat]) (d + 1) % m))) (some (.lst (pool ns (a + 1) b (if ns[a.toNat] < 0 then -ns[a.toNat] else ns[a.toNat]) (d + 1)))) := by
  have m1 : ∀ x : Int, mulOk x 48271 = true := fun x => mul1 (by decide)
  have m2 : ∀ x : Int, mulOk x 69621 = true := fun x => mul1 (by decide)
  have m3 : ∀ x : Int, mulOk x 40692 = true := fun x => mul1 (by decide)
  have m4 : ∀ x : Int, mulOk (x % 2147483647) (x % 2147483647) = true := fun x => mul1 (by have := Int.emod_lt_of_pos x (show (0 : Int) < 2147483647 by decide); have := Int.emod_nonneg x (show (2147483647 : Int) ≠ 0 by decide); omega)
  rw [run_eq hT rfl]
  simp [fDraw, cDraw, entry, argEnv, pool, mixF, exs, ex1, ev, evs, evr, evo, fin, truthR, R.bind, R.thenX, R.opt, X.seq, hold, look, lookAll, Cell.d?, idxF, L2.atI, L2.ixN, cmpF, eqF_int, boolR, truthF, bltF, binF, asgF, frz, retF, resOf, endF, outAt, inAt, hb, hm, h8, hl, ha, hl2, hbig, m1, m2, m3, m4]
/-- what a draw gives -/
theorem draw_ok {ps : List D} {m : Int} (hT : T j = some fDraw) (hm : 0 < m) (hm2 : m < 2 ^ 60) (hp : PoolOk ps) : ∃ r ps', run T wf sub (n + 1) j [.lst ps, .val (.int m)] = .ok (.val (.int r)) (some (.lst ps')) ∧ 0 ≤ r ∧ r < m ∧ PoolOk ps' := by
  obtain ⟨ns, a, b, c, d, rfl, ha⟩ := hp
  have g : ∀ x : Int, 0 ≤ x % m ∧ x % m < m := fun x => ⟨Int.emod_nonneg x (by omega), Int.emod_lt_of_pos x hm⟩
  by_cases hb : 0 < b
  · exact ⟨_, _, draw_first hT hm hm2 hb, (g _).1, (g _).2, _, _, _, _, _, rfl, ha⟩
  · by_cases h : d % 8 = 0 ∧ a < ns.length
    · obtain ⟨h8, hl⟩ := h
      have hl2 : a.toNat < ns.length := by omega
      by_cases hbig : (1000000000000000000 : Int) ≤ if ns[a.toNat] < 0 then -ns[a.toNat] else ns[a.toNat]
      · exact ⟨_, _, draw_big hT hm hm2 hb ha h8 hl hl2 hbig, (g _).1, (g _).2, _, _, _, _, _, rfl, by omega⟩
      · exact ⟨_, _, draw_small hT hm hm2 hb ha h8 hl hl2 hbig, (g _).1, (g _).2, _, _, _, _, _, rfl, by omega⟩
    · exact ⟨_, _, draw_late hT hm hm2 hb ha h, (g _).1, (g _).2, _, _, _, _, _, rfl, ha⟩
end
end MP

set_option linter.all false
set_option maxRecDepth 100000
set_option maxHeartbeats 2000000
/-! MP: loops by invariant; pool, pick, same, numbers. -/
namespace MP
open PySem
/-! ### loops -/
theorem loopX_ex {body : Env → X} {t : Tg} : ∀ {items : List D} {s : Env} (P : Nat → Env → Prop), P 0 s →
    (∀ k (h : k < items.length) s, P k s → freeI s t.slots = true ∧ ∃ s1, bindT t items[k] s = some s1 ∧ ∃ s2, body s1 = .nx s2 ∧ P (k + 1) s2) → ∃ s', loopX body t items s = .nx s' ∧ P items.length s'
  | [], s, P, h0, _ => ⟨s, rfl, h0⟩
  | d :: ds, s, P, h0, hs => by
    obtain ⟨hf, s1, e1, s2, e2, h2⟩ := hs 0 (by simp) s h0
    obtain ⟨s', e, h⟩ := loopX_ex (body := body) (t := t) (items := ds) (s := s2) (fun k => P (k + 1)) h2 fun k hk s p => hs (k + 1) (by simpa using hk) s p
    refine ⟨s', ?_, by simpa using h⟩
    unfold loopX
    rw [if_pos hf]
    have e1' : bindT t d s = some s1 := e1
    rw [e1']
    simp only [e2, X.seq]
    exact e
def pushO (acc : List D) (o : Option D) : List D := match o with
  | some y => acc ++ [y]
  | none => acc
theorem compLoop_ex {body : Env → R (Option D)} {t : Tg} : ∀ {items acc : List D} {s : Env} (P : Nat → List D → Env → Prop), P 0 acc s →
    (∀ k (h : k < items.length) acc s, P k acc s → ∃ s1, bindT t items[k] s = some s1 ∧ ∃ o s2, body s1 = .ok o s2 ∧ P (k + 1) (pushO acc o) s2) → ∃ acc' s', compLoop body t items acc s = .ok acc' s' ∧ P items.length acc' s'
  | [], acc, s, P, h0, _ => ⟨acc, s, rfl, h0⟩
  | d :: ds, acc, s, P, h0, hs => by
    obtain ⟨s1, e1, o, s2, e2, h2⟩ := hs 0 (by simp) acc s h0
    obtain ⟨acc', s', e, h⟩ := compLoop_ex (body := body) (t := t) (items := ds) (acc := pushO acc o) (s := s2) (fun k => P (k + 1)) h2 fun k hk a s p => hs (k + 1) (by simpa using hk) a s p
    refine ⟨acc', s', ?_, by simpa using h⟩
    unfold compLoop
    have e1' : bindT t d s = some s1 := e1
    rw [e1']
    simp only [e2, R.bind]
    exact e
/-- a comprehension that leaves the frame alone -/
theorem compLoop_map {body : Env → R (Option D)} {i : Nat} {s : Env} (g : D → Option D) (hi : s[i]? = some none) : ∀ {items acc : List D}, (∀ d ∈ items, body (s.set i (some (.fr, .val d))) = .ok (g d) s) → compLoop body (.name i) items acc s = .ok (acc ++ items.filterMap g) s
  | [], acc, _ => by simp [compLoop]
  | d :: ds, acc, h => by
    unfold compLoop
    simp only [bindT, h d (by simp), R.bind]
    rw [compLoop_map g hi fun d hd => h d (List.mem_cons_of_mem _ hd)]
    cases e : g d with
    | none => simp [List.filterMap_cons, e]
    | some y => simp [List.filterMap_cons, e]
section
variable {T : Nat → Option Fn} {wf : Nat} {sub : Nat → Nat → Bool} {n j : Nat}
/-! ### _law_pool, _law_pick -/
def fPool : Fn := ⟨[.v], 1, [.ret (.list [(.blt .list [(.var 0)]), (.cst (.int 0)), (.cst (.int 0)), (.cst (.int 0)), (.cst (.int 0))])]⟩
theorem pool_ok {ns : List Int} (hT : T j = some fPool) : run T wf sub (n + 1) j [.val (.list (ns.map .int))] = .ok (.lst (pool ns 0 0 0 0)) none := by
  rw [run_eq hT rfl]
  simp [fPool, entry, argEnv, pool, exs, ex1, ev, evs, evr, fin, R.bind, R.thenX, R.opt, X.seq, hold, look, lookAll, Cell.d?, bltF, frz, retF, endF, outAt, inAt]
theorem poolOk0 (ns : List Int) : PoolOk (pool ns 0 0 0 0) := ⟨ns, 0, 0, 0, 0, rfl, Int.le_refl _⟩
def fPick (jd : Nat) : Fn := ⟨[.i, .v], 2, [.ret (.idx (.var 1) (.call jd [(.var 0), (.blt .len [(.var 1)])] []))]⟩
theorem pick_ok {jd : Nat} {ps rows : List D} (hT : T j = some (fPick jd)) (hD : T jd = some fDraw) (hr : rows ≠ []) (hl : rows.length < 2 ^ 60) (hp : PoolOk ps) :
    ∃ (i : Nat) (hi : i < rows.length) (ps' : List D), run T wf sub (n + 2) j [.lst ps, .val (.list rows)] = .ok (.val rows[i]) (some (.lst ps')) ∧ PoolOk ps' := by
  have h0 : 0 < rows.length := List.length_pos_iff.mpr hr
  obtain ⟨r, ps', e, r0, r1, ok⟩ := draw_ok (n := n) (wf := wf) (sub := sub) (m := (rows.length : Int)) hD (by omega) (by omega) hp
  have hi : r.toNat < rows.length := by omega
  refine ⟨r.toNat, hi, ps', ?_, ok⟩
  rw [run_eq hT rfl]
  have pm : (Gm T wf sub (n + 1)).pms jd = [.i, .v] := pms_eq hD
  simp [fPick, entry, argEnv, exs, ex1, ev, evs, evr, fin, R.bind, R.thenX, R.opt, X.seq, hold, look, lookAll, Cell.d?, bltF, frz, retF, endF, outAt, inAt, hD, fDraw, argCells, backIO, resOf, idxF, L2.atI, L2.ixN, e, r0, r1, hi]
/-! ### numbers -/
def numF (d : D) (a b : Int) : Bool := match d with
  | .int i => decide (a ≤ i) && decide (i ≤ b)
  | _ => false
def fNum : Fn := ⟨[.v, .v, .v], 3, [.ite (.orE (.isi (.var 0) [.bool]) (.notE (.isi (.var 0) [.int]))) [.ret (.cst (.bool false))] [], .ret (.cmp2 .le .le (.var 1) (.var 0) (.var 2))]⟩
theorem num_ok {d : D} {a b : Int} (hT : T j = some fNum) : run T wf sub (n + 1) j [.val d, .val (.int a), .val (.int b)] = .ok (.val (.bool (numF d a b))) none := by
  rw [run_eq hT rfl]
  cases d
  case int i =>
    by_cases h : a ≤ i
    · simp [fNum, numF, entry, argEnv, exs, ex1, ev, fin, truthR, R.bind, R.thenX, R.opt, X.seq, hold, look, Cell.d?, truthF, boolR, isTy, cmpF, retF, endF, outAt, inAt, h]
    · simp [fNum, numF, entry, argEnv, exs, ex1, ev, fin, truthR, R.bind, R.thenX, R.opt, X.seq, hold, look, Cell.d?, truthF, boolR, isTy, cmpF, retF, endF, outAt, inAt, h]
  all_goals simp [fNum, numF, entry, argEnv, exs, ex1, ev, fin, truthR, R.bind, R.thenX, R.opt, X.seq, hold, look, Cell.d?, truthF, boolR, isTy, cmpF, retF, endF, outAt, inAt]
def msgE : E := .bin .add (.bin .add (.bin .add (.cst (.str "no number from ")) (.blt .str [(.var 1)])) (.cst (.str " to "))) (.blt .str [(.var 2)])
def fChk (jn x : Nat) : Fn := ⟨[.v, .v, .v], 3, [.ite (.notE (.call jn [(.var 0), (.var 1), (.var 2)] [])) [.raise x msgE] [], .ret (.var 0)]⟩
def msgOk (a b : Int) : Bool := decide (a.natAbs < 2 ^ 1900) && decide (b.natAbs < 2 ^ 1900) && decide ((("no number from " : Str)).length + (Str.ofString a.repr).length ≤ big) && decide ((("no number from " : Str) ++ (Str.ofString a.repr)).length + (" to " : Str).length ≤ big) && decide (((("no number from " : Str) ++ (Str.ofString a.repr)) ++ (" to " : Str)).length + (Str.ofString b.repr).length ≤ big)
theorem chk_ok {jn x : Nat} {d : D} {a b : Int} (hT : T j = some (fChk jn x)) (hN : T jn = some fNum) (hm : msgOk a b = true) :
    run T wf sub (n + 2) j [.val d, .val (.int a), .val (.int b)] = if numF d a b = true then .ok (.val d) none else .ex x .none none := by
  rw [run_eq hT rfl]
  have e := num_ok (n := n) (wf := wf) (sub := sub) (d := d) (a := a) (b := b) hN
  unfold msgOk at hm
  simp only [Bool.and_eq_true, decide_eq_true_eq] at hm
  obtain ⟨⟨⟨⟨h1, h2⟩, h3⟩, h4⟩, h5⟩ := hm
  by_cases h : numF d a b = true
  · simp [fChk, entry, argEnv, exs, ex1, ev, evr, fin, truthR, R.bind, R.thenX, R.opt, X.seq, hold, look, lookAll, Cell.d?, truthF, boolR, retF, endF, outAt, inAt, hN, fNum, argCells, backIO, resOf, frz, e, h]
  · simp only [Bool.not_eq_true] at h
    simp [fChk, msgE, entry, argEnv, exs, ex1, ev, evr, fin, truthR, R.bind, R.thenX, R.opt, X.seq, hold, look, lookAll, Cell.d?, truthF, boolR, retF, endF, outAt, inAt, hN, fNum, argCells, backIO, resOf, frz, e, h, bltF, binF, h1, h2, h3, h4, h5]
end
end MP

set_option linter.all false
set_option maxRecDepth 100000
set_option maxHeartbeats 2000000
/-! MP: _law_same on two alike. -/
namespace MP
open PySem
mutual
theorem eqv_refl : ∀ d : D, d.canLay0 = true → PyData.eqv d d = true
  | .none, _ => rfl
  | .bool b, _ => by unfold PyData.eqv; simp
  | .int i, _ => by unfold PyData.eqv; simp
  | .str s, _ => by unfold PyData.eqv; simp
  | .list xs, h => by
    unfold PyData.eqv
    exact eqvAll_refl xs (by simpa [PyData.canLay0] using h)
  | .tuple xs, h => by
    unfold PyData.eqv
    exact eqvAll_refl xs (by simpa [PyData.canLay0] using h)
  | .dict _, h => by simp [PyData.canLay0] at h
theorem eqvAll_refl : ∀ ds : List D, PyData.canLayAll0 ds = true → PyData.eqvAll ds ds = true
  | [], _ => by unfold PyData.eqvAll; rfl
  | d :: ds, h => by
    have h' : d.canLay0 = true ∧ PyData.canLayAll0 ds = true := by simpa [PyData.canLayAll0] using h
    unfold PyData.eqvAll
    rw [eqv_refl d h'.1, eqvAll_refl ds h'.2]
    rfl
end
theorem eqF_refl {d : D} (h : SeqAt.shaped d = true) : eqF d d = some true := by
  have h2 : d.canLay0 = true := by
    unfold SeqAt.shaped at h
    simp only [Bool.and_eq_true] at h
    exact h.1
  unfold eqF
  rw [if_pos ⟨h, h⟩, eqv_refl d h2]
theorem eqF_none : eqF .none .none = some true := eqF_refl rfl
theorem canLay_mem : ∀ {ds : List D} {d : D}, PyData.canLayAll0 ds = true → d ∈ ds → d.canLay0 = true
  | x :: xs, d, h, hd => by
    have h' : x.canLay0 = true ∧ PyData.canLayAll0 xs = true := by simpa [PyData.canLayAll0] using h
    rcases List.mem_cons.mp hd with rfl | hd
    · exact h'.1
    · exact canLay_mem h'.2 hd
theorem depth_mem : ∀ {ds : List D} {d : D}, d ∈ ds → d.depth ≤ PyData.depthAll ds
  | x :: xs, d, hd => by
    have e : PyData.depthAll (x :: xs) = max x.depth (PyData.depthAll xs) := by simp only [PyData.depthAll]
    rcases List.mem_cons.mp hd with rfl | hd
    · omega
    · have := depth_mem hd
      omega
theorem shaped_mem {ds : List D} {d : D} (hs : SeqAt.shaped (.list ds) = true ∨ SeqAt.shaped (.tuple ds) = true) (hd : d ∈ ds) : SeqAt.shaped d = true ∧ d.depth ≤ PyData.depthAll ds := by
  have key : PyData.canLayAll0 ds = true ∧ PyData.depthAll ds + 1 ≤ 64 := by
    rcases hs with h | h
    all_goals
      unfold SeqAt.shaped at h
      simpa [PyData.canLay0, PyData.depth] using h
  have h2 := depth_mem hd
  refine ⟨?_, h2⟩
  unfold SeqAt.shaped
  rw [canLay_mem key.1 hd, decide_eq_true (show d.depth ≤ 64 by omega)]
  rfl
def sameB (j : Nat) : List S := [.ite (.notE (.call j [(.idx (.var 0) (.var 2)), (.idx (.var 1) (.var 2))] [])) [.ret (.cst (.bool false))] []]
def fSame (j : Nat) : Fn := ⟨[.v, .v], 3, [.ite (.isN (.var 1) false) [.ret (.isN (.var 0) false)] [], .ite (.isi (.var 1) [.tuple, .list]) [.ite (.orE (.cmp .ne (.isi (.var 1) [.tuple]) (.isi (.var 0) [.tuple])) (.cmp .ne (.isi (.var 1) [.list]) (.isi (.var 0) [.list]))) [.ret (.cst (.bool false))] [], .ite (.cmp .ne (.blt .len [(.var 0)]) (.blt .len [(.var 1)])) [.ret (.cst (.bool false))] [], .for_ (.name 2) .rng [(.blt .len [(.var 1)])] (sameB j), .ret (.cst (.bool true))] [], .ite (.isi (.var 1) [.bool]) [.ret (.andE (.isi (.var 0) [.bool]) (.cmp .eq (.var 0) (.var 1)))] [], .ite (.isi (.var 1) [.int]) [.ret (.andE (.isi (.var 0) [.int]) (.andE (.notE (.isi (.var 0) [.bool])) (.cmp .eq (.var 0) (.var 1))))] [], .ret (.andE (.isi (.var 0) [.str]) (.cmp .eq (.var 0) (.var 1)))]⟩
/-- not too long a list, all through -/
def sizeD : Nat → D → Prop
  | 0, _ => True
  | n + 1, .list ds => ds.length < 2 ^ 30 ∧ ∀ d ∈ ds, sizeD n d
  | n + 1, .tuple ds => ds.length < 2 ^ 30 ∧ ∀ d ∈ ds, sizeD n d
  | _ + 1, _ => True
section
variable {T : Nat → Option Fn} {wf : Nat} {sub : Nat → Nat → Bool} {j : Nat}
theorem same_loop {n : Nat} {ds : List D} {D0 : D} (hT : T j = some (fSame j)) (h0 : ∀ i : Nat, (h : i < ds.length) → idxF D0 (.int i) = some ds[i]) (hk : ∀ d ∈ ds, run T wf sub n j [.val d, .val d] = .ok (.val (.bool true)) none) :
    ∃ s', loopX (fun se => exs (Gm T wf sub n) (sameB j) se) (.name 2) ((List.range ds.length).map fun (k : Nat) => PyData.int k) [some (.fr, .val D0), some (.fr, .val D0), none] = .nx s' ∧ ∃ o, s' = [some (.fr, .val D0), some (.fr, .val D0), o] ∧ (o = none ∨ ∃ d, o = some (.fr, .val d)) := by
  refine loopX_ex (fun _ s' => ∃ o, s' = [some (.fr, .val D0), some (.fr, .val D0), o] ∧ (o = none ∨ ∃ d, o = some (.fr, .val d))) ⟨none, rfl, .inl rfl⟩ ?_ |>.imp fun s' h => ⟨h.1, h.2⟩
  rintro k hk' s ⟨o, rfl, ho⟩
  have hk2 : k < ds.length := by simpa using hk'
  have pm : (Gm T wf sub n).pms j = [.v, .v] := pms_eq hT
  have fr : freeI [some (Mode.fr, Cell.val D0), some (Mode.fr, Cell.val D0), o] (Tg.name 2).slots = true := by
    rcases ho with rfl | ⟨d, rfl⟩ <;> rfl
  refine ⟨fr, _, rfl, [some (.fr, .val D0), some (.fr, .val D0), some (.fr, .val (.int k))], ?_, _, rfl, .inr ⟨_, rfl⟩⟩
  have e := hk ds[k] (List.getElem_mem hk2)
  have e0 := h0 k hk2
  simp [sameB, exs, ex1, ev, evr, fin, truthR, R.bind, R.thenX, R.opt, X.seq, hold, look, lookAll, Cell.d?, truthF, boolR, hT, fSame, argCells, backIO, resOf, frz, e, e0]
theorem idx_list {ds : List D} {i : Nat} (h : i < ds.length) : idxF (.list ds) (.int i) = some ds[i] := by
  simp [idxF, L2.atI, L2.ixN, h]
theorem idx_tup {ds : List D} {i : Nat} (h : i < ds.length) : idxF (.tuple ds) (.int i) = some ds[i] := by
  simp [idxF, L2.atI, L2.ixN, h]
theorem itF_len {m : Nat} (h : m < 1073741824) : itF .rng [.int (m : Int)] = some ((List.range m).map fun (k : Nat) => .int k) := by
  show (if (m : Int).natAbs < 1073741824 then some ((List.range (m : Int).toNat).map fun (k : Nat) => PyData.int k) else none) = _
  rw [if_pos (by omega)]
  rfl
theorem same_flat {n : Nat} {d : D} (hT : T j = some (fSame j)) (h : (∃ i, d = .int i) ∨ d = .none ∨ (∃ b, d = .bool b)) : run T wf sub (n + 1) j [.val d, .val d] = .ok (.val (.bool true)) none := by
  rw [run_eq hT rfl]
  rcases h with ⟨i, rfl⟩ | rfl | ⟨b, rfl⟩
  all_goals simp [fSame, entry, argEnv, exs, ex1, ev, evr, fin, truthR, R.bind, R.thenX, R.opt, hold, look, lookAll, Cell.d?, truthF, boolR, isTy, isNone, cmpF, eqF_bool, eqF_int, bltF, srcE, X.seq, retF, endF, outAt, inAt]
theorem same_str {n : Nat} {x : Str} (hT : T j = some (fSame j)) (hs : SeqAt.shaped (.str x) = true) : run T wf sub (n + 1) j [.val (.str x), .val (.str x)] = .ok (.val (.bool true)) none := by
  rw [run_eq hT rfl]
  have e := eqF_refl hs
  simp [fSame, entry, argEnv, exs, ex1, ev, evr, fin, truthR, R.bind, R.thenX, R.opt, hold, look, lookAll, Cell.d?, truthF, boolR, isTy, isNone, cmpF, eqF_bool, eqF_int, bltF, srcE, X.seq, retF, endF, outAt, inAt, e]
theorem same_list {n : Nat} {ds : List D} (hT : T j = some (fSame j)) (hz : ds.length < 1073741824) (hk : ∀ d ∈ ds, run T wf sub n j [.val d, .val d] = .ok (.val (.bool true)) none) : run T wf sub (n + 1) j [.val (.list ds), .val (.list ds)] = .ok (.val (.bool true)) none := by
  obtain ⟨s', e, o, rfl, _⟩ := same_loop (wf := wf) (sub := sub) (n := n) (D0 := .list ds) hT (fun i h => idx_list h) hk
  rw [run_eq hT rfl]
  simp [fSame, entry, argEnv, exs, ex1, ev, evr, fin, truthR, R.bind, R.thenX, R.opt, hold, look, lookAll, Cell.d?, truthF, boolR, isTy, isNone, cmpF, eqF_bool, eqF_int, bltF, srcE, X.seq, retF, endF, outAt, inAt, itF_len hz, e]
theorem same_tup {n : Nat} {ds : List D} (hT : T j = some (fSame j)) (hz : ds.length < 1073741824) (hk : ∀ d ∈ ds, run T wf sub n j [.val d, .val d] = .ok (.val (.bool true)) none) : run T wf sub (n + 1) j [.val (.tuple ds), .val (.tuple ds)] = .ok (.val (.bool true)) none := by
  obtain ⟨s', e, o, rfl, _⟩ := same_loop (wf := wf) (sub := sub) (n := n) (D0 := .tuple ds) hT (fun i h => idx_tup h) hk
  rw [run_eq hT rfl]
  simp [fSame, entry, argEnv, exs, ex1, ev, evr, fin, truthR, R.bind, R.thenX, R.opt, hold, look, lookAll, Cell.d?, truthF, boolR, isTy, isNone, cmpF, eqF_bool, eqF_int, bltF, srcE, X.seq, retF, endF, outAt, inAt, itF_len hz, e]
end
end MP

set_option linter.all false
set_option maxRecDepth 100000
set_option maxHeartbeats 2000000
/-! MP: loops as folds, while by a measure, comprehensions. -/
namespace MP
open PySem
/-- a slot that may be stored into -/
def Fr (o : Option (Mode × Cell)) : Prop := o = none ∨ ∃ d, o = some (.fr, .val d)
theorem Fr.no : Fr none := .inl rfl
theorem Fr.v (d : D) : Fr (some (.fr, .val d)) := .inr ⟨d, rfl⟩
theorem loopX_fold {body : Env → X} {i : Nat} {α β : Type} (enc : α → D) (st : β → Option (Mode × Cell) → Env) (step : β → α → β) (I : β → Prop) (Pa : α → Prop)
    (hfree : ∀ x o, Fr o → freeI (st x o) [i] = true) (hset : ∀ x o d, (st x o).set i (some (.fr, .val d)) = st x (some (.fr, .val d)))
    (hbody : ∀ x a, I x → Pa a → body (st x (some (.fr, .val (enc a)))) = .nx (st (step x a) (some (.fr, .val (enc a)))) ∧ I (step x a)) :
    ∀ (items : List α) (x : β) (o : Option (Mode × Cell)), Fr o → I x → (∀ a ∈ items, Pa a) → ∃ o', Fr o' ∧ loopX body (.name i) (items.map enc) (st x o) = .nx (st (items.foldl step x) o') ∧ I (items.foldl step x)
  | [], x, o, ho, hx, _ => ⟨o, ho, rfl, hx⟩
  | a :: r, x, o, ho, hx, hp => by
    obtain ⟨e, hx'⟩ := hbody x a hx (hp a (by simp))
    obtain ⟨o', h1, h2, h3⟩ := loopX_fold enc st step I Pa hfree hset hbody r (step x a) _ (.v (enc a)) hx' fun b hb => hp b (by simp [hb])
    refine ⟨o', h1, ?_, h3⟩
    rw [List.map_cons]
    unfold loopX
    rw [if_pos (show freeI (st x o) (Tg.name i).slots = true from hfree x o ho)]
    simp only [bindT, hset, e, X.seq]
    exact h2
theorem while_ex {test : Env → R Res} {body : Env → X} {β : Type} (st : β → Env) (I : β → Prop) (c : β → Bool) (μ : β → Nat) (htest : ∀ x, I x → test (st x) = .ok (.val (.bool (c x))) (st x))
    (hbody : ∀ x, I x → c x = true → ∃ y, body (st x) = .nx (st y) ∧ I y ∧ μ y < μ x) : ∀ (fuel : Nat) (x : β), I x → μ x < fuel → ∃ y, whileX test body fuel (st x) = .nx (st y) ∧ I y ∧ c y = false
  | 0, x, _, h => by omega
  | f + 1, x, hx, hm => by
    unfold whileX
    simp only [htest x hx, R.thenX, boolR]
    cases hc : c x with
    | false => exact ⟨x, rfl, hx, hc⟩
    | true =>
      obtain ⟨y, e, hy, hl⟩ := hbody x hx hc
      obtain ⟨z, e2, hz, hcz⟩ := while_ex st I c μ htest hbody f y hy (by omega)
      exact ⟨z, by simp only [e, X.seq]; exact e2, hz, hcz⟩
/-- for, the source known -/
theorem for_nx {Γ : Cfg} {t : Tg} {k : IK} {src : List E} {b : List S} {s s1 s2 s3 : Env} {rs : List Res} {ds items : List D} (h1 : evr Γ src s = .ok rs s1) (h2 : lookAll s1 rs = some ds) (h3 : itF k ds = some items) (h4 : srcE k s1 rs = some s2) (h5 : loopX (fun se => exs Γ b se) t items s2 = .nx s3) :
    ex1 Γ (.for_ t k src b) s = .nx s3 := by
  have e : (lookAll s1 rs).bind (itF k) = some items := by rw [h2]; exact h3
  simp only [ex1, h1, R.thenX, e, h4, h5]
theorem whl_nx {Γ : Cfg} {c : E} {b : List S} {s s' : Env} (h : whileX (fun se => ev Γ true c se) (fun se => exs Γ b se) Γ.wf s = .nx s') : ex1 Γ (.whl c b) s = .nx s' := by
  simp only [ex1, h]
/-- a comprehension over data, its element and test by functions -/
theorem comp_ok2 {Γ : Cfg} {elt : E} {i : Nat} {k : IK} {src : List E} {cnd : Option E} {s s1 s2 : Env} {rs : List Res} {ds items : List D} (g : D → Option D) (h1 : evr Γ src s = .ok rs s1) (h2 : lookAll s1 rs = some ds) (h3 : itF k ds = some items) (h4 : srcE k s1 rs = some s2) (hi : s2[i]? = some none ∨ ∃ d, s2[i]? = some (some (.fr, .val d))) (hl : items.length ≤ big)
    (hb : ∀ d ∈ items, compBody Γ elt cnd [i] ((s2.set i none).set i (some (.fr, .val d))) = .ok (g d) (s2.set i none)) : ev Γ false (.comp elt (.name i) k src cnd [i]) s = .ok (.tmp (.lst (items.filterMap g))) s2 := by
  have e : (lookAll s1 rs).bind (itF k) = some items := by rw [h2]; exact h3
  have pl : plainE s2 [i] = true := by rcases hi with hi | ⟨d, hi⟩ <;> simp [plainE, hi]
  have li : i < s2.length := by rcases hi with hi | ⟨d, hi⟩ <;> exact (List.getElem?_eq_some_iff.mp hi).1
  have we : wipeE s2 [i] = s2.set i none := rfl
  have re : restE s2 (s2.set i none) [i] = s2 := by
    show (s2.set i none).set i (s2[i]?.join) = s2
    apply List.ext_getElem?
    intro j
    by_cases z : i = j
    · subst z
      rw [List.getElem?_set_self (by rw [List.length_set]; exact li)]
      rcases hi with hi | ⟨d, hi⟩ <;> rw [hi] <;> rfl
    · rw [List.getElem?_set_ne z, List.getElem?_set_ne z]
  have lp := compLoop_map (body := compBody Γ elt cnd [i]) g (s := s2.set i none) (i := i) (by rw [List.getElem?_set_self li]) (items := items) (acc := []) hb
  have hh : ev Γ false (.comp elt (.name i) k src cnd [i]) s = (evr Γ src s).bind fun rs s1 => match (lookAll s1 rs).bind (itF k) with
    | none => .stk
    | some items => match srcE k s1 rs with
      | none => .stk
      | some s2 => if plainE s2 [i] = false ∨ big < items.length then .stk else match compLoop (compBody Γ elt cnd [i]) (.name i) items [] (wipeE s2 [i]) with
        | .ok acc s3 => .ok (.tmp (.lst acc)) (restE s2 s3 [i])
        | _ => .stk := by
    simp only [ev, fin_false]
    rfl
  rw [hh, h1]
  simp only [R.bind, e, h4, pl, we, Bool.true_eq_false, false_or, if_neg (Nat.not_lt.mpr hl), lp, re, List.nil_append]
theorem comp_ok {Γ : Cfg} {elt : E} {i : Nat} {k : IK} {src : List E} {cnd : Option E} {s s1 s2 : Env} {rs : List Res} {ds items : List D} (g : D → Option D) (h1 : evr Γ src s = .ok rs s1) (h2 : lookAll s1 rs = some ds) (h3 : itF k ds = some items) (h4 : srcE k s1 rs = some s2) (hi : s2[i]? = some none) (hl : items.length ≤ big)
    (hb : ∀ d ∈ items, compBody Γ elt cnd [i] (s2.set i (some (.fr, .val d))) = .ok (g d) s2) : ev Γ false (.comp elt (.name i) k src cnd [i]) s = .ok (.tmp (.lst (items.filterMap g))) s2 := by
  have e0 : s2.set i none = s2 := by
    apply List.ext_getElem?
    intro j
    by_cases z : i = j
    · subst z
      rw [List.getElem?_set_self (List.getElem?_eq_some_iff.mp hi).1, hi]
    · rw [List.getElem?_set_ne z]
  exact comp_ok2 g h1 h2 h3 h4 (.inl hi) hl (by rw [e0]; exact hb)
/-- a slot of the frame's own -/
def FrC (o : Option (Mode × Cell)) : Prop := o = none ∨ ∃ c, o = some (.fr, c)
theorem FrC.no : FrC none := .inl rfl
theorem FrC.c (c : Cell) : FrC (some (.fr, c)) := .inr ⟨c, rfl⟩
theorem Fr.c {o : Option (Mode × Cell)} (h : Fr o) : FrC o := h.imp id fun ⟨d, e⟩ => ⟨_, e⟩
theorem asg_val {Γ : Cfg} {e : E} {i : Nat} {s s1 : Env} {d : D} {o : Option (Mode × Cell)} (h : ev Γ false e s = .ok (.val d) s1) (hi : s1[i]? = some o) (ho : FrC o) : ex1 Γ (.asg i e) s = .nx (s1.set i (some (.fr, .val d))) := by
  rcases ho with rfl | ⟨c, rfl⟩ <;> simp [ex1, h, R.thenX, asgF, hi]
theorem asg_tmp {Γ : Cfg} {e : E} {i : Nat} {s s1 : Env} {c : Cell} {o : Option (Mode × Cell)} (h : ev Γ false e s = .ok (.tmp c) s1) (hi : s1[i]? = some o) (ho : FrC o) : ex1 Γ (.asg i e) s = .nx (s1.set i (some (.fr, c))) := by
  rcases ho with rfl | ⟨c, rfl⟩ <;> simp [ex1, h, R.thenX, asgF, hi]
theorem exs_nx {Γ : Cfg} {c : S} {r : List S} {s s1 : Env} (h : ex1 Γ c s = .nx s1) : exs Γ (c :: r) s = exs Γ r s1 := by simp only [exs, h, X.seq]
theorem exs_ret {Γ : Cfg} {c : S} {r : List S} {s s1 : Env} {v : Cell} (h : ex1 Γ c s = .ret v s1) : exs Γ (c :: r) s = .ret v s1 := by simp only [exs, h, X.seq]
theorem ite_no {Γ : Cfg} {c : E} {a : List S} {s s1 : Env} (h : ev Γ true c s = .ok (.val (.bool false)) s1) : ex1 Γ (.ite c a []) s = .nx s1 := by simp only [ex1, h, R.thenX, boolR, exs]
theorem expr_nx {Γ : Cfg} {e : E} {r : Res} {s s1 : Env} (h : ev Γ false e s = .ok r s1) : ex1 Γ (.expr e) s = .nx s1 := by simp only [ex1, h, R.thenX]
theorem shaped_ints (l : List Int) : SeqAt.shaped (.list (l.map .int)) = true := by
  have h : ∀ l : List Int, PyData.canLayAll0 (l.map PyData.int) = true ∧ PyData.depthAll (l.map PyData.int) = 0 := fun l => by
    induction l with
    | nil => exact ⟨rfl, rfl⟩
    | cons x r ih => exact ⟨by simp [PyData.canLayAll0, PyData.canLay0, ih.1], by simp [PyData.depthAll, PyData.depth, ih.2]⟩
  unfold SeqAt.shaped
  simp [PyData.canLay0, PyData.depth, (h l).1, (h l).2]
theorem eqF_ints (l : List Int) : eqF (.list (l.map .int)) (.list (l.map .int)) = some true := eqF_refl (shaped_ints l)
theorem same_ints {T : Nat → Option Fn} {wf : Nat} {sub : Nat → Nat → Bool} {j n : Nat} {l : List Int} (hT : T j = some (fSame j)) (hl : l.length < 1073741824) : run T wf sub (n + 2) j [.val (.list (l.map .int)), .val (.list (l.map .int))] = .ok (.val (.bool true)) none :=
  same_list hT (by rw [List.length_map]; exact hl) fun d hd => by
    obtain ⟨i, _, rfl⟩ := List.mem_map.mp hd
    exact same_flat hT (.inl ⟨i, rfl⟩)
theorem loopX_step {body : Env → X} {t : Tg} {d : D} {ds : List D} {s s1 s2 : Env} (hf : freeI s t.slots = true) (hb : bindT t d s = some s1) (h : body s1 = .nx s2) : loopX body t (d :: ds) s = loopX body t ds s2 := by
  conv => lhs; unfold loopX
  rw [if_pos hf, hb]
  simp only [h, X.seq]
theorem loopX_exc {body : Env → X} {t : Tg} {d p : D} {ds : List D} {x : Nat} {s s1 s2 : Env} (hf : freeI s t.slots = true) (hb : bindT t d s = some s1) (h : body s1 = .ex x p s2) : loopX body t (d :: ds) s = .ex x p s2 := by
  conv => lhs; unfold loopX
  rw [if_pos hf, hb]
  simp only [h, X.seq]
/-- a comprehension by an invariant -/
theorem comp_ex {Γ : Cfg} {elt : E} {i : Nat} {k : IK} {src : List E} {cnd : Option E} {s s1 s2 : Env} {rs : List Res} {ds items : List D} (P : Nat → List D → Env → Prop) (h1 : evr Γ src s = .ok rs s1) (h2 : lookAll s1 rs = some ds) (h3 : itF k ds = some items) (h4 : srcE k s1 rs = some s2) (hi : s2[i]? = some none) (hl : items.length ≤ big)
    (h0 : P 0 [] s2) (hn : ∀ k acc s, P k acc s → s[i]? = some none) (hs : ∀ k (h : k < items.length) acc s, P k acc s → ∃ o s', compBody Γ elt cnd [i] (s.set i (some (.fr, .val items[k]))) = .ok o s' ∧ P (k + 1) (pushO acc o) s') :
    ∃ acc s', ev Γ false (.comp elt (.name i) k src cnd [i]) s = .ok (.tmp (.lst acc)) s' ∧ P items.length acc s' := by
  have e : (lookAll s1 rs).bind (itF k) = some items := by rw [h2]; exact h3
  have e0 : ∀ s : Env, s[i]? = some none → s.set i none = s := fun s h => by
    apply List.ext_getElem?
    intro j
    by_cases z : i = j
    · subst z
      rw [List.getElem?_set_self (List.getElem?_eq_some_iff.mp h).1, h]
    · rw [List.getElem?_set_ne z]
  have pl : plainE s2 [i] = true := by simp [plainE, hi]
  have we : wipeE s2 [i] = s2 := e0 s2 hi
  obtain ⟨acc, s', lp, p⟩ := compLoop_ex (body := compBody Γ elt cnd [i]) (t := .name i) (items := items) (acc := []) (s := s2) P h0 fun k hk acc s p => by
    obtain ⟨o, s', e1, e2⟩ := hs k hk acc s p
    exact ⟨_, rfl, o, s', e1, e2⟩
  have re : restE s2 s' [i] = s' := by
    show s'.set i (s2[i]?.join) = s'
    rw [hi]
    exact e0 s' (hn _ _ _ p)
  refine ⟨acc, s', ?_, p⟩
  have hh : ev Γ false (.comp elt (.name i) k src cnd [i]) s = (evr Γ src s).bind fun rs s1 => match (lookAll s1 rs).bind (itF k) with
    | none => .stk
    | some items => match srcE k s1 rs with
      | none => .stk
      | some s2 => if plainE s2 [i] = false ∨ big < items.length then .stk else match compLoop (compBody Γ elt cnd [i]) (.name i) items [] (wipeE s2 [i]) with
        | .ok acc s3 => .ok (.tmp (.lst acc)) (restE s2 s3 [i])
        | _ => .stk := by
    simp only [ev, fin_false]
    rfl
  rw [hh, h1]
  simp only [R.bind, e, h4, pl, we, Bool.true_eq_false, false_or, if_neg (Nat.not_lt.mpr hl), lp, re]
end MP

set_option linter.all false
set_option maxRecDepth 100000
set_option maxHeartbeats 2000000
/-! MP: the evaluator, form by form. -/
namespace MP
open PySem
section
variable {Γ : Cfg} {s s1 s2 s3 : Env} {a b c : E} {x y d : D} {r r1 : Res} {es : List E} {j : Nat}
theorem evC {t : Bool} {k : Bool} : ev Γ t (.cst (.bool k)) s = .ok (.val (.bool k)) s := by cases t <;> simp [ev, fin, truthR, R.bind, look, truthF, R.opt]
theorem evCst : ev Γ false (.cst d) s = .ok (.val d) s := by rw [ev, fin_false]
theorem evB {op : BOp} (h1 : ev Γ false a s = .ok (.val x) s1) (h2 : ev Γ false b s1 = .ok (.val y) s2) (h : binF op x y = some r) : ev Γ false (.bin op a b) s = .ok r s2 := by
  rw [ev, fin_false, h1]
  simp only [R.bind, hold]
  rw [h2]
  simp only [look, Option.bind, h, R.opt]
theorem evCmp {op : COp} {t k : Bool} (h1 : ev Γ false a s = .ok (.val x) s1) (h2 : ev Γ false b s1 = .ok (.val y) s2) (h : cmpF op x y = some k) : ev Γ t (.cmp op a b) s = .ok (.val (.bool k)) s2 := by
  rw [ev, h1]
  simp only [R.bind, hold]
  rw [h2]
  simp only [look, Option.bind, h, R.opt, Option.map]
theorem evCmpR {op : COp} {t k : Bool} {ra rb : Res} (h1 : ev Γ false a s = .ok ra s1) (hh : hold ra = some r1) (h2 : ev Γ false b s1 = .ok rb s2) (l1 : look s2 r1 = some x) (l2 : look s2 rb = some y) (h : cmpF op x y = some k) : ev Γ t (.cmp op a b) s = .ok (.val (.bool k)) s2 := by
  rw [ev, h1]
  simp only [R.bind, hh]
  rw [h2]
  simp only [l1, l2, Option.bind, h, R.opt, Option.map]
theorem evBlt1 {f : Blt} {ra : Res} (h1 : ev Γ false a s = .ok ra s1) (hh : hold ra = some r1) (l1 : look s1 r1 = some x) (h : bltF f [x] = some r) : ev Γ false (.blt f [a]) s = .ok r s1 := by
  rw [ev, fin_false]
  simp only [evr, h1, R.bind, hh, lookAll, l1, Option.bind, Option.map, h, R.opt]
theorem evNot {k : Bool} (h : ev Γ true a s = .ok (.val (.bool k)) s1) : ev Γ true (.notE a) s = .ok (.val (.bool !k)) s1 := by
  rw [ev]
  simp only [if_true, h, R.bind, boolR]
theorem evOr {t : Bool} {q : R Res} (h : ev Γ t a s = .ok (.val (.bool false)) s1) (h2 : ev Γ t b s1 = q) : ev Γ t (.orE a b) s = q := by
  rw [ev, h]
  simp only [R.bind, boolR, h2]
theorem evOrT {t : Bool} (h : ev Γ t a s = .ok (.val (.bool true)) s1) : ev Γ t (.orE a b) s = .ok (.val (.bool true)) s1 := by
  rw [ev, h]
  simp only [R.bind, boolR]
theorem evAnd {t : Bool} {q : R Res} (h : ev Γ t a s = .ok (.val (.bool true)) s1) (h2 : ev Γ t b s1 = q) : ev Γ t (.andE a b) s = q := by
  rw [ev, h]
  simp only [R.bind, boolR, h2]
theorem evAndF {t : Bool} (h : ev Γ t a s = .ok (.val (.bool false)) s1) : ev Γ t (.andE a b) s = .ok (.val (.bool false)) s1 := by
  rw [ev, h]
  simp only [R.bind, boolR]
theorem evCall {ds : List D} {rs : List Res} {cs : List Cell} {v : Cell} (h1 : evr Γ es s = .ok rs s1) (h2 : argCells s1 (Γ.pms j) (rs ++ ds.map .val) = some (cs, none, s2)) (h3 : Γ.run j cs = .ok v none) : ev Γ false (.call j es ds) s = .ok (resOf v) s2 := by
  rw [ev, fin_false, h1]
  simp only [R.bind, h2, h3, backIO]
theorem evCallT {ds : List D} {rs : List Res} {cs : List Cell} {k : Bool} (h1 : evr Γ es s = .ok rs s1) (h2 : argCells s1 (Γ.pms j) (rs ++ ds.map .val) = some (cs, none, s2)) (h3 : Γ.run j cs = .ok (.val (.bool k)) none) : ev Γ true (.call j es ds) s = .ok (.val (.bool k)) s2 := by
  rw [ev, h1]
  simp only [R.bind, h2, h3, backIO]
  rfl
theorem evr0 : evr Γ [] s = .ok [] s := by rw [evr]
theorem evr1 {rs : List Res} (h : ev Γ false a s = .ok r s1) (hh : hold r = some r1) (h2 : evr Γ es s1 = .ok rs s2) : evr Γ (a :: es) s = .ok (r1 :: rs) s2 := by
  rw [evr, h]
  simp only [R.bind, hh, h2]
theorem ifN {A : List S} (h : ev Γ true c s = .ok (.val (.bool false)) s1) : ex1 Γ (.ite c A []) s = .nx s1 := ite_no h
theorem retV (h : ev Γ false a s = .ok (.val d) s1) : ex1 Γ (.ret a) s = .ret (.val d) s1 := by
  rw [ex1, h]
  simp only [R.thenX, retF]
theorem retT {v : Cell} (h : ev Γ false a s = .ok (.tmp v) s1) : ex1 Γ (.ret a) s = .ret v s1 := by
  rw [ex1, h]
  simp only [R.thenX, retF]
end
end MP

set_option linter.all false
set_option maxRecDepth 100000
set_option maxHeartbeats 2000000
/-! MP: comprehensions that leave the frame alone. -/
namespace MP
open PySem
section
variable {Γ : Cfg} {s s1 s2 s3 : Env} {elt c : E} {i : Nat} {k : IK} {src : List E} {rs : List Res} {ds items : List D} {α : Type}
theorem slot_free {o : Option (Mode × Cell)} (hi : s[i]? = some o) (ho : Fr o) : s[i]? = some none ∨ ∃ d, s[i]? = some (some (.fr, .val d)) := by
  rcases ho with rfl | ⟨d, rfl⟩
  · exact .inl hi
  · exact .inr ⟨d, hi⟩
theorem body_set (hl : i < s.length) (d : D) : freeI (s.set i (some (.fr, .val d))) [i] = true ∧ wipeE (s.set i (some (.fr, .val d))) [i] = s.set i none := by
  refine ⟨by simp [freeI, hl], ?_⟩
  show (s.set i (some (.fr, .val d))).set i none = _
  rw [List.set_set]
/-- [elt for i in ..] -/
theorem compM {o : Option (Mode × Cell)} (enc : α → D) (f : α → D) (xs : List α) (h1 : evr Γ src s = .ok rs s1) (h2 : lookAll s1 rs = some ds) (h3 : itF k ds = some (xs.map enc)) (h4 : srcE k s1 rs = some s2) (hi : s2[i]? = some o) (ho : Fr o) (hl : xs.length ≤ big)
    (hb : ∀ x, x ∈ xs → ev Γ false elt (s2.set i (some (.fr, .val (enc x)))) = .ok (.val (f x)) (s2.set i (some (.fr, .val (enc x))))) :
    ev Γ false (.comp elt (.name i) k src none [i]) s = .ok (.tmp (.lst (xs.map f))) s2 := by
  have ln : i < s2.length := (List.getElem?_eq_some_iff.mp hi).1
  have hlp : (xs.map enc).length ≤ big := by rw [List.length_map]; exact hl
  by_cases hx : ∃ g : D → Option D, ∀ x, x ∈ xs → g (enc x) = some (f x)
  · obtain ⟨g, hg⟩ := hx
    have e : xs.map f = (xs.map enc).filterMap g := by
      rw [List.filterMap_map]
      clear h3 hb hl hlp
      induction xs with
      | nil => rfl
      | cons x r ih =>
        rw [List.map_cons, List.filterMap_cons, Function.comp, hg x (by simp)]
        dsimp only
        rw [ih fun y hy => hg y (by simp [hy])]
    rw [e]
    refine comp_ok2 g h1 h2 h3 h4 (slot_free hi ho) hlp fun d hd => ?_
    obtain ⟨x, hx, rfl⟩ := List.mem_map.mp hd
    rw [List.set_set, hg x hx]
    have := body_set (s := s2) ln (enc x)
    simp only [compBody, hb x hx, R.bind, keepR, frz, this.1, if_true, this.2]
  · exfalso
    refine hx ⟨fun d => match ev Γ false elt (s2.set i (some (.fr, .val d))) with
      | .ok (.val v) _ => some v
      | _ => none, fun x hx => ?_⟩
    dsimp only
    rw [hb x hx]
/-- [elt for i in .. if c] -/
theorem compF {o : Option (Mode × Cell)} (enc : α → D) (p : α → Bool) (f : α → D) (xs : List α) (h1 : evr Γ src s = .ok rs s1) (h2 : lookAll s1 rs = some ds) (h3 : itF k ds = some (xs.map enc)) (h4 : srcE k s1 rs = some s2) (hi : s2[i]? = some o) (ho : Fr o) (hl : xs.length ≤ big)
    (hc : ∀ x, x ∈ xs → ev Γ true c (s2.set i (some (.fr, .val (enc x)))) = .ok (.val (.bool (p x))) (s2.set i (some (.fr, .val (enc x)))))
    (hb : ∀ x, x ∈ xs → p x = true → ev Γ false elt (s2.set i (some (.fr, .val (enc x)))) = .ok (.val (f x)) (s2.set i (some (.fr, .val (enc x))))) :
    ev Γ false (.comp elt (.name i) k src (some c) [i]) s = .ok (.tmp (.lst ((xs.filter p).map f))) s2 := by
  have ln : i < s2.length := (List.getElem?_eq_some_iff.mp hi).1
  have hlp : (xs.map enc).length ≤ big := by rw [List.length_map]; exact hl
  have hx : ∃ g : D → Option D, ∀ x, x ∈ xs → g (enc x) = if p x = true then some (f x) else none := by
    refine ⟨fun d => match ev Γ true c (s2.set i (some (.fr, .val d))) with
      | .ok (.val (.bool true)) _ => (match ev Γ false elt (s2.set i (some (.fr, .val d))) with
        | .ok (.val v) _ => some v
        | _ => none)
      | _ => none, fun x hx => ?_⟩
    dsimp only
    rw [hc x hx]
    cases e : p x with
    | true => simp only [hb x hx e, if_true]
    | false => simp
  obtain ⟨g, hg⟩ := hx
  have e : (xs.filter p).map f = (xs.map enc).filterMap g := by
    rw [List.filterMap_map]
    clear h3 hb hc hl hlp
    induction xs with
    | nil => rfl
    | cons x r ih =>
      rw [List.filterMap_cons, Function.comp, hg x (by simp), List.filter_cons]
      cases p x with
      | true => simp only [if_true, List.map_cons]; rw [ih fun y hy => hg y (by simp [hy])]
      | false => simp only [Bool.false_eq_true, if_false]; rw [ih fun y hy => hg y (by simp [hy])]
  rw [e]
  refine comp_ok2 g h1 h2 h3 h4 (slot_free hi ho) hlp fun d hd => ?_
  obtain ⟨x, hx, rfl⟩ := List.mem_map.mp hd
  rw [List.set_set, hg x hx]
  have bs := body_set (s := s2) ln (enc x)
  cases e : p x with
  | true => simp only [compBody, hc x hx, e, R.bind, boolR, hb x hx e, keepR, frz, bs.1, if_true, bs.2]
  | false => simp only [compBody, hc x hx, e, R.bind, boolR, bs.1, if_true, bs.2, Bool.false_eq_true, if_false]
theorem itR {m : Nat} (h : m < 1073741824) : itF .rng [.int (m : Int)] = some ((List.range m).map fun (k : Nat) => PyData.int k) := itF_len h
theorem idxI {b : List Int} {j : Nat} {x : Int} (h : b[j]? = some x) : idxF (.list (b.map .int)) (.int (j : Int)) = some (.int x) := by
  have hl : j < b.length := (List.getElem?_eq_some_iff.mp h).1
  have : b[j] = x := by rw [List.getElem?_eq_getElem hl] at h; exact Option.some.inj h
  simp [idxF, L2.atI, L2.ixN, hl, this]
theorem intsI : ∀ b : List Int, intsF (b.map PyData.int) = some b
  | [] => rfl
  | x :: r => by simp [intsF, intsI r]
theorem loopX_ret {body : Env → X} {t : Tg} {d : D} {ds : List D} {s s1 s2 : Env} {v : Cell} (hf : freeI s t.slots = true) (hb : bindT t d s = some s1) (h : body s1 = .ret v s2) : loopX body t (d :: ds) s = .ret v s2 := by
  conv => lhs; unfold loopX
  rw [if_pos hf, hb]
  simp only [h, X.seq]
/-- for, whatever its end -/
theorem for_any {t : Tg} {b : List S} {x : X} (h1 : evr Γ src s = .ok rs s1) (h2 : lookAll s1 rs = some ds) (h3 : itF k ds = some items) (h4 : srcE k s1 rs = some s2) (h5 : loopX (fun se => exs Γ b se) t items s2 = x) :
    ex1 Γ (.for_ t k src b) s = x := by
  have e : (lookAll s1 rs).bind (itF k) = some items := by rw [h2]; exact h3
  simp only [ex1, h1, R.thenX, e, h4, h5]
end
end MP

set_option linter.all false
set_option maxRecDepth 100000
set_option maxHeartbeats 400000
/-! MP: lists of ints compared; loops that end at the first that hits. -/
namespace MP
open PySem
theorem eqvL : ∀ a b : List Int, PyData.eqvAll (a.map .int) (b.map .int) = decide (a = b)
  | [], [] => by simp [PyData.eqvAll]
  | [], _ :: _ => by simp [PyData.eqvAll]
  | _ :: _, [] => by simp [PyData.eqvAll]
  | x :: a, y :: b => by
    have e : PyData.eqv (.int x) (.int y) = decide (x = y) := by unfold PyData.eqv; exact Bool.beq_eq_decide_eq x y
    simp only [List.map_cons, PyData.eqvAll, e, eqvL a b, List.cons.injEq, Bool.decide_and]
theorem eqF_list (a b : List Int) : eqF (.list (a.map .int)) (.list (b.map .int)) = some (decide (a = b)) := by
  have e : PyData.eqv (.list (a.map .int)) (.list (b.map .int)) = decide (a = b) := by
    unfold PyData.eqv
    exact eqvL a b
  unfold eqF
  rw [if_pos ⟨shaped_ints a, shaped_ints b⟩, e]
/-- a loop over numbers that may return: the first that hits -/
theorem loop_first {body : Env → X} {t : Tg} (mk : Nat → D) (St : Nat → Env → Prop) (hit : Nat → Prop) (res : Nat → Cell) (B : Nat) (hf : ∀ k s, St k s → freeI s t.slots = true)
    (hb : ∀ k s, k < B → St k s → ∃ s1, bindT t (mk k) s = some s1 ∧ ((¬ hit k ∧ ∃ s2, body s1 = .nx s2 ∧ St (k + 1) s2) ∨ (hit k ∧ ∃ s2, body s1 = .ret (res k) s2))) :
    ∀ (N a : Nat) (s : Env), a + N ≤ B → St a s → ((∀ k, a ≤ k → k < a + N → ¬ hit k) ∧ ∃ s', loopX body t ((List.range' a N).map mk) s = .nx s' ∧ St (a + N) s') ∨ (∃ k, a ≤ k ∧ k < a + N ∧ hit k ∧ (∀ k', a ≤ k' → k' < k → ¬ hit k') ∧ ∃ s', loopX body t ((List.range' a N).map mk) s = .ret (res k) s')
  | 0, a, s, _, h => .inl ⟨fun k h1 h2 => by omega, s, rfl, h⟩
  | N + 1, a, s, hB, h => by
    obtain ⟨s1, e1, h2⟩ := hb a s (by omega) h
    rw [List.range'_succ, List.map_cons]
    rcases h2 with ⟨hn, s2, e2, h3⟩ | ⟨hh, s2, e2⟩
    · rw [loopX_step (hf a s h) e1 e2]
      rcases loop_first mk St hit res B hf hb N (a + 1) s2 (by omega) h3 with ⟨q, s', e, g⟩ | ⟨k, k1, k2, k3, k4, s', e⟩
      · refine .inl ⟨fun k h1 h2 => ?_, s', e, by rw [show a + (N + 1) = a + 1 + N by omega]; exact g⟩
        by_cases z : k = a
        · rw [z]; exact hn
        · exact q k (by omega) (by omega)
      · refine .inr ⟨k, by omega, by omega, k3, fun k' h1 h2 => ?_, s', e⟩
        by_cases z : k' = a
        · rw [z]; exact hn
        · exact k4 k' (by omega) h2
    · exact .inr ⟨a, by omega, by omega, hh, fun k' h1 h2 => by omega, s2, loopX_ret (hf a s h) e1 e2⟩
theorem itRng2 {a b : Int} (ha : a.natAbs < 1073741824) (hb : b.natAbs < 1073741824) : itF .rng [.int a, .int b] = some ((List.range (b - a).toNat).map fun (k : Nat) => .int (a + k)) := by
  show (if b.natAbs < 1073741824 ∧ a.natAbs < 1073741824 then some ((List.range (b - a).toNat).map fun (k : Nat) => PyData.int (a + k)) else none) = _
  rw [if_pos ⟨hb, ha⟩]
theorem range_map' {A : Type} (f : Nat → A) (n : Nat) : (List.range n).map f = (List.range' 0 n).map f := by rw [List.range_eq_range']
end MP

set_option linter.all false
set_option maxRecDepth 100000
set_option maxHeartbeats 400000
/-! MP: two for; the first of a list that hits; a list's last. -/
namespace MP
open PySem
section
variable {Γ : Cfg} {s s1 s2 s3 : Env} {elt c : E} {i j : Nat} {k k2 : IK} {src src2 : List E} {rs rs2 : List Res} {ds ds2 : List D} {α β : Type}
theorem set_none {s : Env} {i : Nat} (h : s[i]? = some none) : s.set i none = s := by
  apply List.ext_getElem?
  intro m
  by_cases z : i = m
  · subst z
    rw [List.getElem?_set_self (List.getElem?_eq_some_iff.mp h).1, h]
  · rw [List.getElem?_set_ne z]
/-- [elt for i in .. for j in ..] -/
theorem comp2M (enc : α → D) (xs : List α) (enc2 : β → D) (ys : List β) (f : α → β → D) (h1 : evr Γ src s = .ok rs s1) (h2 : lookAll s1 rs = some ds) (h3 : itF k ds = some (xs.map enc)) (h4 : srcE k s1 rs = some s2) (hi : s2[i]? = some none) (hj : s2[j]? = some none) (hij : i ≠ j) (hl : xs.length ≤ big) (hl2 : xs.length * ys.length ≤ big)
    (g1 : ∀ x, x ∈ xs → evr Γ src2 (s2.set i (some (.fr, .val (enc x)))) = .ok rs2 (s2.set i (some (.fr, .val (enc x))))) (g2 : ∀ x, x ∈ xs → lookAll (s2.set i (some (.fr, .val (enc x)))) rs2 = some ds2) (g3 : itF k2 ds2 = some (ys.map enc2)) (g4 : ∀ x, x ∈ xs → srcE k2 (s2.set i (some (.fr, .val (enc x)))) rs2 = some (s2.set i (some (.fr, .val (enc x)))))
    (hb : ∀ x y, x ∈ xs → y ∈ ys → ∃ r, ev Γ false elt ((s2.set i (some (.fr, .val (enc x)))).set j (some (.fr, .val (enc2 y)))) = .ok r ((s2.set i (some (.fr, .val (enc x)))).set j (some (.fr, .val (enc2 y)))) ∧ frz ((s2.set i (some (.fr, .val (enc x)))).set j (some (.fr, .val (enc2 y)))) r = some (f x y, (s2.set i (some (.fr, .val (enc x)))).set j (some (.fr, .val (enc2 y))))) :
    ev Γ false (.comp2 elt (.name i) k src (.name j) k2 src2 none [i, j] [j]) s = .ok (.tmp (.lst (xs.flatMap fun x => ys.map (f x)))) s2 := by
  have li : i < s2.length := (List.getElem?_eq_some_iff.mp hi).1
  have lj : j < s2.length := (List.getElem?_eq_some_iff.mp hj).1
  have e : (lookAll s1 rs).bind (itF k) = some (xs.map enc) := by rw [h2]; exact h3
  have pl : plainE s2 [i, j] = true := by simp [plainE, hi, hj]
  have we : wipeE s2 [i, j] = s2 := by
    show (s2.set j none).set i none = s2
    rw [set_none hj, set_none hi]
  have re : restE s2 s2 [i, j] = s2 := by
    show (s2.set j (s2[j]?.join)).set i (s2[i]?.join) = s2
    rw [hi, hj]
    show (s2.set j none).set i none = s2
    rw [set_none hj, set_none hi]
  -- the inner loop
  have inner : ∀ x, x ∈ xs → ∀ (zs : List β) (acc : List D), (∀ y, y ∈ zs → y ∈ ys) → compLoop (compBody Γ elt none [j]) (.name j) (zs.map enc2) acc (s2.set i (some (.fr, .val (enc x)))) = .ok (acc ++ zs.map (f x)) (s2.set i (some (.fr, .val (enc x)))) := fun x hx zs => by
    have hj' : (s2.set i (some (Mode.fr, Cell.val (enc x))))[j]? = some none := by rw [List.getElem?_set_ne hij]; exact hj
    have lj' : j < (s2.set i (some (Mode.fr, Cell.val (enc x)))).length := by rw [List.length_set]; exact lj
    induction zs with
    | nil => intro acc _; simp [compLoop]
    | cons y zs ih =>
      intro acc hz
      obtain ⟨r, e1, e2⟩ := hb x y hx (hz y (by simp))
      have bs := body_set (s := s2.set i (some (Mode.fr, Cell.val (enc x)))) lj' (enc2 y)
      rw [set_none hj'] at bs
      rw [List.map_cons]
      unfold compLoop
      simp only [bindT, compBody, e1, R.bind, keepR, e2, bs.1, if_true, bs.2]
      rw [ih (acc ++ [f x y]) fun y' h => hz y' (by simp [h])]
      simp
  have outer : ∀ (zs : List α) (acc : List D), (∀ x, x ∈ zs → x ∈ xs) → acc.length + zs.length * ys.length ≤ big → compLoop2 (body2 Γ elt (.name j) k2 src2 none [i, j] [j]) (.name i) (zs.map enc) acc s2 = .ok (acc ++ zs.flatMap fun x => ys.map (f x)) s2 := fun zs => by
    induction zs with
    | nil => intro acc _ _; simp [compLoop2]
    | cons x zs ih =>
      intro acc hz hb2
      have hx := hz x (by simp)
      have hj' : (s2.set i (some (Mode.fr, Cell.val (enc x))))[j]? = some none := by rw [List.getElem?_set_ne hij]; exact hj
      have em : emptyI (s2.set i (some (Mode.fr, Cell.val (enc x)))) [j] = true := by simp [emptyI, hj']
      have e2 : (lookAll (s2.set i (some (Mode.fr, Cell.val (enc x)))) rs2).bind (itF k2) = some (ys.map enc2) := by rw [g2 x hx]; exact g3
      rw [List.length_cons, Nat.succ_mul] at hb2
      have nb : ¬ big < acc.length + (ys.map enc2).length := by rw [List.length_map]; omega
      have fe : freeI (s2.set i (some (Mode.fr, Cell.val (enc x)))) [i, j] = true := by simp [freeI, li, hj']
      have wi : wipeE (s2.set i (some (Mode.fr, Cell.val (enc x)))) [i, j] = s2 := by
        show ((s2.set i (some (Mode.fr, Cell.val (enc x)))).set j none).set i none = s2
        rw [set_none hj', List.set_set, set_none hi]
      rw [List.map_cons]
      unfold compLoop2
      simp only [bindT, body2, g1 x hx, R.bind, e2, g4 x hx, em, Bool.true_eq_false, false_or, if_neg nb, inner x hx ys acc fun _ h => h, fe, if_true, wi]
      rw [ih (acc ++ ys.map (f x)) (fun y h => hz y (by simp [h])) (by rw [List.length_append, List.length_map]; omega)]
      simp
  have nl : ¬ big < (xs.map enc).length := by rw [List.length_map]; omega
  have hh : ev Γ false (.comp2 elt (.name i) k src (.name j) k2 src2 none [i, j] [j]) s = (evr Γ src s).bind fun rs s1 => match (lookAll s1 rs).bind (itF k) with
    | none => .stk
    | some items => match srcE k s1 rs with
      | none => .stk
      | some s2 => if plainE s2 [i, j] = false ∨ big < items.length then .stk else match compLoop2 (body2 Γ elt (.name j) k2 src2 none [i, j] [j]) (.name i) items [] (wipeE s2 [i, j]) with
        | .ok acc s3 => .ok (.tmp (.lst acc)) (restE s2 s3 [i, j])
        | _ => .stk := by
    simp only [ev, fin_false]
    rfl
  rw [hh, h1]
  simp only [R.bind, e, h4, pl, we, Bool.true_eq_false, false_or, if_neg nl, outer xs [] (fun _ h => h) (by simpa using hl2), re, List.nil_append]
end
/-- a loop over a list that may return: the first that hits -/
theorem loop_find {body : Env → X} {t : Tg} {α : Type} (enc : α → D) (St : Env → Prop) (hit : α → Bool) (res : α → Cell) (hf : ∀ s, St s → freeI s t.slots = true) :
    ∀ (xs : List α) (s : Env), (∀ x s, x ∈ xs → St s → ∃ s1, bindT t (enc x) s = some s1 ∧ ((hit x = false ∧ ∃ s2, body s1 = .nx s2 ∧ St s2) ∨ (hit x = true ∧ ∃ s2, body s1 = .ret (res x) s2))) → St s →
    (xs.find? hit = none ∧ ∃ s', loopX body t (xs.map enc) s = .nx s' ∧ St s') ∨ (∃ x s', xs.find? hit = some x ∧ loopX body t (xs.map enc) s = .ret (res x) s')
  | [], s, _, h => .inl ⟨rfl, s, rfl, h⟩
  | x :: xs, s, hb, h => by
    obtain ⟨s1, e1, h2⟩ := hb x s (by simp) h
    rw [List.map_cons]
    rcases h2 with ⟨hn, s2, e2, h3⟩ | ⟨hh, s2, e2⟩
    · rw [loopX_step (hf s h) e1 e2, List.find?_cons, hn]
      exact loop_find enc St hit res hf xs s2 (fun y s hy => hb y s (by simp [hy])) h3
    · exact .inr ⟨x, s2, by rw [List.find?_cons, hh], loopX_ret (hf s h) e1 e2⟩
theorem last_ix (xs : List Int) (x : Int) : idxF (.list ((xs ++ [x]).map .int)) (.int (-1)) = some (.int x) := by
  rw [List.map_append]
  exact L2.atI_last _ _
theorem last_ixN (m : Nat) : L2.ixN (m + 1) (-1) = some m := by
  unfold L2.ixN
  rw [if_neg (by decide), if_pos (by omega)]
  congr 1
  omega
theorem last_set (xs : List Int) (x y : Int) : ((xs ++ [x]).map PyData.int).set xs.length (.int y) = (xs ++ [y]).map .int := by
  rw [List.map_append, List.map_append, List.set_append_right _ _ (by rw [List.length_map]; exact Nat.le_refl _)]
  simp
end MP

set_option linter.all false
set_option maxRecDepth 100000
set_option maxHeartbeats 400000
/-! MP: lists of lists of ints; membership. -/
namespace MP
open PySem
def eL (r : List Int) : D := .list (r.map .int)
theorem lay_ints : ∀ l : List Int, PyData.canLayAll0 (l.map PyData.int) = true ∧ PyData.depthAll (l.map PyData.int) = 0
  | [] => ⟨rfl, rfl⟩
  | x :: r => ⟨by simp [PyData.canLayAll0, PyData.canLay0, (lay_ints r).1], by simp [PyData.depthAll, PyData.depth, (lay_ints r).2]⟩
theorem lay_ll : ∀ ls : List (List Int), PyData.canLayAll0 (ls.map eL) = true ∧ PyData.depthAll (ls.map eL) ≤ 1
  | [] => ⟨rfl, Nat.zero_le _⟩
  | x :: r => by
    obtain ⟨h1, h2⟩ := lay_ll r
    obtain ⟨g1, g2⟩ := lay_ints x
    refine ⟨by simp [PyData.canLayAll0, eL, PyData.canLay0, g1, h1], ?_⟩
    have : PyData.depth (eL x) ≤ 1 := by simp [eL, PyData.depth, g2]
    rw [List.map_cons]
    unfold PyData.depthAll
    omega
theorem shaped_ll (ls : List (List Int)) : SeqAt.shaped (.list (ls.map eL)) = true := by
  obtain ⟨h1, h2⟩ := lay_ll ls
  unfold SeqAt.shaped
  have : PyData.depth (.list (ls.map eL)) ≤ 64 := by
    unfold PyData.depth
    omega
  rw [decide_eq_true this, Bool.and_true]
  unfold PyData.canLay0
  exact h1
theorem eqv_L (a b : List Int) : PyData.eqv (eL a) (eL b) = decide (a = b) := by
  unfold eL PyData.eqv
  exact eqvL a b
theorem inF_ll (a : List Int) (ls : List (List Int)) : inF (.list (a.map .int)) (.list (ls.map eL)) = some (decide (a ∈ ls)) := by
  unfold inF
  dsimp only
  rw [if_pos ⟨shaped_ints a, shaped_ll ls⟩]
  congr 1
  induction ls with
  | nil => simp
  | cons x r ih =>
    rw [List.map_cons, List.any_cons, ih]
    have e : PyData.eqv (eL x) (.list (a.map .int)) = decide (x = a) := eqv_L x a
    rw [e, Bool.eq_iff_iff, Bool.or_eq_true, decide_eq_true_iff, decide_eq_true_iff, decide_eq_true_iff, List.mem_cons]
    constructor
    · rintro (h | h)
      · exact .inl h.symm
      · exact .inr h
    · rintro (h | h)
      · exact .inl h.symm
      · exact .inr h
end MP

set_option linter.all false
set_option maxRecDepth 100000
set_option maxHeartbeats 400000
/-! MP: what all laws share: slots, slices, draws in any frame, ends. -/
namespace MP
open PySem
abbrev Vi (i : Int) : Option (Mode × Cell) := some (.fr, .val (.int i))
abbrev Vd (d : D) : Option (Mode × Cell) := some (.fr, .val d)
abbrev Vl (l : List Int) : Option (Mode × Cell) := some (.fr, .val (.list (l.map .int)))
abbrev Ol (l : List Int) : Option (Mode × Cell) := some (.fr, .lst (l.map .int))
abbrev Od (l : List D) : Option (Mode × Cell) := some (.fr, .lst l)
section
variable {Γ : Cfg} {s s1 s2 : Env} {a b : E} {x y : D} {r r1 ra rb : Res} {i j : Nat} {m : Mode} {d : D} {ds : List D} {op : BOp}
theorem evV (h : s[i]? = some (some (m, .val d))) : ev Γ false (.var i) s = .ok (.val d) s := by
  rw [ev, fin_false, h]
theorem evBor (h : s[i]? = some (some (m, .lst ds))) : ev Γ false (.var i) s = .ok (.bor i) s := by
  rw [ev, fin_false, h]
theorem evBR (h1 : ev Γ false a s = .ok ra s1) (hh : hold ra = some r1) (h2 : ev Γ false b s1 = .ok rb s2) (l1 : look s2 r1 = some x) (l2 : look s2 rb = some y) (h : binF op x y = some r) : ev Γ false (.bin op a b) s = .ok r s2 := by
  rw [ev, fin_false, h1]
  simp only [R.bind, hh]
  rw [h2]
  simp only [l1, l2, Option.bind, h, R.opt]
theorem evLib1 {f : Lib} (h1 : ev Γ false a s = .ok ra s1) (hh : hold ra = some r1) (l1 : look s1 r1 = some x) (h : libF f [x] = some r) : ev Γ false (.lib f [a]) s = .ok r s1 := by
  rw [ev, fin_false]
  simp only [evr, h1, R.bind, hh, lookAll, l1, Option.bind, Option.map, h, R.opt]
theorem evIdx (h1 : ev Γ false a s = .ok ra s1) (hh : hold ra = some r1) (h2 : ev Γ false b s1 = .ok rb s2) (l1 : look s2 r1 = some x) (l2 : look s2 rb = some y) (h : idxF x y = some d) : ev Γ false (.idx a b) s = .ok (.val d) s2 := by
  rw [ev, fin_false, h1]
  simp only [R.bind, hh]
  rw [h2]
  simp only [l1, l2, Option.bind, h, R.opt, Option.map]
theorem evIsN {k : Bool} (h1 : ev Γ false a s = .ok ra s1) (l1 : look s1 ra = some x) : ev Γ false (.isN a k) s = .ok (.val (.bool (if k then !isNone x else isNone x))) s1 := by
  rw [ev, h1]
  simp only [R.bind, l1, Option.map, R.opt]
theorem ends_nx {f : Fn} {c : S} {q : List S} {rc : RC} (h : ex1 Γ c s = .nx s1) (k : endF f (exs Γ q s1) = rc) : endF f (exs Γ (c :: q) s) = rc := by
  rw [exs_nx h]
  exact k
theorem ends_ret {f : Fn} {c : S} {q : List S} {rc : RC} {v : Cell} (h : ex1 Γ c s = .ret v s1) (k : endF f (.ret v s1) = rc) : endF f (exs Γ (c :: q) s) = rc := by
  rw [exs_ret h]
  exact k
theorem ex_nx {c : S} {q : List S} {x : X} (h : ex1 Γ c s = .nx s1) (k : exs Γ q s1 = x) : exs Γ (c :: q) s = x := by
  rw [exs_nx h]
  exact k
theorem ite_yes {c : E} {p q : List S} {X1 : X} (h : ev Γ true c s = .ok (.val (.bool true)) s1) (k : exs Γ p s1 = X1) : ex1 Γ (.ite c p q) s = X1 := by
  simp only [ex1, h, R.thenX, boolR, k]
theorem ite_els {c : E} {p q : List S} {X1 : X} (h : ev Γ true c s = .ok (.val (.bool false)) s1) (k : exs Γ q s1 = X1) : ex1 Γ (.ite c p q) s = X1 := by
  simp only [ex1, h, R.thenX, boolR, k]
/-- of a truth value: the test -/
theorem evT {c : E} {k : Bool} (h0 : ev Γ true c s = truthR (ev Γ false c s)) (h : ev Γ false c s = .ok (.val (.bool k)) s1) : ev Γ true c s = .ok (.val (.bool k)) s1 := by
  rw [h0, h]
  rfl
end
/-! ### slices, items -/
theorem cut_map {A B : Type} (f : A → B) (b : List A) (lo hi : Option Int) : cutD (b.map f) lo hi = (cutD b lo hi).map f := by unfold cutD; rw [List.length_map, List.map_take, List.map_drop]
theorem cut_take {A : Type} (b : List A) (k : Nat) : cutD b none (some (k : Int)) = b.take k := by
  unfold cutD
  rw [HT.sIx_none, HT.sIx_nat, List.drop_zero, Nat.sub_zero]
  by_cases h : k ≤ b.length
  · rw [Nat.min_eq_left h]
  · rw [Nat.min_eq_right (by omega), List.take_of_length_le (Nat.le_refl _), List.take_of_length_le (by omega)]
theorem cut_drop {A : Type} (b : List A) (k : Nat) : cutD b (some (k : Int)) none = b.drop k := by
  unfold cutD
  rw [HT.sIx_none, HT.sIx_nat]
  by_cases h : k ≤ b.length
  · rw [Nat.min_eq_left h, List.take_of_length_le (by rw [List.length_drop]; exact Nat.le_refl _)]
  · rw [Nat.min_eq_right (by omega), List.drop_of_length_le (Nat.le_refl _), List.drop_of_length_le (by omega), List.take_nil]
theorem cut_mid {A : Type} (b : List A) (j k : Nat) : cutD b (some (j : Int)) (some (k : Int)) = (b.take k).drop j := by
  unfold cutD
  rw [HT.sIx_nat, HT.sIx_nat, List.drop_take]
  by_cases h : k ≤ b.length
  · rw [Nat.min_eq_left h]
    by_cases h2 : j ≤ b.length
    · rw [Nat.min_eq_left h2]
    · rw [List.drop_of_length_le (l := b) (i := j) (by omega), List.drop_of_length_le (by omega), List.take_nil, List.take_nil]
  · rw [Nat.min_eq_right (by omega)]
    by_cases h2 : j ≤ b.length
    · rw [Nat.min_eq_left h2, List.take_of_length_le (by rw [List.length_drop]; omega), List.take_of_length_le (by rw [List.length_drop]; omega)]
    · rw [List.drop_of_length_le (l := b) (i := j) (by omega), List.drop_of_length_le (by omega), List.take_nil, List.take_nil]
section
variable {A : Type} (f : A → D) (b : List A)
theorem slcT (k : Nat) : slcF (.list (b.map f)) none (some (k : Int)) = some (.tmp (.lst ((b.take k).map f))) := by unfold slcF; simp only [cut_take, List.map_take]
theorem slcD (k : Nat) : slcF (.list (b.map f)) (some (k : Int)) none = some (.tmp (.lst ((b.drop k).map f))) := by unfold slcF; simp only [cut_drop, List.map_drop]
theorem slcD' {k : Nat} {i : Int} (e : i = (k : Int)) : slcF (.list (b.map f)) (some i) none = some (.tmp (.lst ((b.drop k).map f))) := by rw [e]; exact slcD f b k
theorem slcT' {k : Nat} {i : Int} (e : i = (k : Int)) : slcF (.list (b.map f)) none (some i) = some (.tmp (.lst ((b.take k).map f))) := by rw [e]; exact slcT f b k
theorem idxM {k : Nat} {x : A} (h : b[k]? = some x) : idxF (.list (b.map f)) (.int (k : Int)) = some (f x) := by
  have hl : k < b.length := (List.getElem?_eq_some_iff.mp h).1
  have : b[k] = x := by rw [List.getElem?_eq_getElem hl] at h; exact Option.some.inj h
  simp [idxF, L2.atI, L2.ixN, hl, this]
theorem idxM' {k : Nat} {i : Int} {x : A} (e : i = (k : Int)) (h : b[k]? = some x) : idxF (.list (b.map f)) (.int i) = some (f x) := by rw [e]; exact idxM f b h
end
theorem addM {A : Type} (f : A → D) {x y : List A} (h : x.length + y.length ≤ big) : binF .add (.list (x.map f)) (.list (y.map f)) = some (.tmp (.lst ((x ++ y).map f))) := by
  simp [binF, h]
theorem modN {a b : Nat} (h : 0 < b) : binF .mod (.int (a : Int)) (.int (b : Int)) = some (.val (.int ((a % b : Nat) : Int))) := by
  have : (0 : Int) < b := by omega
  show (if (0 : Int) < b then _ else _) = _
  rw [if_pos this, Int.natCast_emod]
theorem divN {a b : Nat} (h : 0 < b) (h2 : b < 2 ^ 60) : binF .fdiv (.int (a : Int)) (.int (b : Int)) = some (.val (.int ((a / b : Nat) : Int))) := by
  have := divOk1 (b := (b : Int)) (by omega) (by omega)
  simp [binF, this, Int.natCast_ediv]
theorem num_in {x a b : Int} (h1 : a ≤ x) (h2 : x ≤ b) : numF (.int x) a b = true := by simp [numF, h1, h2]
/-! ### lists of flat values -/
def flat1 : D → Bool
  | .none | .bool _ | .int _ => true
  | _ => false
theorem lay_flat : ∀ ds : List D, ds.all flat1 = true → PyData.canLayAll0 ds = true ∧ PyData.depthAll ds = 0
  | [], _ => ⟨rfl, rfl⟩
  | d :: r, h => by
    rw [List.all_cons, Bool.and_eq_true] at h
    obtain ⟨h1, h2⟩ := lay_flat r h.2
    have hd : d.canLay0 = true ∧ d.depth = 0 := by
      cases d <;> simp_all [flat1, PyData.canLay0, PyData.depth]
    exact ⟨by simp [PyData.canLayAll0, hd.1, h1], by simp [PyData.depthAll, hd.2, h2]⟩
theorem shaped_flat {ds : List D} (h : ds.all flat1 = true) : SeqAt.shaped (.list ds) = true := by
  obtain ⟨h1, h2⟩ := lay_flat ds h
  unfold SeqAt.shaped
  simp [PyData.canLay0, PyData.depth, h1, h2]
/-! ### draws -/
section
variable {T : Nat → Option Fn} {wf : Nat} {sub : Nat → Nat → Bool} {n jd jp : Nat} {s s1 s2 : Env} {md : Mode} {i : Nat} {ps ps1 : List D} {F : List D → Env}
theorem draw_at {e : E} {m : Int} (hD : T jd = some fDraw) (hi : s[i]? = some (some (md, .lst ps))) (he : ev (Gm T wf sub (n + 1)) false e s = .ok (.val (.int m)) s1) (hi1 : s1[i]? = some (some (md, .lst ps1))) (hmd : md ≠ .ro) (hF : ∀ q, s1.set i (some (md, .lst q)) = F q) (hm : 0 < m) (hm2 : m < 2 ^ 60) (hp : PoolOk ps1) :
    ∃ (r : Int) (ps' : List D), ev (Gm T wf sub (n + 1)) false (.call jd [.var i, e] []) s = .ok (.val (.int r)) (F ps') ∧ 0 ≤ r ∧ r < m ∧ PoolOk ps' := by
  obtain ⟨r, ps', e2, h1, h2, h3⟩ := draw_ok (T := T) (wf := wf) (sub := sub) (n := n) (j := jd) hD hm hm2 hp
  refine ⟨r, ps', ?_, h1, h2, h3⟩
  have pm : (Option.map (fun (g : Fn) => g.pms) (T jd)).getD [] = [.i, .v] := pms_eq (wf := wf) (sub := sub) (n := n) hD
  have li : i < s1.length := (List.getElem?_eq_some_iff.mp hi1).1
  rw [ev, fin_false]
  have hr : evr (Gm T wf sub (n + 1)) [(.var i), e] s = .ok [.bor i, .val (.int m)] s1 := evr1 (evBor hi) rfl (evr1 he rfl evr0)
  have ha : argCells s1 [PM.i, PM.v] [.bor i, .val (.int m)] = some ([.lst ps1, .val (.int m)], some i, s1) := by
    simp only [argCells, hi1, if_neg hmd, frz, List.set_set]
    congr 2
    congr 1
    apply List.ext_getElem?
    intro k
    by_cases z : i = k
    · subst z; rw [List.getElem?_set_self li, hi1]
    · rw [List.getElem?_set_ne z]
  rw [hr]
  simp only [R.bind, pm, List.map_nil, List.append_nil, ha, e2, backIO, hi1, resOf, hF]
theorem pick_at {e : E} {ra rb : Res} {ds : List D} (hP : T jp = some (fPick jd)) (hD : T jd = some fDraw) (hi : s[i]? = some (some (md, .lst ps))) (he : ev (Gm T wf sub (n + 2)) false e s = .ok ra s1) (hi1 : s1[i]? = some (some (md, .lst ps1))) (hmd : md ≠ .ro) (hh : hold ra = some rb) (hf : frz (s1.set i none) rb = some (.list ds, s2)) (hF : ∀ q, s2.set i (some (md, .lst q)) = F q) (hd : ds ≠ []) (hl : ds.length < 2 ^ 60) (hp : PoolOk ps1) (li2 : i < s2.length) :
    ∃ (k : Nat) (hk : k < ds.length) (ps' : List D), ev (Gm T wf sub (n + 2)) false (.call jp [.var i, e] []) s = .ok (.val ds[k]) (F ps') ∧ PoolOk ps' := by
  obtain ⟨k, hk, ps', e2, h3⟩ := pick_ok (T := T) (wf := wf) (sub := sub) (n := n) (j := jp) (jd := jd) hP hD hd hl hp
  refine ⟨k, hk, ps', ?_, h3⟩
  have pm : (Option.map (fun (g : Fn) => g.pms) (T jp)).getD [] = [.i, .v] := pms_eq (wf := wf) (sub := sub) (n := n) hP
  rw [ev, fin_false]
  have hr : evr (Gm T wf sub (n + 2)) [(.var i), e] s = .ok [.bor i, rb] s1 := evr1 (evBor hi) rfl (evr1 he hh evr0)
  have ha : argCells s1 [PM.i, PM.v] [.bor i, rb] = some ([.lst ps1, .val (.list ds)], some i, s2.set i (some (md, .lst ps1))) := by
    simp only [argCells, hi1, if_neg hmd, hf]
  rw [hr]
  have g : (F ps1)[i]? = some (some (md, .lst ps1)) := by rw [← hF, List.getElem?_set_self li2]
  have g2 : (F ps1).set i (some (md, .lst ps')) = F ps' := by rw [← hF, List.set_set, hF]
  simp only [R.bind, pm, List.map_nil, List.append_nil, ha, e2, backIO, hF, g, g2, resOf]
theorem set_self {s : Env} {i : Nat} {o : Option (Mode × Cell)} (h : s[i]? = some o) : s.set i o = s := by
  apply List.ext_getElem?
  intro k
  by_cases z : i = k
  · subst z; rw [List.getElem?_set_self (List.getElem?_eq_some_iff.mp h).1, h]
  · rw [List.getElem?_set_ne z]
end
/-! ### loops by a relation -/
theorem loop_rel {body : Env → X} {t : Tg} {α β : Type} (enc : α → D) (St : β → Env → Prop) (step : β → α → β) (hf : ∀ x s, St x s → freeI s t.slots = true) :
    ∀ (xs : List α) (x : β) (s : Env), (∀ x a s, a ∈ xs → St x s → ∃ s1, bindT t (enc a) s = some s1 ∧ ∃ s2, body s1 = .nx s2 ∧ St (step x a) s2) → St x s → ∃ s', loopX body t (xs.map enc) s = .nx s' ∧ St (xs.foldl step x) s'
  | [], x, s, _, h => ⟨s, rfl, h⟩
  | a :: xs, x, s, hb, h => by
    obtain ⟨s1, e1, s2, e2, h2⟩ := hb x a s (by simp) h
    rw [List.map_cons, loopX_step (hf x s h) e1 e2]
    exact loop_rel enc St step hf xs (step x a) s2 (fun x a s ha => hb x a s (by simp [ha])) h2
theorem while_rel {test : Env → R Res} {body : Env → X} {β : Type} (St : β → Env → Prop) (c : β → Bool) (μ : β → Nat) (htest : ∀ x s, St x s → test s = .ok (.val (.bool (c x))) s)
    (hbody : ∀ x s, St x s → c x = true → ∃ s' y, body s = .nx s' ∧ St y s' ∧ μ y < μ x) : ∀ (fuel : Nat) (x : β) (s : Env), St x s → μ x < fuel → ∃ y s', whileX test body fuel s = .nx s' ∧ St y s' ∧ c y = false
  | 0, x, _, _, h => by omega
  | f + 1, x, s, hx, hm => by
    unfold whileX
    simp only [htest x s hx, R.thenX, boolR]
    cases hc : c x with
    | false => exact ⟨x, s, rfl, hx, hc⟩
    | true =>
      obtain ⟨s', y, e, hy, hl⟩ := hbody x s hx hc
      obtain ⟨z, s2, e2, hz, hcz⟩ := while_rel St c μ htest hbody f y s' hy (by omega)
      exact ⟨z, s2, by simp only [e, X.seq]; exact e2, hz, hcz⟩
theorem foldl_take {α β : Type} (f : β → α → β) (x : β) (l : List α) : l.foldl f x = (l.take l.length).foldl f x := by rw [List.take_length]
theorem Fr.free {s : Env} {i : Nat} {o : Option (Mode × Cell)} (h : s[i]? = some o) (ho : Fr o) : freeI s [i] = true := by
  rcases ho with rfl | ⟨d, rfl⟩ <;> simp [freeI, h]
theorem FrC.free {s : Env} {i : Nat} {o : Option (Mode × Cell)} (h : s[i]? = some o) (ho : FrC o) : freeI s [i] = true := by
  rcases ho with rfl | ⟨d, rfl⟩ <;> simp [freeI, h]
theorem it1 {w : Nat} (h : w ≤ 1000000) : itF .rng [.int 1, .int ((w : Int) + 1)] = some ((List.range w).map fun (k : Nat) => PyData.int (1 + (k : Int))) := by
  rw [itRng2 (by decide) (by omega), show ((w : Int) + 1 - 1).toNat = w by omega]
/-! ### rows that rise -/
def subl {A : Type} : List A → List (List A)
  | [] => [[]]
  | x :: r => subl r ++ (subl r).map (x :: ·)
theorem subl_mem {A : Type} : ∀ {l m : List A}, l.Sublist m → l ∈ subl m
  | _, _, .slnil => by simp [subl]
  | _, _, .cons a h => List.mem_append_left _ (subl_mem h)
  | _, _, .cons_cons a h => List.mem_append_right _ (List.mem_map.mpr ⟨_, subl_mem h, rfl⟩)
theorem asc_sub : ∀ (l : List Nat) (a n : Nat), l.Pairwise (· < ·) → (∀ x ∈ l, a ≤ x ∧ x < a + n) → l.Sublist (List.range' a n)
  | [], a, n, _, _ => List.nil_sublist _
  | x :: l, a, n, hp, hb => by
    induction n generalizing a with
    | zero => have := hb x (by simp); omega
    | succ n ih =>
      rw [List.range'_succ]
      have hx := hb x (by simp)
      rw [List.pairwise_cons] at hp
      by_cases z : x = a
      · subst z
        exact .cons_cons _ (asc_sub l (x + 1) n hp.2 fun y hy => by have := hp.1 y hy; have := hb y (by simp [hy]); omega)
      · refine .cons _ (ih (a + 1) fun y hy => ?_)
        have := hb y hy
        rcases List.mem_cons.mp hy with rfl | hy
        · omega
        · have := hp.1 y hy; omega
theorem insI_mem {x y : Int} : ∀ {l : List Int}, y ∈ insI x l ↔ y = x ∨ y ∈ l
  | [] => by simp [insI]
  | z :: r => by
    rw [insI]
    split
    · simp
    · rw [List.mem_cons, insI_mem, List.mem_cons]
      constructor
      · rintro (h | h | h) <;> simp [h]
      · rintro (h | h | h) <;> simp [h]
theorem insI_asc {x : Int} : ∀ {l : List Int}, l.Pairwise (· < ·) → x ∉ l → (insI x l).Pairwise (· < ·)
  | [], _, _ => by simp [insI]
  | z :: r, hp, hx => by
    rw [insI]
    rw [List.mem_cons, not_or] at hx
    have hp2 := List.pairwise_cons.mp hp
    split
    · rw [List.pairwise_cons]
      refine ⟨fun y hy => ?_, hp⟩
      rcases List.mem_cons.mp hy with rfl | hy
      · omega
      · have := hp2.1 y hy; omega
    · rw [List.pairwise_cons]
      refine ⟨fun y hy => ?_, insI_asc hp2.2 hx.2⟩
      rcases insI_mem.mp hy with rfl | hy
      · omega
      · exact hp2.1 y hy
theorem sortI_mem {y : Int} : ∀ {l : List Int}, y ∈ sortI l ↔ y ∈ l
  | [] => by simp [sortI]
  | z :: r => by rw [sortI, insI_mem, List.mem_cons, sortI_mem]
theorem sortI_asc : ∀ {l : List Int}, l.Nodup → (sortI l).Pairwise (· < ·)
  | [], _ => by simp [sortI]
  | z :: r, h => by
    rw [List.nodup_cons] at h
    rw [sortI]
    exact insI_asc (sortI_asc h.2) fun q => h.1 (sortI_mem.mp q)
theorem insI_len (x : Int) : ∀ l : List Int, (insI x l).length = l.length + 1
  | [] => rfl
  | z :: r => by
    rw [insI]
    split
    · rfl
    · rw [List.length_cons, insI_len x r, List.length_cons]
theorem sortI_len : ∀ l : List Int, (sortI l).length = l.length
  | [] => rfl
  | z :: r => by rw [sortI, insI_len, sortI_len r, List.length_cons]
/-- without what stood before -/
def ded {A : Type} [DecidableEq A] (f : List A) (d : A) : List A := ((List.range f.length).filter fun k => !decide (f[k]?.getD d ∈ f.take k)).map fun k => f[k]?.getD d
theorem ded_nd {A : Type} [DecidableEq A] (f : List A) (d : A) : (ded f d).Nodup := by
  unfold ded
  have hr : (List.range f.length).Pairwise (· < ·) := List.pairwise_lt_range
  refine List.Pairwise.map _ (R := fun i j => f[i]?.getD d ≠ f[j]?.getD d) (fun _ _ h => h) ?_
  have h2 := (List.Pairwise.filter (fun k => !decide (f[k]?.getD d ∈ f.take k)) hr)
  refine List.Pairwise.imp_of_mem (fun {i j} hi hj hij e => ?_) h2
  have hj := List.mem_filter.mp hj
  have hjl := List.mem_range.mp hj.1
  have := hj.2
  rw [Bool.not_eq_true', decide_eq_false_iff_not, ← e] at this
  refine this ?_
  rw [List.getElem?_eq_getElem (by omega), Option.getD_some]
  exact List.mem_take_iff_getElem.mpr ⟨i, by omega, rfl⟩
theorem ded_mem {A : Type} [DecidableEq A] {f : List A} {d x : A} (h : x ∈ ded f d) : x ∈ f := by
  obtain ⟨k, hk, rfl⟩ := List.mem_map.mp h
  have := List.mem_range.mp (List.mem_filter.mp hk).1
  rw [List.getElem?_eq_getElem this]
  exact List.getElem_mem this
theorem ded_len {A : Type} [DecidableEq A] (f : List A) (d : A) : (ded f d).length ≤ f.length := by
  unfold ded
  rw [List.length_map]
  refine Nat.le_trans (List.length_filter_le _ _) ?_
  rw [List.length_range]
  exact Nat.le_refl _
theorem ded_ne {A : Type} [DecidableEq A] {f : List A} {d : A} (h : f ≠ []) : ded f d ≠ [] := by
  unfold ded
  intro z
  rw [List.map_eq_nil_iff, List.filter_eq_nil_iff] at z
  have := List.length_pos_iff.mpr h
  exact z 0 (List.mem_range.mpr this) (by simp)
section
variable {Γ : Cfg} {s s1 s2 s3 : Env} {a b c : E} {x y d : D} {r r1 ra rb : Res} {i j : Nat} {md md0 : Mode} {xs xs0 : List D}
theorem ifeT (h : ev Γ true c s = .ok (.val (.bool true)) s1) (h2 : ev Γ false a s1 = .ok r s2) : ev Γ false (.ife c a b) s = .ok r s2 := by
  rw [ev, fin_false, h]
  simp only [R.bind, boolR, h2]
theorem ifeF (h : ev Γ true c s = .ok (.val (.bool false)) s1) (h2 : ev Γ false b s1 = .ok r s2) : ev Γ false (.ife c a b) s = .ok r s2 := by
  rw [ev, fin_false, h]
  simp only [R.bind, boolR, h2]
/-- xs.append(e) -/
theorem app_nx (h0 : s[i]? = some (some (md0, .lst xs0))) (h : ev Γ false a s = .ok r s1) (hf : frz s1 r = some (d, s2)) (hi : s2[i]? = some (some (md, .lst xs))) (hm : md ≠ .ro) (hl : xs.length < big) : ex1 Γ (.expr (.mut .append i [a])) s = .nx (s2.set i (some (md, .lst (xs ++ [d])))) := by
  rw [ex1, ev, fin_false, h0]
  simp only [evs, h, R.bind, hf, hi, if_neg hm, mutF, if_pos hl, R.thenX]
/-- xs[k] = e -/
theorem asgI_nx {k : E} {n : Nat} {z : Int} (h : ev Γ false a s = .ok r s1) (hf : frz s1 r = some (d, s2)) (hi : s2[i]? = some (some (md0, .lst xs0))) (hk : ev Γ false k s2 = .ok rb s3) (hz : look s3 rb = some (.int z)) (hi3 : s3[i]? = some (some (md, .lst xs))) (hm : md ≠ .ro) (hn : L2.ixN xs.length z = some n) : ex1 Γ (.asgI i k a) s = .nx (s3.set i (some (md, .lst (xs.set n d)))) := by
  rw [ex1]
  simp only [evs, h, R.bind, hf, R.thenX, hi, hk, hz, hi3, if_neg hm, hn]
theorem evSlc1 {lo : E} {z : Int} (h1 : ev Γ false a s = .ok ra s1) (hh : hold ra = some r1) (h2 : ev Γ false lo s1 = .ok (.val (.int z)) s2) (l1 : look s2 r1 = some x) (h : slcF x (some z) none = some r) : ev Γ false (.slc a (some lo) none) s = .ok r s2 := by
  rw [ev, fin_false, h1]
  simp only [R.bind, hh, evo, h2, look] at *
  simp only [l1, Option.bind, h, R.opt]
theorem evSlc2 {hi : E} {z : Int} (h1 : ev Γ false a s = .ok ra s1) (hh : hold ra = some r1) (h2 : ev Γ false hi s1 = .ok (.val (.int z)) s2) (l1 : look s2 r1 = some x) (h : slcF x none (some z) = some r) : ev Γ false (.slc a none (some hi)) s = .ok r s2 := by
  rw [ev, fin_false, h1]
  simp only [R.bind, hh, evo, h2, look] at *
  simp only [l1, Option.bind, h, R.opt]
end
theorem ixN_nat {l k : Nat} (h : k < l) : L2.ixN l (k : Int) = some k := by
  unfold L2.ixN
  rw [if_pos (by omega)]
  simp [h]
theorem lenM {A : Type} (f : A → D) (l : List A) : bltF .len [.list (l.map f)] = some (.val (.int (l.length : Nat))) := by simp [bltF]
theorem evIsN' {Γ : Cfg} {t k q : Bool} {s s1 : Env} {a : E} {x : D} {ra : Res} (h1 : ev Γ false a s = .ok ra s1) (l1 : look s1 ra = some x) (hk : (if k then !isNone x else isNone x) = q) : ev Γ t (.isN a k) s = .ok (.val (.bool q)) s1 := by
  rw [← hk]
  rw [ev, h1]
  simp only [R.bind, l1, Option.map, R.opt]
theorem any_find {A : Type} (p : A → Bool) : ∀ xs : List A, xs.any p = (xs.find? p).isSome
  | [] => rfl
  | x :: r => by
    rw [List.any_cons, List.find?_cons, any_find p r]
    cases p x <;> rfl
theorem evNotT {Γ : Cfg} {s s1 : Env} {a : E} (h : ev Γ true a s = .ok (.val (.bool true)) s1) : ev Γ true (.notE a) s = .ok (.val (.bool false)) s1 := evNot h
theorem evNotF {Γ : Cfg} {s s1 : Env} {a : E} (h : ev Γ true a s = .ok (.val (.bool false)) s1) : ev Γ true (.notE a) s = .ok (.val (.bool true)) s1 := evNot h
end MP

set_option linter.all false
set_option maxRecDepth 100000
set_option maxHeartbeats 400000
/-! MP: Euclid's loop; tuples of ints; fractions. -/
namespace MP
open PySem
theorem gcd_loop {test : Env → R Res} {body : Env → X} {fr : Nat → Nat → Option (Mode × Cell) → Env}
    (ht : ∀ x y o, test (fr x y o) = .ok (.val (.bool (decide (0 < y)))) (fr x y o))
    (hb : ∀ x y o, Fr o → 0 < y → ∃ o', Fr o' ∧ body (fr x y o) = .nx (fr y (x % y) o')) :
    ∀ (k x y : Nat) (o : Option (Mode × Cell)) (fuel : Nat), Fr o → y < 2 ^ k → 2 * k + 1 < fuel → ∃ o', Fr o' ∧ whileX test body fuel (fr x y o) = .nx (fr (Nat.gcd x y) 0 o')
  | k, x, y, o, 0, _, _, h => by omega
  | 0, x, y, o, f + 1, fo, hy, _ => by
    have : y = 0 := by simpa using hy
    subst this
    refine ⟨o, fo, ?_⟩
    unfold whileX
    simp only [ht, R.thenX, boolR, Nat.lt_irrefl, decide_false, Nat.gcd_zero_right]
  | k + 1, x, y, o, 1, _, _, h => by omega
  | k + 1, x, y, o, f + 2, fo, hy, hf => by
    by_cases h0 : 0 < y
    · obtain ⟨o1, f1, e1⟩ := hb x y o fo h0
      by_cases h1 : 0 < x % y
      · obtain ⟨o2, f2, e2⟩ := hb y (x % y) o1 f1 h1
        have hz := Nat.mod_lt x h0
        have hw := Nat.mod_lt y h1
        have hw2 : 2 * (y % (x % y)) < y := by
          have hd := Nat.div_add_mod y (x % y)
          have hq : 1 ≤ y / (x % y) := Nat.div_pos (Nat.le_of_lt hz) h1
          have : (x % y) * 1 ≤ (x % y) * (y / (x % y)) := Nat.mul_le_mul_left _ hq
          omega
        obtain ⟨o3, f3, e3⟩ := gcd_loop ht hb k (x % y) (y % (x % y)) o2 f f2 (by rw [Nat.pow_succ] at hy; omega) (by omega)
        refine ⟨o3, f3, ?_⟩
        unfold whileX
        simp only [ht, R.thenX, boolR, decide_eq_true h0, e1, X.seq]
        unfold whileX
        simp only [ht, R.thenX, boolR, decide_eq_true h1, e2, X.seq]
        rw [e3, show Nat.gcd (x % y) (y % (x % y)) = Nat.gcd x y by
          rw [Nat.gcd_comm, ← Nat.gcd_rec, ← Nat.gcd_rec, Nat.gcd_comm]]
      · have hz : x % y = 0 := by omega
        refine ⟨o1, f1, ?_⟩
        unfold whileX
        simp only [ht, R.thenX, boolR, decide_eq_true h0, e1, X.seq]
        rw [hz]
        unfold whileX
        simp only [ht, R.thenX, boolR, Nat.lt_irrefl, decide_false]
        rw [Nat.gcd_comm, Nat.gcd_rec, hz, Nat.gcd_zero_left]
    · have : y = 0 := by omega
      subst this
      refine ⟨o, fo, ?_⟩
      unfold whileX
      simp only [ht, R.thenX, boolR, Nat.lt_irrefl, decide_false, Nat.gcd_zero_right]
theorem shaped_tup {ds : List D} (h : ds.all flat1 = true) : SeqAt.shaped (.tuple ds) = true := by
  obtain ⟨h1, h2⟩ := lay_flat ds h
  unfold SeqAt.shaped
  simp [PyData.canLay0, PyData.depth, h1, h2]
theorem flat_ints (l : List Int) : (l.map PyData.int).all flat1 = true := by
  rw [List.all_map, List.all_eq_true]
  intro o _
  rfl
theorem eqF_tup (a b : List Int) : eqF (.tuple (a.map .int)) (.tuple (b.map .int)) = some (decide (a = b)) := by
  have e : PyData.eqv (.tuple (a.map .int)) (.tuple (b.map .int)) = decide (a = b) := by
    unfold PyData.eqv
    exact eqvL a b
  unfold eqF
  rw [if_pos ⟨shaped_tup (flat_ints a), shaped_tup (flat_ints b)⟩, e]
/-! ### fractions -/
abbrev Q := Int × Nat
def eF (a : Q) : D := .tuple [.int a.1, .int (a.2 : Int)]
def prt (n : Int) (d : Nat) : Q := (n / (Nat.gcd n.natAbs d : Nat), d / Nat.gcd n.natAbs d)
def pl (a b : Q) : Q := prt (a.1 * b.2 + b.1 * a.2) (a.2 * b.2)
def mi (a b : Q) : Q := prt (a.1 * b.2 - b.1 * a.2) (a.2 * b.2)
theorem eqF_F (a b : Q) : eqF (eF a) (eF b) = some (decide (a = b)) := by
  have := eqF_tup [a.1, (a.2 : Int)] [b.1, (b.2 : Int)]
  refine this.trans ?_
  congr 1
  refine decide_eq_decide.mpr ?_
  obtain ⟨a1, a2⟩ := a
  obtain ⟨b1, b2⟩ := b
  simp only [List.cons.injEq, and_true, Prod.mk.injEq]
  omega
theorem idxF0 (a : Q) : idxF (eF a) (.int 0) = some (.int a.1) := rfl
theorem idxF1 (a : Q) : idxF (eF a) (.int 1) = some (.int (a.2 : Int)) := rfl
theorem same_F {T : Nat → Option Fn} {wf : Nat} {sub : Nat → Nat → Bool} {n j : Nat} (a : Q) (hT : T j = some (fSame j)) : run T wf sub (n + 2) j [.val (eF a), .val (eF a)] = .ok (.val (.bool true)) none :=
  same_tup hT (by show (2 : Nat) < 1073741824; decide) fun d hd => by
    simp only [List.mem_cons, List.not_mem_nil, or_false] at hd
    rcases hd with rfl | rfl <;> exact same_flat hT (.inl ⟨_, rfl⟩)
/-- how long numbers may be -/
def ZB : Nat := 2 ^ 3900
theorem zb_of {x k : Nat} (h : x < 2 ^ k) (hk : k ≤ 3900) : x < ZB := Nat.lt_of_lt_of_le h (Nat.pow_le_pow_right (by decide) hk)
theorem mul_zb {a b : Int} (ha : a.natAbs < ZB) (hb : b.natAbs < ZB) : mulOk a b = true := by
  have h : ZB ≤ 2 ^ 4000 := Nat.pow_le_pow_right (by decide) (by decide)
  unfold mulOk
  rw [decide_eq_true (Nat.lt_of_lt_of_le ha h), decide_eq_true (Nat.lt_of_lt_of_le hb h)]
  simp
theorem div_zb {b : Int} (h0 : 0 < b) (h : b.natAbs < 2 ^ 7900) : divOk b = true := by
  unfold divOk
  rw [decide_eq_true h0, decide_eq_true (Nat.lt_of_lt_of_le h (Nat.pow_le_pow_right (by decide) (by decide)))]
  rfl
theorem binMul {a b : Int} (h : mulOk a b = true) : binF .mul (.int a) (.int b) = some (.val (.int (a * b))) := by
  show (if mulOk a b = true then _ else _) = _
  rw [if_pos h]
theorem binDiv {a b : Int} (h : divOk b = true) : binF .fdiv (.int a) (.int b) = some (.val (.int (a / b))) := by
  show (if divOk b = true then _ else _) = _
  rw [if_pos h]
theorem gcd_pos {n : Int} {d : Nat} (hd : 1 ≤ d) : 0 < Nat.gcd n.natAbs d := Nat.gcd_pos_of_pos_right _ hd
theorem prt_pos {n : Int} {d : Nat} (hd : 1 ≤ d) : 1 ≤ (prt n d).2 := Nat.div_pos (Nat.le_of_dvd hd (Nat.gcd_dvd_right _ _)) (gcd_pos hd)
theorem prt_le {n : Int} {d : Nat} : (prt n d).2 ≤ d := Nat.div_le_self _ _
theorem prt_abs {n : Int} {d : Nat} (hd : 1 ≤ d) : (prt n d).1.natAbs ≤ n.natAbs := by
  unfold prt
  have hg := gcd_pos (n := n) hd
  have hdv : ((Nat.gcd n.natAbs d : Nat) : Int) ∣ n := Int.ofNat_dvd_left.mpr (Nat.gcd_dvd_left _ _)
  obtain ⟨c, hc⟩ := hdv
  generalize Nat.gcd n.natAbs d = g at *
  subst hc
  rw [Int.mul_ediv_cancel_left _ (by omega), Int.natAbs_mul]
  exact Nat.le_mul_of_pos_left _ (by omega)
end MP

set_option linter.all false
set_option maxRecDepth 100000
set_option maxHeartbeats 400000
/-! MP: lists of numbers from 0 on; comprehensions with two for and a test. -/
namespace MP
open PySem
def eN (k : Nat) : D := .int k
abbrev En (l : List Nat) : D := .list (l.map eN)
def toI (c : List Nat) : List Int := c.map fun (k : Nat) => (k : Int)
theorem eN_ints (l : List Nat) : l.map eN = (toI l).map .int := by unfold toI; rw [List.map_map]; rfl
theorem toI_inj {a b : List Nat} : toI a = toI b ↔ a = b := by
  constructor
  · intro h
    exact (List.map_inj_right (fun _ _ h => Int.ofNat.inj h)).mp h
  · rintro rfl; rfl
theorem eqF_NN (a b : List Nat) : eqF (En a) (En b) = some (decide (a = b)) := by
  unfold En
  rw [eN_ints, eN_ints, eqF_list]
  congr 1
  exact decide_eq_decide.mpr toI_inj
theorem intsN (l : List Nat) : intsF (l.map eN) = some (toI l) := by rw [eN_ints]; exact intsI _
theorem inF_N (x : Nat) (l : List Nat) : inF (eN x) (En l) = some (decide (x ∈ l)) := by
  have h2 : ((.list (l.map eN) : D)) = .list ((toI l).map .int) := by rw [eN_ints]
  have hs : SeqAt.shaped (eN x) = true := rfl
  have hl : SeqAt.shaped (En l) = true := by unfold En; rw [h2]; exact shaped_ints _
  show (if SeqAt.shaped (eN x) = true ∧ SeqAt.shaped (En l) = true then some ((l.map eN).any fun z => PyData.eqv z (eN x)) else none) = _
  rw [if_pos ⟨hs, hl⟩]
  congr 1
  rw [List.any_map, Bool.eq_iff_iff, List.any_eq_true, decide_eq_true_iff]
  have e : ∀ a : Nat, PyData.eqv (eN a) (eN x) = decide (a = x) := fun a => by
    unfold eN PyData.eqv
    rw [Bool.beq_eq_decide_eq]
    exact decide_eq_decide.mpr (by omega)
  constructor
  · rintro ⟨a, ha, h⟩
    rw [Function.comp, e, decide_eq_true_iff] at h
    exact h ▸ ha
  · intro h
    exact ⟨x, h, by rw [Function.comp, e]; exact decide_eq_true rfl⟩
theorem same_N {T : Nat → Option Fn} {wf : Nat} {sub : Nat → Nat → Bool} {n j : Nat} (l : List Nat) (hT : T j = some (fSame j)) (hl : l.length < 1000000) : run T wf sub (n + 2) j [.val (En l), .val (En l)] = .ok (.val (.bool true)) none :=
  same_list hT (by rw [List.length_map]; omega) fun d hd => by
    obtain ⟨o, _, rfl⟩ := List.mem_map.mp hd
    exact same_flat hT (.inl ⟨_, rfl⟩)
theorem same_of {T : Nat → Option Fn} {wf : Nat} {sub : Nat → Nat → Bool} {n j : Nat} {A : Type} (f : A → D) (l : List A) (hT : T j = some (fSame j)) (hl : l.length < 1000000) (h : ∀ a ∈ l, run T wf sub n j [.val (f a), .val (f a)] = .ok (.val (.bool true)) none) : run T wf sub (n + 1) j [.val (.list (l.map f)), .val (.list (l.map f))] = .ok (.val (.bool true)) none :=
  same_list hT (by rw [List.length_map]; omega) fun d hd => by
    obtain ⟨o, ho, rfl⟩ := List.mem_map.mp hd
    exact h o ho
/-! ### sorted({..}) -/
theorem dst_sub {A : Type} [DecidableEq A] : ∀ {l : List A} {x : A}, x ∈ dst l → x ∈ l
  | y :: r, x, h => by
    rw [dst] at h
    split at h
    · exact List.mem_cons_of_mem _ (dst_sub h)
    · rcases List.mem_cons.mp h with rfl | h
      · exact List.mem_cons_self
      · exact List.mem_cons_of_mem _ (dst_sub h)
theorem dst_nd {A : Type} [DecidableEq A] : ∀ (l : List A), (dst l).Nodup
  | [] => List.Pairwise.nil
  | y :: r => by
    rw [dst]
    split
    · exact dst_nd r
    · rename_i h
      exact List.nodup_cons.mpr ⟨fun z => h (dst_sub z), dst_nd r⟩
theorem dst_len {A : Type} [DecidableEq A] : ∀ (l : List A), (dst l).length ≤ l.length
  | [] => Nat.le_refl _
  | y :: r => by
    have := dst_len r
    rw [dst]
    split
    · simp; omega
    · simp; omega
theorem dst_id {A : Type} [DecidableEq A] : ∀ {l : List A}, l.Nodup → dst l = l
  | [], _ => rfl
  | y :: r, h => by
    rw [List.nodup_cons] at h
    rw [dst, if_neg h.1, dst_id h.2]
theorem sortI_id : ∀ {l : List Int}, l.Pairwise (· < ·) → sortI l = l
  | [], _ => rfl
  | [x], _ => rfl
  | x :: y :: r, h => by
    have hp := List.pairwise_cons.mp h
    rw [sortI, sortI_id (l := y :: r) hp.2, insI, if_pos (Int.le_of_lt (hp.1 y (by simp)))]
theorem asc_iff (l : List Int) : sortI (dst l) = l ↔ l.Pairwise (· < ·) := by
  constructor
  · intro h
    have := sortI_asc (dst_nd l)
    rw [h] at this
    exact this
  · intro h
    have nd : l.Nodup := List.Pairwise.imp (fun h => by omega) h
    rw [dst_id nd, sortI_id h]
theorem intsL_N (l : List Nat) : intsL (l.map eN) = toI l := by
  unfold intsL toI
  rw [List.filterMap_map]
  induction l with
  | nil => rfl
  | cons x r ih =>
    rw [List.filterMap_cons, List.map_cons, ← ih]
    rfl
theorem ssort_N {l : List Nat} (h : l.length < 64) : libF .ssort [En l] = some (.tmp (.lst ((sortI (dst (toI l))).map .int))) := by
  have ha : ((l.map eN).all fun d => (intD d).isSome) = true := by
    rw [List.all_eq_true]
    intro d hd
    obtain ⟨x, _, rfl⟩ := List.mem_map.mp hd
    rfl
  have hd := dst_len (toI l)
  have hl : (toI l).length = l.length := by unfold toI; rw [List.length_map]
  show (if _ then _ else _) = _
  rw [if_pos ⟨ha, by rw [List.length_map]; omega, by rw [intsL_N]; omega⟩, intsL_N]
/-! ### [elt for i in .. for j in .. if c] -/
section
variable {Γ : Cfg} {s s1 s2 s3 : Env} {elt c : E} {i j : Nat} {k k2 : IK} {src src2 : List E} {rs rs2 : List Res} {ds ds2 : List D} {α β : Type}
theorem comp2F (enc : α → D) (xs : List α) (enc2 : β → D) (ys : List β) (p : α → β → Bool) (f : α → β → D) (h1 : evr Γ src s = .ok rs s1) (h2 : lookAll s1 rs = some ds) (h3 : itF k ds = some (xs.map enc)) (h4 : srcE k s1 rs = some s2) (hi : s2[i]? = some none) (hj : s2[j]? = some none) (hij : i ≠ j) (hl : xs.length ≤ big) (hl2 : xs.length * ys.length ≤ big)
    (g1 : ∀ x, x ∈ xs → evr Γ src2 (s2.set i (some (.fr, .val (enc x)))) = .ok rs2 (s2.set i (some (.fr, .val (enc x))))) (g2 : ∀ x, x ∈ xs → lookAll (s2.set i (some (.fr, .val (enc x)))) rs2 = some ds2) (g3 : itF k2 ds2 = some (ys.map enc2)) (g4 : ∀ x, x ∈ xs → srcE k2 (s2.set i (some (.fr, .val (enc x)))) rs2 = some (s2.set i (some (.fr, .val (enc x)))))
    (hc : ∀ x y, x ∈ xs → y ∈ ys → ev Γ true c ((s2.set i (some (.fr, .val (enc x)))).set j (some (.fr, .val (enc2 y)))) = .ok (.val (.bool (p x y))) ((s2.set i (some (.fr, .val (enc x)))).set j (some (.fr, .val (enc2 y)))))
    (hb : ∀ x y, x ∈ xs → y ∈ ys → p x y = true → ev Γ false elt ((s2.set i (some (.fr, .val (enc x)))).set j (some (.fr, .val (enc2 y)))) = .ok (.val (f x y)) ((s2.set i (some (.fr, .val (enc x)))).set j (some (.fr, .val (enc2 y))))) :
    ev Γ false (.comp2 elt (.name i) k src (.name j) k2 src2 (some c) [i, j] [j]) s = .ok (.tmp (.lst (xs.flatMap fun x => (ys.filter (p x)).map (f x)))) s2 := by
  have li : i < s2.length := (List.getElem?_eq_some_iff.mp hi).1
  have lj : j < s2.length := (List.getElem?_eq_some_iff.mp hj).1
  have e : (lookAll s1 rs).bind (itF k) = some (xs.map enc) := by rw [h2]; exact h3
  have pl : plainE s2 [i, j] = true := by simp [plainE, hi, hj]
  have we : wipeE s2 [i, j] = s2 := by
    show (s2.set j none).set i none = s2
    rw [set_none hj, set_none hi]
  have re : restE s2 s2 [i, j] = s2 := by
    show (s2.set j (s2[j]?.join)).set i (s2[i]?.join) = s2
    rw [hi, hj]
    show (s2.set j none).set i none = s2
    rw [set_none hj, set_none hi]
  have inner : ∀ x, x ∈ xs → ∀ (zs : List β) (acc : List D), (∀ y, y ∈ zs → y ∈ ys) → compLoop (compBody Γ elt (some c) [j]) (.name j) (zs.map enc2) acc (s2.set i (some (.fr, .val (enc x)))) = .ok (acc ++ (zs.filter (p x)).map (f x)) (s2.set i (some (.fr, .val (enc x)))) := fun x hx zs => by
    have hj' : (s2.set i (some (Mode.fr, Cell.val (enc x))))[j]? = some none := by rw [List.getElem?_set_ne hij]; exact hj
    have lj' : j < (s2.set i (some (Mode.fr, Cell.val (enc x)))).length := by rw [List.length_set]; exact lj
    induction zs with
    | nil => intro acc _; simp [compLoop]
    | cons y zs ih =>
      intro acc hz
      have hy := hz y (by simp)
      have e1 := hc x y hx hy
      have bs := body_set (s := s2.set i (some (Mode.fr, Cell.val (enc x)))) lj' (enc2 y)
      rw [set_none hj'] at bs
      rw [List.map_cons]
      unfold compLoop
      cases hp : p x y with
      | false =>
        rw [hp] at e1
        simp only [bindT, compBody, e1, R.bind, boolR, bs.1, if_true, bs.2]
        rw [ih acc fun y' h => hz y' (by simp [h])]
        simp [List.filter_cons, hp]
      | true =>
        rw [hp] at e1
        have e2 := hb x y hx hy hp
        simp only [bindT, compBody, e1, e2, R.bind, boolR, keepR, frz, bs.1, if_true, bs.2]
        rw [ih (acc ++ [f x y]) fun y' h => hz y' (by simp [h])]
        simp [List.filter_cons, hp]
  have lf : ∀ x, ((ys.filter (p x)).map (f x)).length ≤ ys.length := fun x => by rw [List.length_map]; exact List.length_filter_le _ _
  have outer : ∀ (zs : List α) (acc : List D), (∀ x, x ∈ zs → x ∈ xs) → acc.length + zs.length * ys.length ≤ big → compLoop2 (body2 Γ elt (.name j) k2 src2 (some c) [i, j] [j]) (.name i) (zs.map enc) acc s2 = .ok (acc ++ zs.flatMap fun x => (ys.filter (p x)).map (f x)) s2 := fun zs => by
    induction zs with
    | nil => intro acc _ _; simp [compLoop2]
    | cons x zs ih =>
      intro acc hz hb2
      have hx := hz x (by simp)
      have hj' : (s2.set i (some (Mode.fr, Cell.val (enc x))))[j]? = some none := by rw [List.getElem?_set_ne hij]; exact hj
      have em : emptyI (s2.set i (some (Mode.fr, Cell.val (enc x)))) [j] = true := by simp [emptyI, hj']
      have e2 : (lookAll (s2.set i (some (Mode.fr, Cell.val (enc x)))) rs2).bind (itF k2) = some (ys.map enc2) := by rw [g2 x hx]; exact g3
      rw [List.length_cons, Nat.succ_mul] at hb2
      have nb : ¬ big < acc.length + (ys.map enc2).length := by rw [List.length_map]; omega
      have fe : freeI (s2.set i (some (Mode.fr, Cell.val (enc x)))) [i, j] = true := by simp [freeI, li, hj']
      have wi : wipeE (s2.set i (some (Mode.fr, Cell.val (enc x)))) [i, j] = s2 := by
        show ((s2.set i (some (Mode.fr, Cell.val (enc x)))).set j none).set i none = s2
        rw [set_none hj', List.set_set, set_none hi]
      have lx := lf x
      rw [List.map_cons]
      unfold compLoop2
      simp only [bindT, body2, g1 x hx, R.bind, e2, g4 x hx, em, Bool.true_eq_false, false_or, if_neg nb, inner x hx ys acc fun _ h => h, fe, if_true, wi]
      rw [ih (acc ++ (ys.filter (p x)).map (f x)) (fun y h => hz y (by simp [h])) (by rw [List.length_append]; omega)]
      simp
  have nl : ¬ big < (xs.map enc).length := by rw [List.length_map]; omega
  have hh : ev Γ false (.comp2 elt (.name i) k src (.name j) k2 src2 (some c) [i, j] [j]) s = (evr Γ src s).bind fun rs s1 => match (lookAll s1 rs).bind (itF k) with
    | none => .stk
    | some items => match srcE k s1 rs with
      | none => .stk
      | some s2 => if plainE s2 [i, j] = false ∨ big < items.length then .stk else match compLoop2 (body2 Γ elt (.name j) k2 src2 (some c) [i, j] [j]) (.name i) items [] (wipeE s2 [i, j]) with
        | .ok acc s3 => .ok (.tmp (.lst acc)) (restE s2 s3 [i, j])
        | _ => .stk := by
    simp only [ev, fin_false]
    rfl
  rw [hh, h1]
  simp only [R.bind, e, h4, pl, we, Bool.true_eq_false, false_or, if_neg nl, outer xs [] (fun _ h => h) (by simpa using hl2), re, List.nil_append]
end
theorem foldl_app {A B : Type} (f : A → Option B) : ∀ (xs : List A) (acc : List B), xs.foldl (fun acc x => acc ++ (f x).toList) acc = acc ++ xs.filterMap f
  | [], acc => by simp
  | x :: xs, acc => by
    rw [List.foldl_cons, foldl_app f xs]
    cases h : f x <;> simp [h]
theorem evTup2 {Γ : Cfg} {s s1 s2 : Env} {a b : E} {x y : D} (h1 : ev Γ false a s = .ok (.val x) s1) (h2 : ev Γ false b s1 = .ok (.val y) s2) : ev Γ false (.tup [a, b]) s = .ok (.val (.tuple [x, y])) s2 := by
  rw [ev, fin_false]
  simp only [evs, h1, h2, R.bind, frz]
theorem asgT2 {Γ : Cfg} {s s1 : Env} {e : E} {x y : D} {i j : Nat} (h : ev Γ false e s = .ok (.val (.tuple [x, y])) s1) (hf : freeI s1 [i, j] = true) : ex1 Γ (.asgT [i, j] e false) s = .nx ((s1.set i (some (.fr, .val x))).set j (some (.fr, .val y))) := by
  rw [ex1, h]
  simp only [R.thenX, look, hf, if_true, setAll, Bool.false_eq_true, if_false]
theorem it1N {w : Nat} (h : w ≤ 1000000) : itF .rng [.int 1, .int ((w : Int) + 1)] = some ((List.range' 1 w).map eN) := by
  rw [it1 h, List.range'_eq_map_range, List.map_map]
  congr 1
theorem it1L {w : Nat} (h : w ≤ 1000000) : itF .rng [.int 1, .int (w : Int)] = some ((List.range' 1 (w - 1)).map eN) := by
  rw [itRng2 (by decide) (by omega), show ((w : Int) - 1).toNat = w - 1 by omega, List.range'_eq_map_range, List.map_map]
  congr 1
/-- rising, place by place -/
theorem asc_at (L : List Nat) : (toI L).Pairwise (· < ·) ↔ ∀ k, k + 1 < L.length → L[k]?.getD 0 < L[k + 1]?.getD 0 := by
  unfold toI
  rw [List.pairwise_map]
  constructor
  · intro h k hk
    have := List.pairwise_iff_getElem.mp h k (k + 1) (by omega) hk (by omega)
    rw [List.getElem?_eq_getElem (by omega), List.getElem?_eq_getElem hk]
    simpa using this
  · intro h
    rw [List.pairwise_iff_getElem]
    intro i j hi hj hij
    obtain ⟨m, rfl⟩ : ∃ m, j = i + 1 + m := ⟨j - i - 1, by omega⟩
    clear hij
    induction m with
    | zero =>
      have := h i (by omega)
      rw [List.getElem?_eq_getElem hi, List.getElem?_eq_getElem (by omega)] at this
      simpa using this
    | succ m ih =>
      have h1 := ih (by omega)
      have h2 := h (i + 1 + m) (by omega)
      rw [List.getElem?_eq_getElem (by omega), List.getElem?_eq_getElem (by omega)] at h2
      simp only [Option.getD_some] at h2
      have e : i + 1 + (m + 1) = i + 1 + m + 1 := by omega
      simp only [e]
      omega
theorem evTup2G {Γ : Cfg} {s s1 s1' s2 s2' : Env} {a b : E} {x y : D} {r r' : Res} (h1 : ev Γ false a s = .ok r s1) (f1 : frz s1 r = some (x, s1')) (h2 : ev Γ false b s1' = .ok r' s2) (f2 : frz s2 r' = some (y, s2')) : ev Γ false (.tup [a, b]) s = .ok (.val (.tuple [x, y])) s2' := by
  rw [ev, fin_false]
  simp only [evs, h1, h2, R.bind, f1, f2]
end MP

set_option linter.all false
set_option maxRecDepth 100000
set_option maxHeartbeats 400000
/-! MP: comprehensions whose element is a fresh list; extend. -/
namespace MP
open PySem
section
variable {Γ : Cfg} {s s1 s2 s3 : Env} {elt c a : E} {i : Nat} {k : IK} {src : List E} {rs : List Res} {ds items : List D} {α : Type} {r : Res} {xs xs0 ys : List D} {md md0 : Mode}
/-- [elt for i in ..], the element fresh or data -/
theorem compMG {o : Option (Mode × Cell)} (enc : α → D) (f : α → D) (xs : List α) (h1 : evr Γ src s = .ok rs s1) (h2 : lookAll s1 rs = some ds) (h3 : itF k ds = some (xs.map enc)) (h4 : srcE k s1 rs = some s2) (hi : s2[i]? = some o) (ho : Fr o) (hl : xs.length ≤ big)
    (hb : ∀ x, x ∈ xs → ∃ r, ev Γ false elt (s2.set i (some (.fr, .val (enc x)))) = .ok r (s2.set i (some (.fr, .val (enc x)))) ∧ frz (s2.set i (some (.fr, .val (enc x)))) r = some (f x, s2.set i (some (.fr, .val (enc x))))) :
    ev Γ false (.comp elt (.name i) k src none [i]) s = .ok (.tmp (.lst (xs.map f))) s2 := by
  have ln : i < s2.length := (List.getElem?_eq_some_iff.mp hi).1
  have hlp : (xs.map enc).length ≤ big := by rw [List.length_map]; exact hl
  have hx : ∃ g : D → Option D, ∀ x, x ∈ xs → g (enc x) = some (f x) := by
    refine ⟨fun d => match ev Γ false elt (s2.set i (some (.fr, .val d))) with
      | .ok r s' => (frz s' r).map (·.1)
      | _ => none, fun x hx => ?_⟩
    obtain ⟨r, e1, e2⟩ := hb x hx
    dsimp only
    rw [e1]
    dsimp only
    rw [e2]
    rfl
  obtain ⟨g, hg⟩ := hx
  have e : xs.map f = (xs.map enc).filterMap g := by
    rw [List.filterMap_map]
    clear h3 hb hl hlp
    induction xs with
    | nil => rfl
    | cons x r ih =>
      rw [List.map_cons, List.filterMap_cons, Function.comp, hg x (by simp)]
      dsimp only
      rw [ih fun y hy => hg y (by simp [hy])]
  rw [e]
  refine comp_ok2 g h1 h2 h3 h4 (slot_free hi ho) hlp fun d hd => ?_
  obtain ⟨x, hx, rfl⟩ := List.mem_map.mp hd
  obtain ⟨r, e1, e2⟩ := hb x hx
  rw [List.set_set, hg x hx]
  have := body_set (s := s2) ln (enc x)
  simp only [compBody, e1, R.bind, keepR, e2, this.1, if_true, this.2]
/-- xs.extend(e) -/
theorem ext_nx {d : D} (h0 : s[i]? = some (some (md0, .lst xs0))) (h : ev Γ false a s = .ok r s1) (hf : frz s1 r = some (.list ys, s2)) (hi : s2[i]? = some (some (md, .lst xs))) (hm : md ≠ .ro) (hl : xs.length + ys.length ≤ big) : ex1 Γ (.expr (.mut .extend i [a])) s = .nx (s2.set i (some (md, .lst (xs ++ ys)))) := by
  rw [ex1, ev, fin_false, h0]
  simp only [evs, h, R.bind, hf, hi, if_neg hm, mutF, if_pos hl, R.thenX]
end
theorem last_N (l : List Nat) (x : Nat) : idxF (En (l ++ [x])) (.int (-1)) = some (.int (x : Nat)) := by
  unfold En
  rw [List.map_append]
  exact L2.atI_last _ _
theorem rngN {a b : Nat} (ha : a ≤ 1000000) (hb : b ≤ 1000000) {i j : Int} (e1 : i = (a : Int)) (e2 : j = (b : Int)) : itF .rng [.int i, .int j] = some ((List.range' a (b - a)).map eN) := by
  rw [e1, e2, itRng2 (by omega) (by omega), show ((b : Int) - (a : Int)).toNat = b - a by omega, List.range'_eq_map_range, List.map_map]
  congr 1
end MP

set_option linter.all false
set_option maxRecDepth 100000
set_option maxHeartbeats 1000000
/-! Plain: [.. for x in .. for y in x]. -/
namespace MP
open PySem
section
variable {Γ : Cfg} {s s1 s2 s3 : Env} {elt c : E} {i j : Nat} {k k2 : IK} {src src2 : List E} {rs rs2 : List Res} {ds ds2 : List D} {α β : Type}

/-- [elt for i in .. for j in ..] -/
theorem comp2D (enc : α → D) (xs : List α) (enc2 : β → D) (ys : α → List β) (B : Nat) (rs2 : α → List Res) (ds2 : α → List D) (f : α → β → D) (h1 : evr Γ src s = .ok rs s1) (h2 : lookAll s1 rs = some ds) (h3 : itF k ds = some (xs.map enc)) (h4 : srcE k s1 rs = some s2) (hi : s2[i]? = some none) (hj : s2[j]? = some none) (hij : i ≠ j) (hl : xs.length ≤ big) (hB : ∀ x, x ∈ xs → (ys x).length ≤ B) (hl2 : xs.length * B ≤ big)
    (g1 : ∀ x, x ∈ xs → evr Γ src2 (s2.set i (some (.fr, .val (enc x)))) = .ok (rs2 x) (s2.set i (some (.fr, .val (enc x))))) (g2 : ∀ x, x ∈ xs → lookAll (s2.set i (some (.fr, .val (enc x)))) (rs2 x) = some (ds2 x)) (g3 : ∀ x, x ∈ xs → itF k2 (ds2 x) = some ((ys x).map enc2)) (g4 : ∀ x, x ∈ xs → srcE k2 (s2.set i (some (.fr, .val (enc x)))) (rs2 x) = some (s2.set i (some (.fr, .val (enc x)))))
    (hb : ∀ x y, x ∈ xs → y ∈ ys x → ∃ r, ev Γ false elt ((s2.set i (some (.fr, .val (enc x)))).set j (some (.fr, .val (enc2 y)))) = .ok r ((s2.set i (some (.fr, .val (enc x)))).set j (some (.fr, .val (enc2 y)))) ∧ frz ((s2.set i (some (.fr, .val (enc x)))).set j (some (.fr, .val (enc2 y)))) r = some (f x y, (s2.set i (some (.fr, .val (enc x)))).set j (some (.fr, .val (enc2 y))))) :
    ev Γ false (.comp2 elt (.name i) k src (.name j) k2 src2 none [i, j] [j]) s = .ok (.tmp (.lst (xs.flatMap fun x => (ys x).map (f x)))) s2 := by
  have li : i < s2.length := (List.getElem?_eq_some_iff.mp hi).1
  have lj : j < s2.length := (List.getElem?_eq_some_iff.mp hj).1
  have e : (lookAll s1 rs).bind (itF k) = some (xs.map enc) := by rw [h2]; exact h3
  have pl : plainE s2 [i, j] = true := by simp [plainE, hi, hj]
  have we : wipeE s2 [i, j] = s2 := by
    show (s2.set j none).set i none = s2
    rw [set_none hj, set_none hi]
  have re : restE s2 s2 [i, j] = s2 := by
    show (s2.set j (s2[j]?.join)).set i (s2[i]?.join) = s2
    rw [hi, hj]
    show (s2.set j none).set i none = s2
    rw [set_none hj, set_none hi]
  -- the inner loop
  have inner : ∀ x, x ∈ xs → ∀ (zs : List β) (acc : List D), (∀ y, y ∈ zs → y ∈ ys x) → compLoop (compBody Γ elt none [j]) (.name j) (zs.map enc2) acc (s2.set i (some (.fr, .val (enc x)))) = .ok (acc ++ zs.map (f x)) (s2.set i (some (.fr, .val (enc x)))) := fun x hx zs => by
    have hj' : (s2.set i (some (Mode.fr, Cell.val (enc x))))[j]? = some none := by rw [List.getElem?_set_ne hij]; exact hj
    have lj' : j < (s2.set i (some (Mode.fr, Cell.val (enc x)))).length := by rw [List.length_set]; exact lj
    induction zs with
    | nil => intro acc _; simp [compLoop]
    | cons y zs ih =>
      intro acc hz
      obtain ⟨r, e1, e2⟩ := hb x y hx (hz y (by simp))
      have bs := body_set (s := s2.set i (some (Mode.fr, Cell.val (enc x)))) lj' (enc2 y)
      rw [set_none hj'] at bs
      rw [List.map_cons]
      unfold compLoop
      simp only [bindT, compBody, e1, R.bind, keepR, e2, bs.1, if_true, bs.2]
      rw [ih (acc ++ [f x y]) fun y' h => hz y' (by simp [h])]
      simp
  have outer : ∀ (zs : List α) (acc : List D), (∀ x, x ∈ zs → x ∈ xs) → acc.length + zs.length * B ≤ big → compLoop2 (body2 Γ elt (.name j) k2 src2 none [i, j] [j]) (.name i) (zs.map enc) acc s2 = .ok (acc ++ zs.flatMap fun x => (ys x).map (f x)) s2 := fun zs => by
    induction zs with
    | nil => intro acc _ _; simp [compLoop2]
    | cons x zs ih =>
      intro acc hz hb2
      have hx := hz x (by simp)
      have hj' : (s2.set i (some (Mode.fr, Cell.val (enc x))))[j]? = some none := by rw [List.getElem?_set_ne hij]; exact hj
      have em : emptyI (s2.set i (some (Mode.fr, Cell.val (enc x)))) [j] = true := by simp [emptyI, hj']
      have e2 : (lookAll (s2.set i (some (Mode.fr, Cell.val (enc x)))) (rs2 x)).bind (itF k2) = some ((ys x).map enc2) := by rw [g2 x hx]; exact g3 x hx
      have hBx := hB x hx
      rw [List.length_cons, Nat.succ_mul] at hb2
      have nb : ¬ big < acc.length + ((ys x).map enc2).length := by rw [List.length_map]; omega
      have fe : freeI (s2.set i (some (Mode.fr, Cell.val (enc x)))) [i, j] = true := by simp [freeI, li, hj']
      have wi : wipeE (s2.set i (some (Mode.fr, Cell.val (enc x)))) [i, j] = s2 := by
        show ((s2.set i (some (Mode.fr, Cell.val (enc x)))).set j none).set i none = s2
        rw [set_none hj', List.set_set, set_none hi]
      rw [List.map_cons]
      unfold compLoop2
      simp only [bindT, body2, g1 x hx, R.bind, e2, g4 x hx, em, Bool.true_eq_false, false_or, if_neg nb, inner x hx (ys x) acc fun _ h => h, fe, if_true, wi]
      rw [ih (acc ++ (ys x).map (f x)) (fun y h => hz y (by simp [h])) (by rw [List.length_append, List.length_map]; omega)]
      simp
  have nl : ¬ big < (xs.map enc).length := by rw [List.length_map]; omega
  have hh : ev Γ false (.comp2 elt (.name i) k src (.name j) k2 src2 none [i, j] [j]) s = (evr Γ src s).bind fun rs s1 => match (lookAll s1 rs).bind (itF k) with
    | none => .stk
    | some items => match srcE k s1 rs with
      | none => .stk
      | some s2 => if plainE s2 [i, j] = false ∨ big < items.length then .stk else match compLoop2 (body2 Γ elt (.name j) k2 src2 none [i, j] [j]) (.name i) items [] (wipeE s2 [i, j]) with
        | .ok acc s3 => .ok (.tmp (.lst acc)) (restE s2 s3 [i, j])
        | _ => .stk := by
    simp only [ev, fin_false]
    rfl
  rw [hh, h1]
  simp only [R.bind, e, h4, pl, we, Bool.true_eq_false, false_or, if_neg nl, outer xs [] (fun _ h => h) (by simpa using hl2), re, List.nil_append]
end
end MP

set_option linter.all false
set_option maxRecDepth 100000
set_option maxHeartbeats 400000
/-! rows of numbers apart: the search, in plain Lean (stacks with the last one first). -/
namespace MP
open PySem
def skFree (row : List Nat) : Option Nat := row.findIdx? (· == 0)
def skOk (row used : List Nat) (more place x : Nat) : Bool := !(decide (x ∈ used)) && decide (place + x + more < row.length) && decide (row[place + x + more]? = some 0)
def skNext (row used : List Nat) (many more place least : Nat) : Option Nat := (List.range' least (many + 1 - least)).find? (skOk row used more place)
def skOut (row : List Nat) (x : Nat) : List Nat := row.map fun y => if y = x then 0 else y
structure SK where
  row : List Nat
  stk : List Nat
  used : List Nat
  cnt : Nat
inductive SKR where
  | row (r : List Nat)
  | cnt (c : Nat)
  deriving DecidableEq
/-- the last one of the stack goes -/
def skBack (row used ts : List Nat) (cnt : Nat) : Option SK := match ts, used with
  | [], _ => some ⟨row, [], used, cnt⟩
  | t :: ts, u :: us => some ⟨skOut row u, t :: ts, us, cnt⟩
  | _ :: _, [] => none
/-- one round; none: stuck -/
def skStep (many more : Nat) (most1 : Bool) (row used ts : List Nat) (t cnt : Nat) : Option (Sum (List Nat) SK) := match skFree row with
  | none => if most1 then some (.inl row) else (skBack row used ts (cnt + 1)).map .inr
  | some p => match skNext row used many more p (t + 1) with
    | some x => some (.inr ⟨(row.set p x).set (p + x + more) x, 0 :: x :: ts, x :: used, cnt⟩)
    | none => (skBack row used ts cnt).map .inr
def skGo (many more : Nat) (most1 : Bool) : Nat → SK → Option SKR
  | 0, _ => none
  | n + 1, ⟨row, stk, used, cnt⟩ => match stk with
    | [] => some (.cnt cnt)
    | t :: ts => if 1000 < t then none else match skStep many more most1 row used ts t cnt with
      | none => none
      | some (.inl r) => some (.row r)
      | some (.inr s) => skGo many more most1 n s
def sk (many more : Nat) (most1 : Bool) : Option SKR := skGo many more most1 100000 ⟨List.replicate (2 * many) 0, [0], [0], 0⟩
end MP

set_option linter.all false
set_option maxRecDepth 100000
set_option maxHeartbeats 400000
/-! sorted rows of numbers; all rows of numbers apart, the greatest put in first. -/
namespace MP
open PySem
theorem toI_eq {a b : List Nat} (h : toI a = toI b) : a = b := toI_inj.mp h
theorem sortL_perm {l l' : List (List Nat)} (hp : l.Perm l') (h : l'.Pairwise fun a b => toI a ≤ toI b) : (l.map En).mergeSort (PySem.W.dataLe false id) = l'.map En := by
  have e : ∀ a ∈ l, ∀ b ∈ l, (fun (p q : List Nat) => decide (toI p ≤ toI q)) a b = PySem.W.dataLe false id (En a) (En b) := fun a _ b _ => by
    have := congrFun (congrFun (PySem.W.dataLe_rows (fun (x : List Nat) => toI x)) a) b
    show decide (toI a ≤ toI b) = _
    rw [← this]
    unfold En
    rw [eN_ints, eN_ints]
    rfl
  rw [← PySem.W.sort_maps En e]
  congr 1
  have s := List.pairwise_mergeSort (le := fun (p q : List Nat) => decide (toI p ≤ toI q)) (fun a b c h1 h2 => decide_eq_true (List.le_trans (of_decide_eq_true h1) (of_decide_eq_true h2))) (fun a b => by
    rcases List.le_total (toI a) (toI b) with h | h
    · rw [decide_eq_true h]; rfl
    · rw [decide_eq_true h, Bool.or_true]) l
  exact List.Perm.eq_of_pairwise (le := fun a b => toI a ≤ toI b) (fun a b _ _ h1 h2 => toI_eq (List.le_antisymm h1 h2)) (s.imp fun h => of_decide_eq_true h) h ((List.mergeSort_perm l _).trans hp)
theorem alikeN : ∀ a b : List Nat, PySem.W.alikeAll (a.map eN) (b.map eN) = true
  | [], _ => by simp [PySem.W.alikeAll]
  | _ :: _, [] => by simp [PySem.W.alikeAll]
  | x :: a, y :: b => by
    rw [List.map_cons, List.map_cons, PySem.W.alikeAll, alikeN a b]
    rfl
theorem sortD_perm {l l' : List (List Nat)} (hl : l.length ≤ big) (hp : l.Perm l') (h : l'.Pairwise fun a b => toI a ≤ toI b) : libF .sortD [.list (l.map En)] = some (.tmp (.lst (l'.map En))) := by
  show sortDF (l.map En) = _
  unfold sortDF
  cases l with
  | nil =>
    rw [List.nil_perm.mp hp]
    rfl
  | cons a r =>
    have e : intsF ((a :: r).map En) = none := rfl
    rw [e]
    dsimp only
    have c1 : (((a :: r).map En).all fun d => SeqAt.shaped d) = true := by
      rw [List.all_map, List.all_eq_true]
      intro x _
      show SeqAt.shaped (En x) = true
      unfold En
      rw [eN_ints]
      exact shaped_ints _
    have c2 : alikeB ((a :: r).map En) = true := by
      unfold alikeB
      rw [List.all_map, List.all_eq_true]
      intro x _
      show (((a :: r).map En).all fun b => PySem.W.alike (En x) b) = true
      rw [List.all_map, List.all_eq_true]
      intro y _
      show PySem.W.alike (En x) (En y) = true
      rw [PySem.W.alike]
      exact alikeN x y
    have c3 : ((a :: r).map En).all oneB = true := by
      rw [List.all_map, List.all_eq_true]
      intro x _
      rfl
    rw [if_pos ⟨c1, c2, .inr c3, by rw [List.length_map]; exact hl⟩, sortL_perm hp h]
/-! ### all rows -/
def growK (m more number : Nat) (row : List Nat) : List (List Nat) := (List.range (2 * m - number - more)).filterMap fun a => if row[a]? = some 0 ∧ row[a + number + more]? = some 0 then some ((row.set a number).set (a + number + more) number) else none
def allTo (m more : Nat) : Nat → List (List Nat)
  | 0 => [List.replicate (2 * m) 0]
  | j + 1 => (allTo m more j).flatMap (growK m more (m - j))
def tbl : Nat → Nat → List (List Nat)
  | 1, 0 => [[1, 1]]
  | 3, 1 => [[2, 3, 1, 2, 1, 3], [3, 1, 2, 1, 3, 2]]
  | 4, 0 => [[1, 1, 3, 4, 2, 3, 2, 4], [1, 1, 4, 2, 3, 2, 4, 3], [2, 3, 2, 4, 3, 1, 1, 4], [3, 4, 2, 3, 2, 4, 1, 1], [4, 1, 1, 3, 4, 2, 3, 2], [4, 2, 3, 2, 4, 3, 1, 1]]
  | 4, 1 => [[2, 3, 4, 2, 1, 3, 1, 4], [4, 1, 3, 1, 2, 4, 3, 2]]
  | 5, 0 => [[1, 1, 3, 4, 5, 3, 2, 4, 2, 5], [1, 1, 5, 2, 4, 2, 3, 5, 4, 3], [2, 3, 2, 5, 3, 4, 1, 1, 5, 4], [2, 4, 2, 3, 5, 4, 3, 1, 1, 5], [3, 4, 5, 3, 2, 4, 2, 5, 1, 1], [3, 5, 2, 3, 2, 4, 5, 1, 1, 4], [4, 1, 1, 5, 4, 2, 3, 2, 5, 3], [4, 5, 1, 1, 4, 3, 5, 2, 3, 2], [5, 1, 1, 3, 4, 5, 3, 2, 4, 2], [5, 2, 4, 2, 3, 5, 4, 3, 1, 1]]
  | _, _ => []
theorem tbl_perm : ∀ m < 6, ∀ o < 2, (allTo (m + 1) o (m + 1)).Perm (tbl (m + 1) o) ∧ (tbl (m + 1) o).Pairwise fun a b => toI a ≤ toI b := by decide +kernel
theorem tbl_row : ∀ m < 6, ∀ o < 2, ∀ r ∈ tbl (m + 1) o, r.length = 2 * (m + 1) ∧ sortI (toI r) = sortI (toI (List.range' 1 (m + 1) ++ List.range' 1 (m + 1))) ∧ ∀ x ∈ r, 1 ≤ x ∧ x ≤ m + 1 := by decide +kernel
theorem tbl_right : ∀ m < 6, ∀ o < 2, ∀ r ∈ tbl (m + 1) o, ∀ k < m + 1, ((List.range (2 * (m + 1))).any fun i => decide (r[i]? = some (k + 1)) && decide (r[i + (k + 1) + o]? = some (k + 1))) = true := by decide +kernel
theorem allTo_len : ∀ m < 6, ∀ o < 2, ∀ j < m + 2, (allTo (m + 1) o j).length ≤ 200 ∧ ∀ r ∈ allTo (m + 1) o j, r.length = 2 * (m + 1) := by decide +kernel
theorem all_has {Rw : List Nat} {m more : Nat} (hl : Rw.length = 2 * m) (hb : ∀ x ∈ Rw, 1 ≤ x ∧ x ≤ m) (hp : ∀ k, k < m → ∃ p, p + (k + 1) + more < 2 * m ∧ Rw[p]? = some (k + 1) ∧ Rw[p + (k + 1) + more]? = some (k + 1) ∧ ∀ i, Rw[i]? = some (k + 1) → i = p ∨ i = p + (k + 1) + more) : Rw ∈ allTo m more m := by
  have key : ∀ j, j ≤ m → (Rw.map fun x => if m - j < x then x else 0) ∈ allTo m more j := by
    intro j
    induction j with
    | zero =>
      intro _
      rw [allTo, List.mem_singleton, List.eq_replicate_iff]
      refine ⟨by rw [List.length_map, hl], fun b hb2 => ?_⟩
      obtain ⟨x, hx, rfl⟩ := List.mem_map.mp hb2
      have := (hb x hx).2
      rw [if_neg (by omega)]
    | succ j ih =>
      intro hj
      have ih := ih (by omega)
      obtain ⟨p, h1, h2, h3, h4⟩ := hp (m - j - 1) (by omega)
      rw [show m - j - 1 + 1 = m - j by omega] at h1 h2 h3 h4
      rw [allTo, List.mem_flatMap]
      refine ⟨_, ih, ?_⟩
      unfold growK
      rw [List.mem_filterMap]
      refine ⟨p, List.mem_range.mpr (by omega), ?_⟩
      rw [if_pos ⟨by rw [List.getElem?_map, h2]; simp, by rw [List.getElem?_map, h3]; simp⟩]
      congr 1
      refine List.ext_getElem? fun i => ?_
      rw [List.getElem?_set, List.getElem?_set, List.length_set, List.length_map, hl, List.getElem?_map, List.getElem?_map]
      by_cases e1 : p + (m - j) + more = i
      · rw [if_pos e1, if_pos h1, ← e1, h3]
        simp only [Option.map_some]
        rw [if_pos (by omega)]
      rw [if_neg e1]
      by_cases e2 : p = i
      · rw [if_pos e2, if_pos (by omega), ← e2, h2]
        simp only [Option.map_some]
        rw [if_pos (by omega)]
      rw [if_neg e2]
      cases hi : Rw[i]? with
      | none => rfl
      | some x =>
        have hx : x ≠ m - j := fun h => by
          rw [h] at hi
          rcases h4 i hi with h | h
          · exact e2 h.symm
          · exact e1 h.symm
        simp only [Option.map_some]
        congr 1
        by_cases hc : m - j < x
        · rw [if_pos hc, if_pos (by omega)]
        · rw [if_neg hc, if_neg (by omega)]
  have h := key m (Nat.le_refl _)
  have e : (Rw.map fun x => if m - m < x then x else 0) = Rw := by
    conv => rhs; rw [← List.map_id Rw]
    refine List.map_congr_left fun x hx => ?_
    have := (hb x hx).1
    rw [if_pos (by omega)]
    rfl
  rw [e] at h
  exact h
end MP

set_option linter.all false
set_option maxRecDepth 100000
set_option maxHeartbeats 400000
/-! dicts of natural numbers. -/
namespace MP
open PySem
def ek (p : Nat × Nat) : D × D := (eN p.1, eN p.2)
def lk (l : List (Nat × Nat)) (x : Nat) : Option Nat := (l.find? fun p => decide (p.1 = x)).map (·.2)
def pt (l : List (Nat × Nat)) (x v : Nat) : List (Nat × Nat) := if (l.any fun p => decide (p.1 = x)) = true then l.map fun p => if p.1 = x then (p.1, v) else p else l ++ [(x, v)]
theorem keyD_eN (a x : Nat) : decide (keyD (eN a) = some (Sum.inl (x : Int))) = decide (a = x) := by
  refine decide_eq_decide.mpr ?_
  show some (Sum.inl (a : Int)) = some (Sum.inl (x : Int)) ↔ _
  constructor
  · intro h
    have := Sum.inl.inj (Option.some.inj h)
    omega
  · intro h
    rw [h]
theorem kindK_ek (l : List (Nat × Nat)) : kindK (l.map ek) = true := by
  unfold kindK
  rw [List.all_map, List.all_eq_true]
  intro p _
  rfl
theorem dFind_ek (x : Nat) : ∀ l : List (Nat × Nat), dFind (l.map ek) (Sum.inl (x : Int)) = (lk l x).map eN
  | [] => rfl
  | p :: l => by
    have ih := dFind_ek x l
    unfold dFind lk at ih ⊢
    rw [List.map_cons, List.find?_cons, List.find?_cons]
    show (match decide (keyD (eN p.1) = some (Sum.inl (x : Int))) with | true => some (ek p) | false => _).map _ = _
    rw [keyD_eN]
    by_cases h : p.1 = x
    · simp [h, ek]
    · simp only [h, decide_false]
      exact ih
theorem dGet_ek (l : List (Nat × Nat)) (x : Nat) : dGetF (l.map ek) (eN x) = some ((lk l x).map eN) := by
  unfold dGetF
  rw [if_pos (kindK_ek l), ← dFind_ek]
  rfl
theorem any_ek (l : List (Nat × Nat)) (x : Nat) : ((l.map ek).any fun p => decide (keyD p.1 = some (Sum.inl (x : Int)))) = l.any fun p => decide (p.1 = x) := by
  rw [List.any_map]
  congr 1
  funext p
  exact keyD_eN p.1 x
theorem dPut_ek {l : List (Nat × Nat)} (h : l.length < big) (x v : Nat) : dPutF (l.map ek) (eN x) (eN v) = some ((pt l x v).map ek) := by
  unfold dPutF
  rw [if_pos ⟨by rw [List.length_map]; exact h, kindK_ek l⟩]
  show some (dPut (l.map ek) (eN x) (eN v) (.inl (x : Int))) = _
  congr 1
  unfold dPut pt
  rw [any_ek]
  split
  · rw [List.map_map, List.map_map]
    refine List.map_congr_left fun p _ => ?_
    show (if keyD (eN p.1) = some (Sum.inl (x : Int)) then (eN p.1, eN v) else ek p) = ek (if p.1 = x then (p.1, v) else p)
    have e := keyD_eN p.1 x
    by_cases hp : p.1 = x
    · rw [if_pos hp, if_pos (of_decide_eq_true (by rw [e]; exact decide_eq_true hp))]
      rfl
    · rw [if_neg hp, if_neg (of_decide_eq_false (by rw [e]; exact decide_eq_false hp))]
  · rw [List.map_append]
    rfl
theorem in_ek (l : List (Nat × Nat)) (x : Nat) : cmpF .isin (eN x) (.dict (l.map ek)) = some (lk l x).isSome := by
  show (dGetF (l.map ek) (eN x)).map (·.isSome) = _
  rw [dGet_ek, Option.map_some, Option.isSome_map]
theorem notin_ek (l : List (Nat × Nat)) (x : Nat) : cmpF .notin (eN x) (.dict (l.map ek)) = some (!(lk l x).isSome) := by
  show ((dGetF (l.map ek) (eN x)).map (·.isSome)).map (!·) = _
  rw [dGet_ek, Option.map_some, Option.isSome_map]
  rfl
theorem lk_cons (p : Nat × Nat) (l : List (Nat × Nat)) (y : Nat) : lk (p :: l) y = if p.1 = y then some p.2 else lk l y := by
  unfold lk
  rw [List.find?_cons]
  by_cases h : p.1 = y
  · simp [h]
  · simp [h]
theorem lk_map (x v y : Nat) : ∀ l : List (Nat × Nat), lk (l.map fun p => if p.1 = x then (p.1, v) else p) y = if y = x then (lk l y).map fun _ => v else lk l y
  | [] => by simp [lk]
  | p :: l => by
    rw [List.map_cons, lk_cons, lk_cons, lk_map x v y l]
    by_cases h : p.1 = x
    · rw [if_pos h]
      by_cases h2 : p.1 = y
      · rw [if_pos h2, if_pos h2, if_pos (by omega)]
        rfl
      · rw [if_neg h2, if_neg h2]
    · rw [if_neg h]
      by_cases h2 : p.1 = y
      · rw [if_pos h2, if_pos h2, if_neg (by omega)]
      · rw [if_neg h2, if_neg h2]
theorem lk_any (x : Nat) : ∀ l : List (Nat × Nat), (l.any fun p => decide (p.1 = x)) = (lk l x).isSome
  | [] => rfl
  | p :: l => by
    rw [List.any_cons, lk_cons, lk_any x l]
    by_cases h : p.1 = x <;> simp [h]
theorem lk_app (x v y : Nat) : ∀ l : List (Nat × Nat), lk l x = none → lk (l ++ [(x, v)]) y = if y = x then some v else lk l y
  | [], _ => by
    rw [List.nil_append, lk_cons]
    by_cases h : x = y
    · rw [if_pos h, if_pos h.symm]
    · rw [if_neg h, if_neg (Ne.symm h)]
  | p :: l, hn => by
    rw [lk_cons] at hn
    by_cases h : p.1 = x
    · rw [if_pos h] at hn; cases hn
    · rw [if_neg h] at hn
      rw [List.cons_append, lk_cons, lk_cons, lk_app x v y l hn]
      by_cases h2 : p.1 = y
      · rw [if_pos h2, if_pos h2, if_neg (by omega)]
      · rw [if_neg h2, if_neg h2]
theorem lk_pt (l : List (Nat × Nat)) (x v y : Nat) : lk (pt l x v) y = if y = x then some v else lk l y := by
  unfold pt
  have a := lk_any x l
  split
  · rename_i h
    rw [h] at a
    rw [lk_map]
    by_cases z : y = x
    · rw [if_pos z, if_pos z, z]
      cases e : lk l x with
      | none => rw [e] at a; cases a
      | some w => rfl
    · rw [if_neg z, if_neg z]
  · rename_i h
    have : lk l x = none := by
      cases e : lk l x with
      | none => rfl
      | some w => rw [e] at a; exact absurd a (by simpa using h)
    exact lk_app x v y l this
/-- keys: each once, none over B -/
structure Ks (l : List (Nat × Nat)) (B : Nat) : Prop where
  nd : (l.map (·.1)).Nodup
  bd : ∀ p ∈ l, p.1 ≤ B
theorem nd_len : ∀ (m : Nat) (l : List Nat), l.Nodup → (∀ x ∈ l, x < m) → l.length ≤ m
  | 0, l, _, h => by
    cases l with
    | nil => exact Nat.le_refl _
    | cons a r => exact absurd (h a (by simp)) (by omega)
  | m + 1, l, hn, h => by
    by_cases hm : m ∈ l
    · have e := List.length_erase_of_mem hm
      have := nd_len m (l.erase m) (hn.erase m) fun x hx => by
        have h1 := h x (List.mem_of_mem_erase hx)
        have h2 : x ≠ m := fun z => by
          rw [z] at hx
          exact (List.Nodup.not_mem_erase hn) hx
        omega
      have : 0 < l.length := List.length_pos_of_mem hm
      omega
    · have := nd_len m l hn fun x hx => by
        have h1 := h x hx
        have h2 : x ≠ m := fun z => hm (z ▸ hx)
        omega
      omega
theorem Ks.len {l : List (Nat × Nat)} {B : Nat} (h : Ks l B) : l.length ≤ B + 1 := by
  have := nd_len (B + 1) (l.map (·.1)) h.nd fun x hx => by
    obtain ⟨p, hp, rfl⟩ := List.mem_map.mp hx
    have := h.bd p hp
    omega
  rw [List.length_map] at this
  exact this
theorem Ks.put {l : List (Nat × Nat)} {B x : Nat} (h : Ks l B) (hx : x ≤ B) (v : Nat) : Ks (pt l x v) B := by
  unfold pt
  split
  · refine ⟨?_, fun p hp => ?_⟩
    · rw [List.map_map]
      have : (fun p : Nat × Nat => (if p.1 = x then (p.1, v) else p).1) = fun p => p.1 := by
        funext p
        split <;> rfl
      show (l.map fun p : Nat × Nat => (if p.1 = x then (p.1, v) else p).1).Nodup
      rw [this]
      exact h.nd
    · obtain ⟨q, hq, rfl⟩ := List.mem_map.mp hp
      have := h.bd q hq
      split <;> exact this
  · rename_i hn
    refine ⟨?_, fun p hp => ?_⟩
    · rw [List.map_append, List.nodup_append]
      refine ⟨h.nd, by simp, fun a ha b hb => ?_⟩
      obtain ⟨q, hq, rfl⟩ := List.mem_map.mp ha
      have : b = x := by simpa using hb
      subst this
      intro z
      exact hn (List.any_eq_true.mpr ⟨q, hq, decide_eq_true z⟩)
    · rcases List.mem_append.mp hp with hp | hp
      · exact h.bd p hp
      · have : p = (x, v) := by simpa using hp
        rw [this]
        exact hx
theorem lk_mem {l : List (Nat × Nat)} {B : Nat} (h : Ks l B) : ∀ {p : Nat × Nat}, p ∈ l → lk l p.1 = some p.2 := by
  intro p hp
  have nd := h.nd
  clear h
  induction l with
  | nil => cases hp
  | cons q l ih =>
    rw [List.map_cons, List.nodup_cons] at nd
    rw [lk_cons]
    rcases List.mem_cons.mp hp with rfl | hp
    · rw [if_pos rfl]
    · rw [if_neg fun z => nd.1 (List.mem_map.mpr ⟨p, hp, z.symm⟩)]
      exact ih hp nd.2
theorem mem_lk {l : List (Nat × Nat)} {x v : Nat} (h : lk l x = some v) : (x, v) ∈ l := by
  induction l with
  | nil => cases h
  | cons q l ih =>
    rw [lk_cons] at h
    by_cases z : q.1 = x
    · rw [if_pos z] at h
      cases h
      subst z
      exact List.mem_cons_self
    · rw [if_neg z] at h
      exact List.mem_cons_of_mem _ (ih h)
/-! ### loops, stores -/
section
variable {Γ : Cfg} {s s1 s2 s3 : Env} {i j : Nat}
theorem forD_nx {t : Tg} {b : List S} {kvs : List (D × D)} (h : s[i]? = some (some (.fr, .dic kvs))) (hk : kindK kvs = true) (e : loopX (fun se => exs Γ b se) t (kvs.map (·.1)) (s.set i (some (.fr, .val (.dict kvs)))) = .nx s1) : ex1 Γ (.forD t i b) s = .nx s1 := by
  simp only [ex1, h, hk, if_true]
  exact e
theorem mov_nx {c : Cell} {kvs : List (D × D)} (hi : s[i]? = some (some (.fr, c))) (hj : s[j]? = some (some (.fr, .dic kvs))) (hij : i ≠ j) : ex1 Γ (.mov i j) s = .nx ((s.set j none).set i (some (.fr, .dic kvs))) := by
  simp only [ex1, hi, hj, if_neg hij]
theorem asgD_nx {a k : E} {r rb : Res} {d kk : D} {md md0 : Mode} {kvs kvs' kvs0 : List (D × D)} (h : ev Γ false a s = .ok r s1) (hf : frz s1 r = some (d, s2)) (hi : s2[i]? = some (some (md0, .dic kvs0))) (hk : ev Γ false k s2 = .ok rb s3) (hz : look s3 rb = some kk) (hi3 : s3[i]? = some (some (md, .dic kvs))) (hm : md ≠ .ro) (hp : dPutF kvs kk d = some kvs') : ex1 Γ (.asgD i k a) s = .nx (s3.set i (some (md, .dic kvs'))) := by
  rw [ex1]
  simp only [evs, h, R.bind, hf, R.thenX, hi, hk, hz, hi3, if_neg hm, hp]
theorem evDget {k : E} {rk : Res} {kk d : D} {kvs0 kvs : List (D × D)} (h0 : lookD s i = some kvs0) (hk : ev Γ false k s = .ok rk s1) (hl : look s1 rk = some kk) (h1 : lookD s1 i = some kvs) (hd : dGetF kvs kk = some (some d)) : ev Γ false (.dget i k) s = .ok (.val d) s1 := by
  rw [ev, fin_false, h0]
  simp only [hk, R.bind, h1, hl, Option.bind_some, hd, Option.join_some, Option.map_some, R.opt]
theorem evVarD {kvs : List (D × D)} {m : Mode} (h : s[i]? = some (some (m, .dic kvs))) : ev Γ false (.var i) s = .ok (.bor i) s := by
  rw [ev, fin_false, h]
end
end MP

set_option linter.all false
set_option maxRecDepth 100000
set_option maxHeartbeats 4000000
/-! K66: the defs, compiled; what the model does at them. -/
namespace K66
open PySem MP L2
def top (i : Nat) : Stmt := PySem.Challenge.pw_crewshares_k66_whole_crossings_both_ways.main.body.getD i (.Pass ⟨0, 0, 0, 0⟩)
/-- is_number: value least most -/
def q0_0 : MP.S := .ite (.orE (.isi (.var 0) [.bool]) (.notE (.isi (.var 0) [.int]))) [.ret (.cst (.bool false))] []
def q0_1 : MP.S := .ret (.cmp2 .le .le (.var 1) (.var 0) (.var 2))
def c0 : List MP.S := [q0_0, q0_1]
def f0 : Fn := ⟨[.v, .v, .v], 3, c0⟩
/-- checked_number: value least most -/
def q1_0 : MP.S := .ite (.notE (.call 0 [(.var 0), (.var 1), (.var 2)] [])) [.raise 1 (.bin .add (.bin .add (.bin .add (.cst (.str "no number from ")) (.blt .str [(.var 1)])) (.cst (.str " to "))) (.blt .str [(.var 2)]))] []
def q1_1 : MP.S := .ret (.var 0)
def c1 : List MP.S := [q1_0, q1_1]
def f1 : Fn := ⟨[.v, .v, .v], 3, c1⟩
/-- checked_trip: many seats -/
def q2_0 : MP.S := .ret (.tup [(.call 1 [(.var 0), (.cst (.int 1)), (.cst (.int 8))] []), (.call 1 [(.var 1), (.cst (.int 2)), (.cst (.int 8))] [])])
def c2 : List MP.S := [q2_0]
def f2 : Fn := ⟨[.v, .v], 2, c2⟩
/-- is_safe: many here first second one -/
def E3_0 : MP.E := (.notE (.call 0 [(.var 4), (.cst (.int 0)), (.var 0)] []))
def E3_1 : MP.E := (.var 4)
def q3_0 : MP.S := .expr (.call 1 [(.var 0), (.cst (.int 1)), (.cst (.int 8))] [])
def q3_1 : MP.S := .ite (.orE (.notE (.isi (.var 1) [.tuple])) (.orE (.cmp .ne (.blt .len [(.var 1)]) (.cst (.int 2))) (.comp E3_1 (.name 4) .seq [(.var 1)] (some E3_0) [4]))) [.ret (.cst (.bool false))] []
def q3_2 : MP.S := .asgT [2, 3] (.var 1) false
def q3_3 : MP.S := .ite (.cmp2 .lt .lt (.cst (.int 0)) (.var 2) (.var 3)) [.ret (.cst (.bool false))] []
def q3_4 : MP.S := .ret (.notE (.cmp2 .lt .lt (.cst (.int 0)) (.bin .sub (.var 0) (.var 2)) (.bin .sub (.var 0) (.var 3))))
def c3 : List MP.S := [q3_0, q3_1, q3_2, q3_3, q3_4]
def f3 : Fn := ⟨[.v, .v], 5, c3⟩
/-- loads: seats found first second -/
def L4_0 : List MP.S := [.ite (.andE (.cmp .gt (.bin .add (.var 2) (.var 3)) (.cst (.int 0))) (.notE (.cmp2 .lt .lt (.cst (.int 0)) (.var 2) (.var 3)))) [.expr (.mut .append 1 [(.tup [(.var 2), (.var 3)])])] []]
def L4_1 : List MP.S := [.for_ (.name 3) .rng [(.bin .sub (.bin .add (.var 0) (.cst (.int 1))) (.var 2))] L4_0]
def q4_0 : MP.S := .expr (.call 1 [(.var 0), (.cst (.int 2)), (.cst (.int 8))] [])
def q4_1 : MP.S := .asg 1 (.list [])
def q4_2 : MP.S := .for_ (.name 2) .rng [(.bin .add (.var 0) (.cst (.int 1)))] L4_1
def q4_3 : MP.S := .ret (.var 1)
def c4 : List MP.S := [q4_0, q4_1, q4_2, q4_3]
def f4 : Fn := ⟨[.v], 4, c4⟩
/-- checked_stand: many stand -/
def q5_0 : MP.S := .expr (.call 1 [(.var 0), (.cst (.int 1)), (.cst (.int 8))] [])
def q5_1 : MP.S := .ite (.orE (.notE (.isi (.var 1) [.tuple])) (.orE (.cmp .ne (.blt .len [(.var 1)]) (.cst (.int 3))) (.orE (.cmp .notin (.idx (.var 1) (.cst (.int 2))) (.tup [(.cst (.int 0)), (.cst (.int 1))])) (.notE (.call 3 [(.var 0), (.slc (.var 1) none (some (.cst (.int 2))))] []))))) [.raise 2 (.cst (.str "no stand"))] []
def q5_2 : MP.S := .ret (.var 1)
def c5 : List MP.S := [q5_0, q5_1, q5_2]
def f5 : Fn := ⟨[.v, .v], 2, c5⟩
/-- moved: many stand load sign there -/
def q6_0 : MP.S := .expr (.call 5 [(.var 0), (.var 1)] [])
def q6_1 : MP.S := .ite (.cmp .notin (.var 2) (.call 4 [(.cst (.int 8))] [])) [.raise 2 (.cst (.str "no load"))] []
def q6_2 : MP.S := .asg 3 (.ife (.cmp .eq (.idx (.var 1) (.cst (.int 2))) (.cst (.int 0))) (.neg (.cst (.int 1))) (.cst (.int 1)))
def q6_3 : MP.S := .asg 4 (.tup [(.bin .add (.idx (.var 1) (.cst (.int 0))) (.bin .mul (.var 3) (.idx (.var 2) (.cst (.int 0))))), (.bin .add (.idx (.var 1) (.cst (.int 1))) (.bin .mul (.var 3) (.idx (.var 2) (.cst (.int 1)))))])
def q6_4 : MP.S := .ite (.notE (.call 3 [(.var 0), (.var 4)] [])) [.raise 2 (.cst (.str "not safe"))] []
def q6_5 : MP.S := .ret (.tup [(.idx (.var 4) (.cst (.int 0))), (.idx (.var 4) (.cst (.int 1))), (.bin .sub (.cst (.int 1)) (.idx (.var 1) (.cst (.int 2))))])
def c6 : List MP.S := [q6_0, q6_1, q6_2, q6_3, q6_4, q6_5]
def f6 : Fn := ⟨[.v, .v, .v], 5, c6⟩
/-- next_stands: many seats stand found load there -/
def E7_0 : MP.E := (.call 10 [(.var 0), (.var 2), (.var 4)] [])
def E7_1 : MP.E := (.isN (.var 5) true)
def E7_2 : MP.E := (.var 5)
def q7_0 : MP.S := .expr (.call 2 [(.var 0), (.var 1)] [])
def q7_1 : MP.S := .expr (.call 5 [(.var 0), (.var 2)] [])
def q7_2 : MP.S := .asg 3 (.comp E7_0 (.name 4) .seq [(.call 4 [(.var 1)] [])] none [4])
def q7_3 : MP.S := .ret (.comp E7_2 (.name 5) .seq [(.var 3)] (some E7_1) [5])
def c7 : List MP.S := [q7_0, q7_1, q7_2, q7_3]
def f7 : Fn := ⟨[.v, .v, .v], 6, c7⟩
/-- behind: many seats told here load -/
def L8_0 : List MP.S := [.ite (.cmp .notin (.var 4) (.call 4 [(.var 1)] [])) [.raise 2 (.cst (.str "no load"))] [], .asg 3 (.call 6 [(.var 0), (.var 3), (.var 4)] [])]
def q8_0 : MP.S := .expr (.call 2 [(.var 0), (.var 1)] [])
def q8_1 : MP.S := .asg 3 (.tup [(.var 0), (.var 0), (.cst (.int 0))])
def q8_2 : MP.S := .for_ (.name 4) .seq [(.var 2)] L8_0
def q8_3 : MP.S := .ret (.var 3)
def c8 : List MP.S := [q8_0, q8_1, q8_2, q8_3]
def f8 : Fn := ⟨[.v, .v, .v], 5, c8⟩
/-- plan: many seats start ways waiting at here load there -/
def L9_0 : List MP.S := [.asg 8 (.call 10 [(.var 0), (.var 6), (.var 7)] []), .ite (.andE (.isN (.var 8) true) (.cmp .notin (.var 8) (.var 3))) [.asgD 3 (.var 8) (.bin .add (.dget 3 (.var 6)) (.list [(.var 7)])), .expr (.mut .append 4 [(.var 8)])] []]
def L9_1 : List MP.S := [.asg 6 (.idx (.var 4) (.var 5)), .ite (.cmp .eq (.var 6) (.tup [(.cst (.int 0)), (.cst (.int 0)), (.cst (.int 1))])) [.ret (.dget 3 (.var 6))] [], .for_ (.name 7) .seq [(.call 4 [(.var 1)] [])] L9_0, .asg 5 (.bin .add (.var 5) (.cst (.int 1)))]
def E9_0 : MP.E := (.cmp .lt (.var 5) (.blt .len [(.var 4)]))
def q9_0 : MP.S := .expr (.call 2 [(.var 0), (.var 1)] [])
def q9_1 : MP.S := .asg 2 (.tup [(.var 0), (.var 0), (.cst (.int 0))])
def q9_2 : MP.S := .asg 3 (.dicE (.var 2) (.list []))
def q9_3 : MP.S := .asg 4 (.list [(.var 2)])
def q9_4 : MP.S := .asg 5 (.cst (.int 0))
def q9_5 : MP.S := .whl E9_0 L9_1
def q9_6 : MP.S := .ret (.cst .none)
def c9 : List MP.S := [q9_0, q9_1, q9_2, q9_3, q9_4, q9_5, q9_6]
def f9 : Fn := ⟨[.v, .v], 9, c9⟩
/-- _there: many here load -/
def q10_0 : MP.S := .tryR [.ret (.call 6 [(.var 0), (.var 1), (.var 2)] [])] 2 (.cst .none)
def c10 : List MP.S := [q10_0]
def f10 : Fn := ⟨[.v, .v, .v], 3, c10⟩
/-- can: many seats -/
def q11_0 : MP.S := .expr (.call 2 [(.var 0), (.var 1)] [])
def q11_1 : MP.S := .ret (.cmp .le (.var 0) (.idx (.list [(.cst (.int 3)), (.cst (.int 5)), (.cst (.int 8))]) (.bin .sub (.blt .min [(.var 1), (.cst (.int 4))]) (.cst (.int 2)))))
def c11 : List MP.S := [q11_0, q11_1]
def f11 : Fn := ⟨[.v, .v], 2, c11⟩
/-- judge: many seats told best -/
def q12_0 : MP.S := .asg 3 (.call 9 [(.var 0), (.var 1)] [])
def q12_1 : MP.S := .tryR [.ret (.andE (.isN (.var 3) true) (.andE (.cmp .eq (.call 8 [(.var 0), (.var 1), (.var 2)] []) (.tup [(.cst (.int 0)), (.cst (.int 0)), (.cst (.int 1))])) (.cmp .eq (.blt .len [(.var 2)]) (.blt .len [(.var 3)]))))] 2 (.cst (.bool false))
def c12 : List MP.S := [q12_0, q12_1]
def f12 : Fn := ⟨[.v, .v, .v], 4, c12⟩
/-- judge_not: many seats stands told stand there -/
def E13_0 : MP.E := (.var 4)
def E13_1 : MP.E := (.cmp .notin (.var 5) (.var 3))
def E13_2 : MP.E := (.var 5)
def L13_0 : List MP.S := [.ite (.orE (.notE (.isi (.var 4) [.tuple])) (.orE (.cmp .ne (.blt .len [(.var 4)]) (.cst (.int 3))) (.orE (.cmp .notin (.idx (.var 4) (.cst (.int 2))) (.tup [(.cst (.int 0)), (.cst (.int 1))])) (.notE (.call 3 [(.var 0), (.slc (.var 4) none (some (.cst (.int 2))))] []))))) [.ret (.cst (.bool false))] [], .ite (.comp E13_2 (.name 5) .seq [(.call 7 [(.var 0), (.var 1), (.var 4)] [])] (some E13_1) [5]) [.ret (.cst (.bool false))] []]
def q13_0 : MP.S := .expr (.call 2 [(.var 0), (.var 1)] [])
def q13_1 : MP.S := .asg 3 (.blt .list [(.var 2)])
def q13_2 : MP.S := .ite (.orE (.cmp .ne (.var 3) (.lib .ssortT [(.comp E13_0 (.name 4) .seq [(.var 3)] none [4])])) (.orE (.cmp .notin (.tup [(.var 0), (.var 0), (.cst (.int 0))]) (.var 3)) (.cmp .isin (.tup [(.cst (.int 0)), (.cst (.int 0)), (.cst (.int 1))]) (.var 3)))) [.ret (.cst (.bool false))] []
def q13_3 : MP.S := .for_ (.name 4) .seq [(.var 3)] L13_0
def q13_4 : MP.S := .ret (.cst (.bool true))
def c13 : List MP.S := [q13_0, q13_1, q13_2, q13_3, q13_4]
def f13 : Fn := ⟨[.v, .v, .v], 6, c13⟩
/-- reached: many seats found at there -/
def E14_0 : MP.E := (.cmp .notin (.var 4) (.var 2))
def E14_1 : MP.E := (.var 4)
def L14_0 : List MP.S := [.expr (.mut .extend 2 [(.comp E14_1 (.name 4) .seq [(.call 7 [(.var 0), (.var 1), (.idx (.var 2) (.var 3))] [])] (some E14_0) [4])]), .asg 3 (.bin .add (.var 3) (.cst (.int 1)))]
def E14_2 : MP.E := (.cmp .lt (.var 3) (.blt .len [(.var 2)]))
def q14_0 : MP.S := .expr (.call 2 [(.var 0), (.var 1)] [])
def q14_1 : MP.S := .asg 2 (.list [(.tup [(.var 0), (.var 0), (.cst (.int 0))])])
def q14_2 : MP.S := .asg 3 (.cst (.int 0))
def q14_3 : MP.S := .whl E14_2 L14_0
def q14_4 : MP.S := .ret (.lib .sortD [(.var 2)])
def c14 : List MP.S := [q14_0, q14_1, q14_2, q14_3, q14_4]
def f14 : Fn := ⟨[.v, .v], 5, c14⟩
/-- fewest: many seats told -/
def q15_0 : MP.S := .asg 2 (.call 9 [(.var 0), (.var 1)] [])
def q15_1 : MP.S := .ret (.ife (.isN (.var 2) false) (.cst .none) (.blt .len [(.var 2)]))
def c15 : List MP.S := [q15_0, q15_1]
def f15 : Fn := ⟨[.v, .v], 3, c15⟩
/-- _law_same: actual due k -/
def L16_0 : List MP.S := [.ite (.notE (.call 16 [(.idx (.var 0) (.var 2)), (.idx (.var 1) (.var 2))] [])) [.ret (.cst (.bool false))] []]
def q16_0 : MP.S := .ite (.isN (.var 1) false) [.ret (.isN (.var 0) false)] []
def q16_1 : MP.S := .ite (.isi (.var 1) [.tuple, .list]) [.ite (.orE (.cmp .ne (.isi (.var 1) [.tuple]) (.isi (.var 0) [.tuple])) (.cmp .ne (.isi (.var 1) [.list]) (.isi (.var 0) [.list]))) [.ret (.cst (.bool false))] [], .ite (.cmp .ne (.blt .len [(.var 0)]) (.blt .len [(.var 1)])) [.ret (.cst (.bool false))] [], .for_ (.name 2) .rng [(.blt .len [(.var 1)])] L16_0, .ret (.cst (.bool true))] []
def q16_2 : MP.S := .ite (.isi (.var 1) [.bool]) [.ret (.andE (.isi (.var 0) [.bool]) (.cmp .eq (.var 0) (.var 1)))] []
def q16_3 : MP.S := .ite (.isi (.var 1) [.int]) [.ret (.andE (.isi (.var 0) [.int]) (.andE (.notE (.isi (.var 0) [.bool])) (.cmp .eq (.var 0) (.var 1))))] []
def q16_4 : MP.S := .ret (.andE (.isi (.var 0) [.str]) (.cmp .eq (.var 0) (.var 1)))
def c16 : List MP.S := [q16_0, q16_1, q16_2, q16_3, q16_4]
def f16 : Fn := ⟨[.v, .v], 3, c16⟩
/-- _law_pool: script -/
def q17_0 : MP.S := .ret (.list [(.blt .list [(.var 0)]), (.cst (.int 0)), (.cst (.int 0)), (.cst (.int 0)), (.cst (.int 0))])
def c17 : List MP.S := [q17_0]
def f17 : Fn := ⟨[.v], 1, c17⟩
/-- _law_draw: pool many found cell mixed -/
def q18_0 : MP.S := .ite (.cmp .gt (.idx (.var 0) (.cst (.int 2))) (.cst (.int 0))) [.asg 2 (.bin .mod (.blt .int [(.idx (.var 0) (.cst (.int 2)))]) (.var 1)), .asgI 0 (.cst (.int 2)) (.bin .fdiv (.idx (.var 0) (.cst (.int 2))) (.var 1)), .ret (.var 2)] []
def q18_1 : MP.S := .ite (.andE (.cmp .eq (.bin .mod (.blt .int [(.idx (.var 0) (.cst (.int 4)))]) (.cst (.int 8))) (.cst (.int 0))) (.cmp .lt (.idx (.var 0) (.cst (.int 1))) (.blt .len [(.idx (.var 0) (.cst (.int 0)))]))) [.asg 3 (.blt .abs [(.idx (.idx (.var 0) (.cst (.int 0))) (.idx (.var 0) (.cst (.int 1))))]), .asgI 0 (.cst (.int 1)) (.bin .add (.idx (.var 0) (.cst (.int 1))) (.cst (.int 1))), .ite (.cmp .ge (.var 3) (.bin .pow (.cst (.int 10)) (.cst (.int 18)))) [.asgI 0 (.cst (.int 2)) (.bin .fdiv (.var 3) (.var 1)), .ret (.bin .mod (.blt .int [(.var 3)]) (.var 1))] [], .asgI 0 (.cst (.int 3)) (.var 3)] []
def q18_2 : MP.S := .asgI 0 (.cst (.int 4)) (.bin .add (.idx (.var 0) (.cst (.int 4))) (.cst (.int 1)))
def q18_3 : MP.S := .asg 4 (.bin .mod (.blt .int [(.bin .add (.bin .add (.bin .mul (.idx (.var 0) (.cst (.int 3))) (.cst (.int 48271))) (.bin .mul (.idx (.var 0) (.cst (.int 4))) (.cst (.int 69621)))) (.cst (.int 7919)))]) (.cst (.int 2147483647)))
def q18_4 : MP.S := .asg 4 (.bin .mod (.blt .int [(.bin .add (.bin .mul (.var 4) (.var 4)) (.bin .mul (.idx (.var 0) (.cst (.int 4))) (.cst (.int 40692))))]) (.cst (.int 2147483399)))
def q18_5 : MP.S := .ret (.bin .mod (.blt .int [(.var 4)]) (.var 1))
def c18 : List MP.S := [q18_0, q18_1, q18_2, q18_3, q18_4, q18_5]
def f18 : Fn := ⟨[.i, .v], 5, c18⟩
/-- _law_pick: pool rows -/
def q19_0 : MP.S := .ret (.idx (.var 1) (.call 18 [(.var 0), (.blt .len [(.var 1)])] []))
def c19 : List MP.S := [q19_0]
def f19 : Fn := ⟨[.i, .v], 2, c19⟩
/-- _law_safe: many here first second -/
def q20_0 : MP.S := .asgT [2, 3] (.var 1) false
def q20_1 : MP.S := .ite (.orE (.notE (.cmp2 .le .le (.cst (.int 0)) (.var 2) (.var 0))) (.orE (.notE (.cmp2 .le .le (.cst (.int 0)) (.var 3) (.var 0))) (.cmp2 .lt .lt (.cst (.int 0)) (.var 2) (.var 3)))) [.ret (.cst (.bool false))] []
def q20_2 : MP.S := .ret (.notE (.cmp2 .lt .lt (.cst (.int 0)) (.bin .sub (.var 0) (.var 2)) (.bin .sub (.var 0) (.var 3))))
def c20 : List MP.S := [q20_0, q20_1, q20_2]
def f20 : Fn := ⟨[.v, .v], 4, c20⟩
/-- _law_loads: seats found first second -/
def E21_0 : MP.E := (.andE (.cmp .gt (.bin .add (.var 2) (.var 3)) (.cst (.int 0))) (.notE (.cmp2 .lt .lt (.cst (.int 0)) (.var 2) (.var 3))))
def E21_1 : MP.E := (.tup [(.var 2), (.var 3)])
def L21_0 : List MP.S := [.asg 1 (.bin .add (.var 1) (.comp E21_1 (.name 3) .rng [(.bin .sub (.bin .add (.var 0) (.cst (.int 1))) (.var 2))] (some E21_0) [3]))]
def q21_0 : MP.S := .asg 1 (.list [])
def q21_1 : MP.S := .for_ (.name 2) .rng [(.bin .add (.var 0) (.cst (.int 1)))] L21_0
def q21_2 : MP.S := .ret (.var 1)
def c21 : List MP.S := [q21_0, q21_1, q21_2]
def f21 : Fn := ⟨[.v], 4, c21⟩
/-- _law_there: many stand load sign there -/
def q22_0 : MP.S := .asg 3 (.ife (.cmp .eq (.idx (.var 1) (.cst (.int 2))) (.cst (.int 0))) (.neg (.cst (.int 1))) (.cst (.int 1)))
def q22_1 : MP.S := .asg 4 (.tup [(.bin .add (.idx (.var 1) (.cst (.int 0))) (.bin .mul (.var 3) (.idx (.var 2) (.cst (.int 0))))), (.bin .add (.idx (.var 1) (.cst (.int 1))) (.bin .mul (.var 3) (.idx (.var 2) (.cst (.int 1)))))])
def q22_2 : MP.S := .ret (.ife (.call 20 [(.var 0), (.var 4)] []) (.tup [(.idx (.var 4) (.cst (.int 0))), (.idx (.var 4) (.cst (.int 1))), (.bin .sub (.cst (.int 1)) (.idx (.var 1) (.cst (.int 2))))]) (.cst .none))
def c22 : List MP.S := [q22_0, q22_1, q22_2]
def f22 : Fn := ⟨[.v, .v, .v], 5, c22⟩
/-- _law_ways: many seats ways waiting here load there -/
def L23_0 : List MP.S := [.asg 6 (.call 22 [(.var 0), (.var 4), (.var 5)] []), .ite (.andE (.isN (.var 6) true) (.cmp .notin (.var 6) (.var 2))) [.asgD 2 (.var 6) (.bin .add (.dget 2 (.var 4)) (.list [(.var 5)])), .expr (.mut .append 3 [(.var 6)])] []]
def L23_1 : List MP.S := [.asg 4 (.idx (.var 3) (.cst (.int 0))), .asg 3 (.slc (.var 3) (some (.cst (.int 1))) none), .for_ (.name 5) .seq [(.call 21 [(.var 1)] [])] L23_0]
def E23_0 : MP.E := (.cmp .gt (.blt .len [(.var 3)]) (.cst (.int 0)))
def q23_0 : MP.S := .asg 2 (.dicE (.tup [(.var 0), (.var 0), (.cst (.int 0))]) (.list []))
def q23_1 : MP.S := .asg 3 (.list [(.tup [(.var 0), (.var 0), (.cst (.int 0))])])
def q23_2 : MP.S := .whl E23_0 L23_1
def q23_3 : MP.S := .ret (.var 2)
def c23 : List MP.S := [q23_0, q23_1, q23_2, q23_3]
def f23 : Fn := ⟨[.v, .v], 7, c23⟩
/-- _law_lead: many seats told here load -/
def L24_0 : List MP.S := [.asg 3 (.ife (.cmp .isin (.var 4) (.call 21 [(.var 1)] [])) (.call 22 [(.var 0), (.var 3), (.var 4)] []) (.cst .none)), .ite (.isN (.var 3) false) [.ret (.cst .none)] []]
def q24_0 : MP.S := .asg 3 (.tup [(.var 0), (.var 0), (.cst (.int 0))])
def q24_1 : MP.S := .for_ (.name 4) .seq [(.var 2)] L24_0
def q24_2 : MP.S := .ret (.var 3)
def c24 : List MP.S := [q24_0, q24_1, q24_2]
def f24 : Fn := ⟨[.v, .v, .v], 5, c24⟩
/-- _law_shows: many seats told k load there -/
def L25_0 : List MP.S := [.asg 5 (.call 22 [(.var 0), (.idx (.var 2) (.var 3)), (.var 4)] []), .ite (.andE (.isN (.var 5) true) (.cmp .notin (.var 5) (.var 2))) [.ret (.cst (.bool false))] []]
def L25_1 : List MP.S := [.ite (.orE (.cmp .isin (.idx (.var 2) (.var 3)) (.slc (.var 2) none (some (.var 3)))) (.notE (.call 20 [(.var 0), (.slc (.idx (.var 2) (.var 3)) none (some (.cst (.int 2))))] []))) [.ret (.cst (.bool false))] [], .for_ (.name 4) .seq [(.call 21 [(.var 1)] [])] L25_0]
def q25_0 : MP.S := .ite (.orE (.cmp .notin (.tup [(.var 0), (.var 0), (.cst (.int 0))]) (.var 2)) (.orE (.cmp .isin (.tup [(.cst (.int 0)), (.cst (.int 0)), (.cst (.int 1))]) (.var 2)) (.cmp .ne (.var 2) (.lib .sortD [(.var 2)])))) [.ret (.cst (.bool false))] []
def q25_1 : MP.S := .for_ (.name 3) .rng [(.blt .len [(.var 2)])] L25_1
def q25_2 : MP.S := .ret (.cst (.bool true))
def c25 : List MP.S := [q25_0, q25_1, q25_2]
def f25 : Fn := ⟨[.v, .v, .v], 6, c25⟩
/-- _law_refused: choice many seats problem -/
def q26_0 : MP.S := .tryR [.ite (.cmp .eq (.var 0) (.cst (.int 0))) [.expr (.call 2 [(.var 1), (.var 2)] [])] [.ite (.cmp .eq (.var 0) (.cst (.int 1))) [.expr (.call 9 [(.var 1), (.var 2)] [])] [.ite (.cmp .eq (.var 0) (.cst (.int 2))) [.expr (.call 11 [(.var 1), (.var 2)] [])] [.expr (.call 14 [(.var 1), (.var 2)] [])]]]] 0 (.andH (.isi 1) (.isi 3))
def q26_1 : MP.S := .ret (.cst (.bool false))
def c26 : List MP.S := [q26_0, q26_1]
def f26 : Fn := ⟨[.v, .v, .v], 4, c26⟩
/-- law: script pool many seats ways good due stands k some j at load right part shown choice -/
def E27_0 : MP.E := (.call 19 [(.var 1), (.call 21 [(.var 3)] [])] [])
def L27_0 : List MP.S := [.asg 11 (.call 18 [(.var 1), (.bin .add (.blt .len [(.var 9)]) (.cst (.int 1)))] []), .asg 12 (.call 19 [(.var 1), (.bin .add (.call 21 [(.var 3)] []) (.list [(.tup [(.cst (.int 0)), (.cst (.int 0))]), (.tup [(.cst (.int 1)), (.cst (.int 2))]), (.tup [(.var 3), (.cst (.int 1))])]))] []), .asg 9 (.call 19 [(.var 1), (.list [(.bin .add (.slc (.var 9) none (some (.var 11))) (.slc (.var 9) (some (.bin .add (.var 11) (.cst (.int 1)))) none)), (.bin .add (.bin .add (.slc (.var 9) none (some (.var 11))) (.list [(.var 12)])) (.slc (.var 9) (some (.var 11)) none)), (.bin .add (.bin .add (.slc (.var 9) none (some (.var 11))) (.list [(.var 12)])) (.slc (.var 9) (some (.bin .add (.var 11) (.cst (.int 1)))) none)), (.lib .lrev [(.var 9)])])] [])]
def L27_1 : List MP.S := [.asg 11 (.ife (.cmp .gt (.blt .len [(.var 14)]) (.cst (.int 0))) (.call 18 [(.var 1), (.blt .len [(.var 14)])] []) (.cst (.int 0))), .asg 14 (.call 19 [(.var 1), (.list [(.bin .add (.slc (.var 14) none (some (.var 11))) (.slc (.var 14) (some (.bin .add (.var 11) (.cst (.int 1)))) none)), (.lib .lrev [(.var 14)]), (.bin .add (.var 14) (.slc (.var 14) none (some (.cst (.int 1))))), (.lib .sortD [(.bin .add (.var 14) (.list [(.tup [(.cst (.int 0)), (.var 2), (.cst (.int 0))])]))])])] [])]
def L27_2 : List MP.S := [.asg 9 (.ife (.var 5) (.blt .list [(.var 6)]) (.comp E27_0 (.name 10) .rng [(.cst (.int 3))] none [10])), .for_ (.name 10) .rng [(.call 18 [(.var 1), (.cst (.int 3))] [])] L27_0, .asg 13 (.andE (.var 5) (.andE (.cmp .eq (.call 24 [(.var 2), (.var 3), (.var 9)] []) (.tup [(.cst (.int 0)), (.cst (.int 0)), (.cst (.int 1))])) (.cmp .eq (.blt .len [(.var 9)]) (.blt .len [(.var 6)])))), .ite (.notE (.call 16 [(.call 12 [(.var 2), (.var 3), (.var 9)] []), (.var 13)] [])) [.ret (.cst (.bool false))] [], .asg 14 (.blt .list [(.var 7)]), .for_ (.name 10) .rng [(.call 18 [(.var 1), (.cst (.int 3))] [])] L27_1, .asg 15 (.call 25 [(.var 2), (.var 3), (.var 14)] []), .ite (.orE (.notE (.call 16 [(.call 13 [(.var 2), (.var 3), (.var 14)] []), (.var 15)] [])) (.andE (.var 15) (.var 5))) [.ret (.cst (.bool false))] []]
def L27_3 : List MP.S := [.ite (.orE (.notE (.call 26 [(.var 16), (.call 19 [(.var 1), (.list [(.cst (.int 0)), (.cst (.int 9)), (.cst (.bool true))])] []), (.cst (.int 2))] [])) (.notE (.call 26 [(.var 16), (.cst (.int 2)), (.call 19 [(.var 1), (.list [(.cst (.int 1)), (.cst (.int 9)), (.cst (.bool true))])] [])] []))) [.ret (.cst (.bool false))] []]
def q27_0 : MP.S := .asg 1 (.call 17 [(.var 0)] [])
def q27_1 : MP.S := .asg 2 (.bin .add (.cst (.int 1)) (.call 18 [(.var 1), (.cst (.int 6))] []))
def q27_2 : MP.S := .asg 3 (.bin .add (.cst (.int 2)) (.call 18 [(.var 1), (.cst (.int 3))] []))
def q27_3 : MP.S := .asg 4 (.call 23 [(.var 2), (.var 3)] [])
def q27_4 : MP.S := .asg 5 (.cmp .isin (.tup [(.cst (.int 0)), (.cst (.int 0)), (.cst (.int 1))]) (.var 4))
def q27_5 : MP.S := .ite (.orE (.notE (.call 16 [(.call 11 [(.var 2), (.var 3)] []), (.var 5)] [])) (.orE (.cmp .ne (.var 5) (.cmp .le (.var 2) (.idx (.list [(.cst (.int 3)), (.cst (.int 5)), (.cst (.int 8))]) (.bin .sub (.var 3) (.cst (.int 2)))))) (.notE (.call 16 [(.call 2 [(.var 2), (.var 3)] []), (.tup [(.var 2), (.var 3)])] [])))) [.ret (.cst (.bool false))] []
def q27_6 : MP.S := .asg 6 (.ife (.var 5) (.dget 4 (.tup [(.cst (.int 0)), (.cst (.int 0)), (.cst (.int 1))])) (.cst .none))
def q27_7 : MP.S := .ite (.orE (.notE (.call 16 [(.call 9 [(.var 2), (.var 3)] []), (.var 6)] [])) (.notE (.call 16 [(.call 15 [(.var 2), (.var 3)] []), (.ife (.var 5) (.blt .len [(.var 6)]) (.cst .none))] []))) [.ret (.cst (.bool false))] []
def q27_8 : MP.S := .asg 7 (.lib .sortK [(.var 4)])
def q27_9 : MP.S := .ite (.orE (.notE (.call 16 [(.call 14 [(.var 2), (.var 3)] []), (.var 7)] [])) (.notE (.call 16 [(.call 13 [(.var 2), (.var 3), (.blt .list [(.var 7)])] []), (.notE (.var 5))] []))) [.ret (.cst (.bool false))] []
def q27_10 : MP.S := .for_ (.name 8) .rng [(.cst (.int 6))] L27_2
def q27_11 : MP.S := .for_ (.name 16) .seq [(.tup [(.cst (.int 0)), (.cst (.int 1)), (.cst (.int 2)), (.cst (.int 3))])] L27_3
def q27_12 : MP.S := .ret (.cst (.bool true))
def c27 : List MP.S := [q27_0, q27_1, q27_2, q27_3, q27_4, q27_5, q27_6, q27_7, q27_8, q27_9, q27_10, q27_11, q27_12]
def f27 : Fn := ⟨[.v], 17, c27⟩
def T : Nat → Option Fn
  | 0 => some f0
  | 1 => some f1
  | 2 => some f2
  | 3 => some f3
  | 4 => some f4
  | 5 => some f5
  | 6 => some f6
  | 7 => some f7
  | 8 => some f8
  | 9 => some f9
  | 10 => some f10
  | 11 => some f11
  | 12 => some f12
  | 13 => some f13
  | 14 => some f14
  | 15 => some f15
  | 16 => some f16
  | 17 => some f17
  | 18 => some f18
  | 19 => some f19
  | 20 => some f20
  | 21 => some f21
  | 22 => some f22
  | 23 => some f23
  | 24 => some f24
  | 25 => some f25
  | 26 => some f26
  | 27 => some f27
  | _ => none
theorem pm0 : (Option.map (fun (g : Fn) => g.pms) (T 0)).getD [] = [.v, .v, .v] := rfl
theorem pm1 : (Option.map (fun (g : Fn) => g.pms) (T 1)).getD [] = [.v, .v, .v] := rfl
theorem pm2 : (Option.map (fun (g : Fn) => g.pms) (T 2)).getD [] = [.v, .v] := rfl
theorem pm3 : (Option.map (fun (g : Fn) => g.pms) (T 3)).getD [] = [.v, .v] := rfl
theorem pm4 : (Option.map (fun (g : Fn) => g.pms) (T 4)).getD [] = [.v] := rfl
theorem pm5 : (Option.map (fun (g : Fn) => g.pms) (T 5)).getD [] = [.v, .v] := rfl
theorem pm6 : (Option.map (fun (g : Fn) => g.pms) (T 6)).getD [] = [.v, .v, .v] := rfl
theorem pm7 : (Option.map (fun (g : Fn) => g.pms) (T 7)).getD [] = [.v, .v, .v] := rfl
theorem pm8 : (Option.map (fun (g : Fn) => g.pms) (T 8)).getD [] = [.v, .v, .v] := rfl
theorem pm9 : (Option.map (fun (g : Fn) => g.pms) (T 9)).getD [] = [.v, .v] := rfl
theorem pm10 : (Option.map (fun (g : Fn) => g.pms) (T 10)).getD [] = [.v, .v, .v] := rfl
theorem pm11 : (Option.map (fun (g : Fn) => g.pms) (T 11)).getD [] = [.v, .v] := rfl
theorem pm12 : (Option.map (fun (g : Fn) => g.pms) (T 12)).getD [] = [.v, .v, .v] := rfl
theorem pm13 : (Option.map (fun (g : Fn) => g.pms) (T 13)).getD [] = [.v, .v, .v] := rfl
theorem pm14 : (Option.map (fun (g : Fn) => g.pms) (T 14)).getD [] = [.v, .v] := rfl
theorem pm15 : (Option.map (fun (g : Fn) => g.pms) (T 15)).getD [] = [.v, .v] := rfl
theorem pm16 : (Option.map (fun (g : Fn) => g.pms) (T 16)).getD [] = [.v, .v] := rfl
theorem pm17 : (Option.map (fun (g : Fn) => g.pms) (T 17)).getD [] = [.v] := rfl
theorem pm18 : (Option.map (fun (g : Fn) => g.pms) (T 18)).getD [] = [.i, .v] := rfl
theorem pm19 : (Option.map (fun (g : Fn) => g.pms) (T 19)).getD [] = [.i, .v] := rfl
theorem pm20 : (Option.map (fun (g : Fn) => g.pms) (T 20)).getD [] = [.v, .v] := rfl
theorem pm21 : (Option.map (fun (g : Fn) => g.pms) (T 21)).getD [] = [.v] := rfl
theorem pm22 : (Option.map (fun (g : Fn) => g.pms) (T 22)).getD [] = [.v, .v, .v] := rfl
theorem pm23 : (Option.map (fun (g : Fn) => g.pms) (T 23)).getD [] = [.v, .v] := rfl
theorem pm24 : (Option.map (fun (g : Fn) => g.pms) (T 24)).getD [] = [.v, .v, .v] := rfl
theorem pm25 : (Option.map (fun (g : Fn) => g.pms) (T 25)).getD [] = [.v, .v, .v] := rfl
theorem pm26 : (Option.map (fun (g : Fn) => g.pms) (T 26)).getD [] = [.v, .v, .v] := rfl
theorem pm27 : (Option.map (fun (g : Fn) => g.pms) (T 27)).getD [] = [.v] := rfl
def sub : Nat → Nat → Bool
  | 0, 0 => true
  | 0, 1 => false
  | 0, 2 => false
  | 0, 3 => true
  | 1, 0 => true
  | 1, 1 => true
  | 1, 2 => false
  | 1, 3 => true
  | 2, 0 => true
  | 2, 1 => false
  | 2, 2 => true
  | 2, 3 => true
  | _, _ => false
abbrev xcOf (C0 C1 C2 : Addr) : Nat → Addr
  | 0 => C0
  | 1 => C1
  | 2 => C2
  | _ => 0
def wf : Nat := 1000000000000
abbrev Mn (K : PySem.W.Frag) (C0 C1 C2 : Addr) (n : Nat) : Pm := pmN K (xcOf C0 C1 C2) 3 T wf sub n
structure Txt (K : PySem.W.Frag) (mg : Str → Option Value) (C0 C1 C2 : Addr) (a0 a1 a2 a3 a4 a5 a6 a7 a8 a9 a10 a11 a12 a13 a14 a15 a16 a17 a18 a19 a20 a21 a22 a23 a24 a25 a26 a27 : Addr) (d0 d1 d2 d3 d4 d5 d6 d7 d8 d9 d10 d11 d12 d13 d14 d15 d16 d17 d18 d19 d20 d21 d22 d23 d24 d25 d26 d27 : FuncData) : Prop where
  g0 : mg "is_number" = some (.ref a0)
  k0 : PySem.W.keepIn K (.ref a0) = true
  F0 : FunD K "is_number" "is_number" (defArgs (top 6)) (defBody (top 6)) (defScope (top 6)) [V.int 0, V.int 1000000] [] a0 d0
  b0_0 : Binds K d0 ["value", "least", "most"] []
  b0_1 : ∃ ds, Vals [V.int 1000000] ds ∧ Binds K d0 ["value", "least", "most"] ds
  b0_2 : ∃ ds, Vals [V.int 0, V.int 1000000] ds ∧ Binds K d0 ["value", "least", "most"] ds
  g1 : mg "checked_number" = some (.ref a1)
  k1 : PySem.W.keepIn K (.ref a1) = true
  F1 : FunD K "checked_number" "checked_number" (defArgs (top 7)) (defBody (top 7)) (defScope (top 7)) [V.int 0, V.int 1000000] [] a1 d1
  b1_0 : Binds K d1 ["value", "least", "most"] []
  b1_1 : ∃ ds, Vals [V.int 1000000] ds ∧ Binds K d1 ["value", "least", "most"] ds
  b1_2 : ∃ ds, Vals [V.int 0, V.int 1000000] ds ∧ Binds K d1 ["value", "least", "most"] ds
  g2 : mg "checked_trip" = some (.ref a2)
  k2 : PySem.W.keepIn K (.ref a2) = true
  F2 : Fun K "checked_trip" "checked_trip" (top 10) a2 d2
  b2 : Binds K d2 ["many", "seats"] []
  g3 : mg "is_safe" = some (.ref a3)
  k3 : PySem.W.keepIn K (.ref a3) = true
  F3 : Fun K "is_safe" "is_safe" (top 11) a3 d3
  b3 : Binds K d3 ["many", "here"] []
  g4 : mg "loads" = some (.ref a4)
  k4 : PySem.W.keepIn K (.ref a4) = true
  F4 : Fun K "loads" "loads" (top 12) a4 d4
  b4 : Binds K d4 ["seats"] []
  g5 : mg "checked_stand" = some (.ref a5)
  k5 : PySem.W.keepIn K (.ref a5) = true
  F5 : Fun K "checked_stand" "checked_stand" (top 13) a5 d5
  b5 : Binds K d5 ["many", "stand"] []
  g6 : mg "moved" = some (.ref a6)
  k6 : PySem.W.keepIn K (.ref a6) = true
  F6 : Fun K "moved" "moved" (top 14) a6 d6
  b6 : Binds K d6 ["many", "stand", "load"] []
  g7 : mg "next_stands" = some (.ref a7)
  k7 : PySem.W.keepIn K (.ref a7) = true
  F7 : Fun K "next_stands" "next_stands" (top 15) a7 d7
  b7 : Binds K d7 ["many", "seats", "stand"] []
  g8 : mg "behind" = some (.ref a8)
  k8 : PySem.W.keepIn K (.ref a8) = true
  F8 : Fun K "behind" "behind" (top 16) a8 d8
  b8 : Binds K d8 ["many", "seats", "told"] []
  g9 : mg "plan" = some (.ref a9)
  k9 : PySem.W.keepIn K (.ref a9) = true
  F9 : Fun K "plan" "plan" (top 17) a9 d9
  b9 : Binds K d9 ["many", "seats"] []
  g10 : mg "_there" = some (.ref a10)
  k10 : PySem.W.keepIn K (.ref a10) = true
  F10 : Fun K "_there" "_there" (top 18) a10 d10
  b10 : Binds K d10 ["many", "here", "load"] []
  g11 : mg "can" = some (.ref a11)
  k11 : PySem.W.keepIn K (.ref a11) = true
  F11 : Fun K "can" "can" (top 19) a11 d11
  b11 : Binds K d11 ["many", "seats"] []
  g12 : mg "judge" = some (.ref a12)
  k12 : PySem.W.keepIn K (.ref a12) = true
  F12 : Fun K "judge" "judge" (top 20) a12 d12
  b12 : Binds K d12 ["many", "seats", "told"] []
  g13 : mg "judge_not" = some (.ref a13)
  k13 : PySem.W.keepIn K (.ref a13) = true
  F13 : Fun K "judge_not" "judge_not" (top 21) a13 d13
  b13 : Binds K d13 ["many", "seats", "stands"] []
  g14 : mg "reached" = some (.ref a14)
  k14 : PySem.W.keepIn K (.ref a14) = true
  F14 : Fun K "reached" "reached" (top 22) a14 d14
  b14 : Binds K d14 ["many", "seats"] []
  g15 : mg "fewest" = some (.ref a15)
  k15 : PySem.W.keepIn K (.ref a15) = true
  F15 : Fun K "fewest" "fewest" (top 23) a15 d15
  b15 : Binds K d15 ["many", "seats"] []
  g16 : mg "_law_same" = some (.ref a16)
  k16 : PySem.W.keepIn K (.ref a16) = true
  F16 : Fun K "_law_same" "_law_same" (top 25) a16 d16
  b16 : Binds K d16 ["actual", "due"] []
  g17 : mg "_law_pool" = some (.ref a17)
  k17 : PySem.W.keepIn K (.ref a17) = true
  F17 : Fun K "_law_pool" "_law_pool" (top 26) a17 d17
  b17 : Binds K d17 ["script"] []
  g18 : mg "_law_draw" = some (.ref a18)
  k18 : PySem.W.keepIn K (.ref a18) = true
  F18 : Fun K "_law_draw" "_law_draw" (top 27) a18 d18
  b18 : Binds K d18 ["pool", "many"] []
  g19 : mg "_law_pick" = some (.ref a19)
  k19 : PySem.W.keepIn K (.ref a19) = true
  F19 : Fun K "_law_pick" "_law_pick" (top 28) a19 d19
  b19 : Binds K d19 ["pool", "rows"] []
  g20 : mg "_law_safe" = some (.ref a20)
  k20 : PySem.W.keepIn K (.ref a20) = true
  F20 : Fun K "_law_safe" "_law_safe" (top 29) a20 d20
  b20 : Binds K d20 ["many", "here"] []
  g21 : mg "_law_loads" = some (.ref a21)
  k21 : PySem.W.keepIn K (.ref a21) = true
  F21 : Fun K "_law_loads" "_law_loads" (top 30) a21 d21
  b21 : Binds K d21 ["seats"] []
  g22 : mg "_law_there" = some (.ref a22)
  k22 : PySem.W.keepIn K (.ref a22) = true
  F22 : Fun K "_law_there" "_law_there" (top 31) a22 d22
  b22 : Binds K d22 ["many", "stand", "load"] []
  g23 : mg "_law_ways" = some (.ref a23)
  k23 : PySem.W.keepIn K (.ref a23) = true
  F23 : Fun K "_law_ways" "_law_ways" (top 32) a23 d23
  b23 : Binds K d23 ["many", "seats"] []
  g24 : mg "_law_lead" = some (.ref a24)
  k24 : PySem.W.keepIn K (.ref a24) = true
  F24 : Fun K "_law_lead" "_law_lead" (top 33) a24 d24
  b24 : Binds K d24 ["many", "seats", "told"] []
  g25 : mg "_law_shows" = some (.ref a25)
  k25 : PySem.W.keepIn K (.ref a25) = true
  F25 : Fun K "_law_shows" "_law_shows" (top 34) a25 d25
  b25 : Binds K d25 ["many", "seats", "told"] []
  g26 : mg "_law_refused" = some (.ref a26)
  k26 : PySem.W.keepIn K (.ref a26) = true
  F26 : Fun K "_law_refused" "_law_refused" (top 35) a26 d26
  b26 : Binds K d26 ["choice", "many", "seats"] []
  g27 : mg "law" = some (.ref a27)
  k27 : PySem.W.keepIn K (.ref a27) = true
  F27 : Fun K "law" "law" (top 36) a27 d27
  b27 : Binds K d27 ["script"] []
  c0 : mg "CrewError" = some (.ref C0)
  q0 : PySem.W.excIn K C0 [Value.type "ValueError", Value.type "Exception", Value.type "BaseException", Value.type "object"] "ValueError.__new__" = true
  ck0 : PySem.W.keepIn K (.ref C0) = true
  cr0 : PySem.W.subIn K (.ref C0) (.type "BaseException") = some true
  ct0 : PySem.W.typeIn K (.ref C0) = some (.type "type")
  c1 : mg "InvalidNumber" = some (.ref C1)
  q1 : PySem.W.excIn K C1 [Value.type "ValueError", Value.type "Exception", Value.type "BaseException", Value.type "object"] "ValueError.__new__" = true
  ck1 : PySem.W.keepIn K (.ref C1) = true
  cr1 : PySem.W.subIn K (.ref C1) (.type "BaseException") = some true
  ct1 : PySem.W.typeIn K (.ref C1) = some (.type "type")
  c2 : mg "InvalidPaper" = some (.ref C2)
  q2 : PySem.W.excIn K C2 [Value.type "ValueError", Value.type "Exception", Value.type "BaseException", Value.type "object"] "ValueError.__new__" = true
  ck2 : PySem.W.keepIn K (.ref C2) = true
  cr2 : PySem.W.subIn K (.ref C2) (.type "BaseException") = some true
  ct2 : PySem.W.typeIn K (.ref C2) = some (.type "type")
  xf : ∀ n, XF (Mn K C0 C1 C2 n)
  z_ValueError : mg "ValueError" = none
  z_abs : mg "abs" = none
  z_bool : mg "bool" = none
  z_int : mg "int" = none
  z_isinstance : mg "isinstance" = none
  z_len : mg "len" = none
  z_list : mg "list" = none
  z_min : mg "min" = none
  z_range : mg "range" = none
  z_reversed : mg "reversed" = none
  z_sorted : mg "sorted" = none
  z_str : mg "str" = none
  z_tuple : mg "tuple" = none
  g_MOST : ∃ t, mg "MOST" = some (.int 8 t)
section
variable {P : Program} {w : World} {K : PySem.W.Frag} {mg : Str → Option Value} {base : Heap} {C0 C1 C2 : Addr} {a0 a1 a2 a3 a4 a5 a6 a7 a8 a9 a10 a11 a12 a13 a14 a15 a16 a17 a18 a19 a20 a21 a22 a23 a24 a25 a26 a27 : Addr} {d0 d1 d2 d3 d4 d5 d6 d7 d8 d9 d10 d11 d12 d13 d14 d15 d16 d17 d18 d19 d20 d21 d22 d23 d24 d25 d26 d27 : FuncData}
structure Ok (P : Program) (w : World) (K : PySem.W.Frag) (mg : Str → Option Value) (base : Heap) (C0 C1 C2 : Addr) (a0 a1 a2 a3 a4 a5 a6 a7 a8 a9 a10 a11 a12 a13 a14 a15 a16 a17 a18 a19 a20 a21 a22 a23 a24 a25 a26 a27 : Addr) (d0 d1 d2 d3 d4 d5 d6 d7 d8 d9 d10 d11 d12 d13 d14 d15 d16 d17 d18 d19 d20 d21 d22 d23 d24 d25 d26 d27 : FuncData) (n : Nat) : Prop where
  f0 : FnOk P w K mg base (L2N.CX P w) (n + 2) a0 d0 ["value", "least", "most"] (spD (Mn K C0 C1 C2 n) [.v, .v, .v] 0)
  f1 : FnOk P w K mg base (L2N.CX P w) (n + 2) a1 d1 ["value", "least", "most"] (spD (Mn K C0 C1 C2 n) [.v, .v, .v] 1)
  f2 : FnOk P w K mg base (L2N.CX P w) (n + 2) a2 d2 ["many", "seats"] (spD (Mn K C0 C1 C2 n) [.v, .v] 2)
  f3 : FnOk P w K mg base (L2N.CX P w) (n + 2) a3 d3 ["many", "here"] (spD (Mn K C0 C1 C2 n) [.v, .v] 3)
  f4 : FnOk P w K mg base (L2N.CX P w) (n + 2) a4 d4 ["seats"] (spD (Mn K C0 C1 C2 n) [.v] 4)
  f5 : FnOk P w K mg base (L2N.CX P w) (n + 2) a5 d5 ["many", "stand"] (spD (Mn K C0 C1 C2 n) [.v, .v] 5)
  f6 : FnOk P w K mg base (L2N.CX P w) (n + 2) a6 d6 ["many", "stand", "load"] (spD (Mn K C0 C1 C2 n) [.v, .v, .v] 6)
  f7 : FnOk P w K mg base (L2N.CX P w) (n + 2) a7 d7 ["many", "seats", "stand"] (spD (Mn K C0 C1 C2 n) [.v, .v, .v] 7)
  f8 : FnOk P w K mg base (L2N.CX P w) (n + 2) a8 d8 ["many", "seats", "told"] (spD (Mn K C0 C1 C2 n) [.v, .v, .v] 8)
  f9 : FnOk P w K mg base (L2N.CX P w) (n + 2) a9 d9 ["many", "seats"] (spD (Mn K C0 C1 C2 n) [.v, .v] 9)
  f10 : FnOk P w K mg base (L2N.CX P w) (n + 2) a10 d10 ["many", "here", "load"] (spD (Mn K C0 C1 C2 n) [.v, .v, .v] 10)
  f11 : FnOk P w K mg base (L2N.CX P w) (n + 2) a11 d11 ["many", "seats"] (spD (Mn K C0 C1 C2 n) [.v, .v] 11)
  f12 : FnOk P w K mg base (L2N.CX P w) (n + 2) a12 d12 ["many", "seats", "told"] (spD (Mn K C0 C1 C2 n) [.v, .v, .v] 12)
  f13 : FnOk P w K mg base (L2N.CX P w) (n + 2) a13 d13 ["many", "seats", "stands"] (spD (Mn K C0 C1 C2 n) [.v, .v, .v] 13)
  f14 : FnOk P w K mg base (L2N.CX P w) (n + 2) a14 d14 ["many", "seats"] (spD (Mn K C0 C1 C2 n) [.v, .v] 14)
  f15 : FnOk P w K mg base (L2N.CX P w) (n + 2) a15 d15 ["many", "seats"] (spD (Mn K C0 C1 C2 n) [.v, .v] 15)
  f16 : FnOk P w K mg base (L2N.CX P w) (n + 2) a16 d16 ["actual", "due"] (spD (Mn K C0 C1 C2 n) [.v, .v] 16)
  f17 : FnOk P w K mg base (L2N.CX P w) (n + 2) a17 d17 ["script"] (spD (Mn K C0 C1 C2 n) [.v] 17)
  f18 : FnOk P w K mg base (L2N.CX P w) (n + 2) a18 d18 ["pool", "many"] (spD (Mn K C0 C1 C2 n) [.i, .v] 18)
  f19 : FnOk P w K mg base (L2N.CX P w) (n + 2) a19 d19 ["pool", "rows"] (spD (Mn K C0 C1 C2 n) [.i, .v] 19)
  f20 : FnOk P w K mg base (L2N.CX P w) (n + 2) a20 d20 ["many", "here"] (spD (Mn K C0 C1 C2 n) [.v, .v] 20)
  f21 : FnOk P w K mg base (L2N.CX P w) (n + 2) a21 d21 ["seats"] (spD (Mn K C0 C1 C2 n) [.v] 21)
  f22 : FnOk P w K mg base (L2N.CX P w) (n + 2) a22 d22 ["many", "stand", "load"] (spD (Mn K C0 C1 C2 n) [.v, .v, .v] 22)
  f23 : FnOk P w K mg base (L2N.CX P w) (n + 2) a23 d23 ["many", "seats"] (spD (Mn K C0 C1 C2 n) [.v, .v] 23)
  f24 : FnOk P w K mg base (L2N.CX P w) (n + 2) a24 d24 ["many", "seats", "told"] (spD (Mn K C0 C1 C2 n) [.v, .v, .v] 24)
  f25 : FnOk P w K mg base (L2N.CX P w) (n + 2) a25 d25 ["many", "seats", "told"] (spD (Mn K C0 C1 C2 n) [.v, .v, .v] 25)
  f26 : FnOk P w K mg base (L2N.CX P w) (n + 2) a26 d26 ["choice", "many", "seats"] (spD (Mn K C0 C1 C2 n) [.v, .v, .v] 26)
  f27 : FnOk P w K mg base (L2N.CX P w) (n + 2) a27 d27 ["script"] (spD (Mn K C0 C1 C2 n) [.v] 27)
theorem s0 : FnScope ["value", "least", "most"] ["value", "least", "most"] (defScope (top 6)) := ⟨rfl, rfl, rfl, by decide +kernel, rfl, by decide +kernel, by decide +kernel⟩
theorem o0 (Z : Txt K mg C0 C1 C2 a0 a1 a2 a3 a4 a5 a6 a7 a8 a9 a10 a11 a12 a13 a14 a15 a16 a17 a18 a19 a20 a21 a22 a23 a24 a25 a26 a27 d0 d1 d2 d3 d4 d5 d6 d7 d8 d9 d10 d11 d12 d13 d14 d15 d16 d17 d18 d19 d20 d21 d22 d23 d24 d25 d26 d27) {n : Nat} (A : Ok P w K mg base C0 C1 C2 a0 a1 a2 a3 a4 a5 a6 a7 a8 a9 a10 a11 a12 a13 a14 a15 a16 a17 a18 a19 a20 a21 a22 a23 a24 a25 a26 a27 d0 d1 d2 d3 d4 d5 d6 d7 d8 d9 d10 d11 d12 d13 d14 d15 d16 d17 d18 d19 d20 d21 d22 d23 d24 d25 d26 d27 n) : FnOk P w K mg base (L2N.CX P w) (n + 2 + 1) a0 d0 ["value", "least", "most"] (spD (Mn K C0 C1 C2 (n + 1)) [.v, .v, .v] 0) :=
  def_okD (fn := f0) rfl Z.F0 s0 rfl rfl fun cdv A0 outer s H E hr => by
    have nd := s0.nd
    have hu := units_of hr
    have xf := Z.xf n
    have hr1 := hr
    exact (ss_cons (s_ite (WV.tv (wv_or (tv_of (ev_isi .bool (ev_var 0) rfl Z.z_isinstance rfl Z.z_bool) (fun _ => rfl) (fun _ => rfl)) (wv_or1 (tv_not (tv_of (ev_isi .int (ev_var 0) rfl Z.z_isinstance rfl Z.z_int) (fun _ => rfl) (fun _ => rfl)))))) (ss_cons (s_ret ev_bl)
  ss_nil) ss_nil)
  (ss_cons (s_ret (ev_cmp2 .le .le hu (ev_var 1) (ev_var 0) (ev_var 2)))
  ss_nil))
theorem s1 : FnScope ["value", "least", "most"] ["value", "least", "most"] (defScope (top 7)) := ⟨rfl, rfl, rfl, by decide +kernel, rfl, by decide +kernel, by decide +kernel⟩
theorem o1 (Z : Txt K mg C0 C1 C2 a0 a1 a2 a3 a4 a5 a6 a7 a8 a9 a10 a11 a12 a13 a14 a15 a16 a17 a18 a19 a20 a21 a22 a23 a24 a25 a26 a27 d0 d1 d2 d3 d4 d5 d6 d7 d8 d9 d10 d11 d12 d13 d14 d15 d16 d17 d18 d19 d20 d21 d22 d23 d24 d25 d26 d27) {n : Nat} (A : Ok P w K mg base C0 C1 C2 a0 a1 a2 a3 a4 a5 a6 a7 a8 a9 a10 a11 a12 a13 a14 a15 a16 a17 a18 a19 a20 a21 a22 a23 a24 a25 a26 a27 d0 d1 d2 d3 d4 d5 d6 d7 d8 d9 d10 d11 d12 d13 d14 d15 d16 d17 d18 d19 d20 d21 d22 d23 d24 d25 d26 d27 n) : FnOk P w K mg base (L2N.CX P w) (n + 2 + 1) a1 d1 ["value", "least", "most"] (spD (Mn K C0 C1 C2 (n + 1)) [.v, .v, .v] 1) :=
  def_okD (fn := f1) rfl Z.F1 s1 rfl rfl fun cdv A0 outer s H E hr => by
    have nd := s1.nd
    have hu := units_of hr
    have xf := Z.xf n
    have hr1 := hr
    exact (ss_cons (s_ite (tv_not (tv_of (ev_call 0 A.f0 hr rfl Z.g0 Z.k0 Z.b0_0 .nil .nil (ar_cons (ev_var 0) (ar_cons (ev_var 1) (ar_cons (ev_var 2) ar_nil)))) (fun _ => rfl) (fun _ => rfl))) (ss_cons (s_raise (x := 1) (of_decide_eq_true rfl) Z.q1 Z.c1 Z.ck1 Z.cr1 Z.ct1 rfl rfl (ev_bin .add (ev_bin .add (ev_bin .add ev_str (ev_blt .str (fun _ => rfl) rfl Z.z_str (ar_cons (ev_var 1) ar_nil))) ev_str) (ev_blt .str (fun _ => rfl) rfl Z.z_str (ar_cons (ev_var 2) ar_nil))))
  ss_nil) ss_nil)
  (ss_cons (s_ret (ev_var 0))
  ss_nil))
theorem s2 : FnScope ["many", "seats"] ["many", "seats"] (defScope (top 10)) := ⟨rfl, rfl, rfl, by decide +kernel, rfl, by decide +kernel, by decide +kernel⟩
theorem o2 (Z : Txt K mg C0 C1 C2 a0 a1 a2 a3 a4 a5 a6 a7 a8 a9 a10 a11 a12 a13 a14 a15 a16 a17 a18 a19 a20 a21 a22 a23 a24 a25 a26 a27 d0 d1 d2 d3 d4 d5 d6 d7 d8 d9 d10 d11 d12 d13 d14 d15 d16 d17 d18 d19 d20 d21 d22 d23 d24 d25 d26 d27) {n : Nat} (A : Ok P w K mg base C0 C1 C2 a0 a1 a2 a3 a4 a5 a6 a7 a8 a9 a10 a11 a12 a13 a14 a15 a16 a17 a18 a19 a20 a21 a22 a23 a24 a25 a26 a27 d0 d1 d2 d3 d4 d5 d6 d7 d8 d9 d10 d11 d12 d13 d14 d15 d16 d17 d18 d19 d20 d21 d22 d23 d24 d25 d26 d27 n) : FnOk P w K mg base (L2N.CX P w) (n + 2 + 1) a2 d2 ["many", "seats"] (spD (Mn K C0 C1 C2 (n + 1)) [.v, .v] 2) :=
  def_ok (fn := f2) rfl Z.F2 s2 rfl rfl fun cdv A0 outer s H E hr => by
    have nd := s2.nd
    have hu := units_of hr
    have xf := Z.xf n
    have hr1 := hr
    exact (ss_cons (s_ret (ev_tup (af_cons (ev_call 1 A.f1 hr rfl Z.g1 Z.k1 Z.b1_0 .nil .nil (ar_cons (ev_var 0) (ar_cons ev_int (ar_cons (ev_globI rfl Z.g_MOST) ar_nil)))) (af_cons (ev_call 1 A.f1 hr rfl Z.g1 Z.k1 Z.b1_0 .nil .nil (ar_cons (ev_var 1) (ar_cons ev_int (ar_cons (ev_globI rfl Z.g_MOST) ar_nil)))) af_nil))))
  ss_nil)
theorem s3 : FnScope ["many", "here", "first", "second", "one"] ["many", "here"] (defScope (top 11)) := ⟨rfl, rfl, rfl, by decide +kernel, rfl, by decide +kernel, by decide +kernel⟩
theorem o3 (Z : Txt K mg C0 C1 C2 a0 a1 a2 a3 a4 a5 a6 a7 a8 a9 a10 a11 a12 a13 a14 a15 a16 a17 a18 a19 a20 a21 a22 a23 a24 a25 a26 a27 d0 d1 d2 d3 d4 d5 d6 d7 d8 d9 d10 d11 d12 d13 d14 d15 d16 d17 d18 d19 d20 d21 d22 d23 d24 d25 d26 d27) {n : Nat} (A : Ok P w K mg base C0 C1 C2 a0 a1 a2 a3 a4 a5 a6 a7 a8 a9 a10 a11 a12 a13 a14 a15 a16 a17 a18 a19 a20 a21 a22 a23 a24 a25 a26 a27 d0 d1 d2 d3 d4 d5 d6 d7 d8 d9 d10 d11 d12 d13 d14 d15 d16 d17 d18 d19 d20 d21 d22 d23 d24 d25 d26 d27 n) : FnOk P w K mg base (L2N.CX P w) (n + 2 + 1) a3 d3 ["many", "here"] (spD (Mn K C0 C1 C2 (n + 1)) [.v, .v] 3) :=
  def_ok (fn := f3) rfl Z.F3 s3 rfl rfl fun cdv A0 outer s H E hr => by
    have nd := s3.nd
    have hu := units_of hr
    have xf := Z.xf n
    have hr1 := hr
    exact (ss_cons (s_expr (ev_call 1 A.f1 hr rfl Z.g1 Z.k1 Z.b1_0 .nil .nil (ar_cons (ev_var 0) (ar_cons ev_int (ar_cons (ev_globI rfl Z.g_MOST) ar_nil)))))
  (ss_cons (s_ite (WV.tv (wv_or (tv_not (tv_of (ev_isi .tuple (ev_var 1) rfl Z.z_isinstance rfl Z.z_tuple) (fun _ => rfl) (fun _ => rfl))) (wv_or (tv_cmp .ne hu (ev_blt .len (fun _ => rfl) rfl Z.z_len (ar_cons (ev_var 1) ar_nil)) ev_int (nomark _)) (wv_or1 (tv_of (ev_comp (own := [("one", 4)]) rfl nd (blk_of (N := ["many", "here", "first", "second", "one"]) (sc := defScope (top 11)) (by decide +kernel)) (iv_seq (ev_var 1)) (fun _ _ _ _ _ => (tg_name nd rfl (by first | exact Or.inl rfl | exact Or.inr rfl))) (fun _ _ _ _ _ => (ts_yes (tv_not (tv_of (ev_call 0 A.f0 hr rfl Z.g0 Z.k0 Z.b0_0 .nil .nil (ar_cons (ev_var 4) (ar_cons ev_int (ar_cons (ev_var 0) ar_nil)))) (fun _ => rfl) (fun _ => rfl))))) (.yes _) (fun _ _ _ _ _ => (ev_var 4)) (by decide)) (fun _ => rfl) (fun _ => fin_comp)))))) (ss_cons (s_ret ev_bl)
  ss_nil) ss_nil)
  (ss_cons (s_asgT (ev_var 1) (tg_tup rfl (pgs_cons (pg_name (i := 2) nd rfl (by first | exact Or.inl rfl | exact Or.inr rfl)) (pgs_cons (pg_name (i := 3) nd rfl (by first | exact Or.inl rfl | exact Or.inr rfl)) pgs_nil))))
  (ss_cons (s_ite (tv_cmp2 .lt .lt hu ev_int (ev_var 2) (ev_var 3)) (ss_cons (s_ret ev_bl)
  ss_nil) ss_nil)
  (ss_cons (s_ret (ev_not (ev_cmp2 .lt .lt hu ev_int (ev_bin .sub (ev_var 0) (ev_var 2)) (ev_bin .sub (ev_var 0) (ev_var 3)))))
  ss_nil)))))
theorem s4 : FnScope ["seats", "found", "first", "second"] ["seats"] (defScope (top 12)) := ⟨rfl, rfl, rfl, by decide +kernel, rfl, by decide +kernel, by decide +kernel⟩
theorem o4 (Z : Txt K mg C0 C1 C2 a0 a1 a2 a3 a4 a5 a6 a7 a8 a9 a10 a11 a12 a13 a14 a15 a16 a17 a18 a19 a20 a21 a22 a23 a24 a25 a26 a27 d0 d1 d2 d3 d4 d5 d6 d7 d8 d9 d10 d11 d12 d13 d14 d15 d16 d17 d18 d19 d20 d21 d22 d23 d24 d25 d26 d27) {n : Nat} (A : Ok P w K mg base C0 C1 C2 a0 a1 a2 a3 a4 a5 a6 a7 a8 a9 a10 a11 a12 a13 a14 a15 a16 a17 a18 a19 a20 a21 a22 a23 a24 a25 a26 a27 d0 d1 d2 d3 d4 d5 d6 d7 d8 d9 d10 d11 d12 d13 d14 d15 d16 d17 d18 d19 d20 d21 d22 d23 d24 d25 d26 d27 n) : FnOk P w K mg base (L2N.CX P w) (n + 2 + 1) a4 d4 ["seats"] (spD (Mn K C0 C1 C2 (n + 1)) [.v] 4) :=
  def_ok (fn := f4) rfl Z.F4 s4 rfl rfl fun cdv A0 outer s H E hr => by
    have nd := s4.nd
    have hu := units_of hr
    have xf := Z.xf n
    have hr1 := hr
    exact (ss_cons (s_expr (ev_call 1 A.f1 hr rfl Z.g1 Z.k1 Z.b1_0 .nil .nil (ar_cons (ev_var 0) (ar_cons ev_int (ar_cons (ev_globI rfl Z.g_MOST) ar_nil)))))
  (ss_cons (s_asg (i := 1) nd rfl (by first | exact Or.inl rfl | exact Or.inr rfl) (ev_list af_nil))
  (ss_cons (s_for rfl (iv_rng1 rfl Z.z_range (ar_cons (ev_bin .add (ev_var 0) ev_int) ar_nil)) (tg_name nd rfl (by first | exact Or.inl rfl | exact Or.inr rfl)) (ss_cons (s_for rfl (iv_rng1 rfl Z.z_range (ar_cons (ev_bin .sub (ev_bin .add (ev_var 0) ev_int) (ev_var 2)) ar_nil)) (tg_name nd rfl (by first | exact Or.inl rfl | exact Or.inr rfl)) (ss_cons (s_ite (WV.tv (wv_and (tv_cmp .gt hu (ev_bin .add (ev_var 2) (ev_var 3)) ev_int (nomark _)) (wv_and1 (tv_not (tv_cmp2 .lt .lt hu ev_int (ev_var 2) (ev_var 3)))))) (ss_cons (s_expr (ev_mut .append 1 (af_cons (ev_tup (af_cons (ev_var 2) (af_cons (ev_var 3) af_nil))) af_nil)))
  ss_nil) ss_nil)
  ss_nil))
  ss_nil))
  (ss_cons (s_ret (ev_var 1))
  ss_nil))))
theorem s5 : FnScope ["many", "stand"] ["many", "stand"] (defScope (top 13)) := ⟨rfl, rfl, rfl, by decide +kernel, rfl, by decide +kernel, by decide +kernel⟩
theorem o5 (Z : Txt K mg C0 C1 C2 a0 a1 a2 a3 a4 a5 a6 a7 a8 a9 a10 a11 a12 a13 a14 a15 a16 a17 a18 a19 a20 a21 a22 a23 a24 a25 a26 a27 d0 d1 d2 d3 d4 d5 d6 d7 d8 d9 d10 d11 d12 d13 d14 d15 d16 d17 d18 d19 d20 d21 d22 d23 d24 d25 d26 d27) {n : Nat} (A : Ok P w K mg base C0 C1 C2 a0 a1 a2 a3 a4 a5 a6 a7 a8 a9 a10 a11 a12 a13 a14 a15 a16 a17 a18 a19 a20 a21 a22 a23 a24 a25 a26 a27 d0 d1 d2 d3 d4 d5 d6 d7 d8 d9 d10 d11 d12 d13 d14 d15 d16 d17 d18 d19 d20 d21 d22 d23 d24 d25 d26 d27 n) : FnOk P w K mg base (L2N.CX P w) (n + 2 + 1) a5 d5 ["many", "stand"] (spD (Mn K C0 C1 C2 (n + 1)) [.v, .v] 5) :=
  def_ok (fn := f5) rfl Z.F5 s5 rfl rfl fun cdv A0 outer s H E hr => by
    have nd := s5.nd
    have hu := units_of hr
    have xf := Z.xf n
    have hr1 := hr
    exact (ss_cons (s_expr (ev_call 1 A.f1 hr rfl Z.g1 Z.k1 Z.b1_0 .nil .nil (ar_cons (ev_var 0) (ar_cons ev_int (ar_cons (ev_globI rfl Z.g_MOST) ar_nil)))))
  (ss_cons (s_ite (WV.tv (wv_or (tv_not (tv_of (ev_isi .tuple (ev_var 1) rfl Z.z_isinstance rfl Z.z_tuple) (fun _ => rfl) (fun _ => rfl))) (wv_or (tv_cmp .ne hu (ev_blt .len (fun _ => rfl) rfl Z.z_len (ar_cons (ev_var 1) ar_nil)) ev_int (nomark _)) (wv_or (tv_cmp .notin hu (ev_idx (ev_var 1) ev_int (fun _ _ => rfl)) (ev_tup (af_cons ev_int (af_cons ev_int af_nil))) (by with_unfolding_all rfl)) (wv_or1 (tv_not (tv_of (ev_call 3 A.f3 hr rfl Z.g3 Z.k3 Z.b3 .nil .nil (ar_cons (ev_var 0) (ar_cons (ev_slc (ev_var 1) ov_none (ov_some ev_int)) ar_nil))) (fun _ => rfl) (fun _ => rfl)))))))) (ss_cons (s_raise (x := 2) (of_decide_eq_true rfl) Z.q2 Z.c2 Z.ck2 Z.cr2 Z.ct2 rfl rfl ev_str)
  ss_nil) ss_nil)
  (ss_cons (s_ret (ev_var 1))
  ss_nil)))
theorem s6 : FnScope ["many", "stand", "load", "sign", "there"] ["many", "stand", "load"] (defScope (top 14)) := ⟨rfl, rfl, rfl, by decide +kernel, rfl, by decide +kernel, by decide +kernel⟩
theorem o6 (Z : Txt K mg C0 C1 C2 a0 a1 a2 a3 a4 a5 a6 a7 a8 a9 a10 a11 a12 a13 a14 a15 a16 a17 a18 a19 a20 a21 a22 a23 a24 a25 a26 a27 d0 d1 d2 d3 d4 d5 d6 d7 d8 d9 d10 d11 d12 d13 d14 d15 d16 d17 d18 d19 d20 d21 d22 d23 d24 d25 d26 d27) {n : Nat} (A : Ok P w K mg base C0 C1 C2 a0 a1 a2 a3 a4 a5 a6 a7 a8 a9 a10 a11 a12 a13 a14 a15 a16 a17 a18 a19 a20 a21 a22 a23 a24 a25 a26 a27 d0 d1 d2 d3 d4 d5 d6 d7 d8 d9 d10 d11 d12 d13 d14 d15 d16 d17 d18 d19 d20 d21 d22 d23 d24 d25 d26 d27 n) : FnOk P w K mg base (L2N.CX P w) (n + 2 + 1) a6 d6 ["many", "stand", "load"] (spD (Mn K C0 C1 C2 (n + 1)) [.v, .v, .v] 6) :=
  def_ok (fn := f6) rfl Z.F6 s6 rfl rfl fun cdv A0 outer s H E hr => by
    have nd := s6.nd
    have hu := units_of hr
    have xf := Z.xf n
    have hr1 := hr
    exact (ss_cons (s_expr (ev_call 5 A.f5 hr rfl Z.g5 Z.k5 Z.b5 .nil .nil (ar_cons (ev_var 0) (ar_cons (ev_var 1) ar_nil))))
  (ss_cons (s_ite (tv_cmp .notin hu (ev_var 2) (ev_call 4 A.f4 hr rfl Z.g4 Z.k4 Z.b4 .nil .nil (ar_cons (ev_globI rfl Z.g_MOST) ar_nil)) (by with_unfolding_all rfl)) (ss_cons (s_raise (x := 2) (of_decide_eq_true rfl) Z.q2 Z.c2 Z.ck2 Z.cr2 Z.ct2 rfl rfl ev_str)
  ss_nil) ss_nil)
  (ss_cons (s_asg (i := 3) nd rfl (by first | exact Or.inl rfl | exact Or.inr rfl) (ev_ife (tv_cmp .eq hu (ev_idx (ev_var 1) ev_int (fun _ _ => rfl)) ev_int (nomark _)) (ev_neg ev_int) ev_int))
  (ss_cons (s_asg (i := 4) nd rfl (by first | exact Or.inl rfl | exact Or.inr rfl) (ev_tup (af_cons (ev_bin .add (ev_idx (ev_var 1) ev_int (fun _ _ => rfl)) (ev_bin .mul (ev_var 3) (ev_idx (ev_var 2) ev_int (fun _ _ => rfl)))) (af_cons (ev_bin .add (ev_idx (ev_var 1) ev_int (fun _ _ => rfl)) (ev_bin .mul (ev_var 3) (ev_idx (ev_var 2) ev_int (fun _ _ => rfl)))) af_nil))))
  (ss_cons (s_ite (tv_not (tv_of (ev_call 3 A.f3 hr rfl Z.g3 Z.k3 Z.b3 .nil .nil (ar_cons (ev_var 0) (ar_cons (ev_var 4) ar_nil))) (fun _ => rfl) (fun _ => rfl))) (ss_cons (s_raise (x := 2) (of_decide_eq_true rfl) Z.q2 Z.c2 Z.ck2 Z.cr2 Z.ct2 rfl rfl ev_str)
  ss_nil) ss_nil)
  (ss_cons (s_ret (ev_tup (af_cons (ev_idx (ev_var 4) ev_int (fun _ _ => rfl)) (af_cons (ev_idx (ev_var 4) ev_int (fun _ _ => rfl)) (af_cons (ev_bin .sub ev_int (ev_idx (ev_var 1) ev_int (fun _ _ => rfl))) af_nil)))))
  ss_nil))))))
theorem s7 : FnScope ["many", "seats", "stand", "found", "load", "there"] ["many", "seats", "stand"] (defScope (top 15)) := ⟨rfl, rfl, rfl, by decide +kernel, rfl, by decide +kernel, by decide +kernel⟩
theorem o7 (Z : Txt K mg C0 C1 C2 a0 a1 a2 a3 a4 a5 a6 a7 a8 a9 a10 a11 a12 a13 a14 a15 a16 a17 a18 a19 a20 a21 a22 a23 a24 a25 a26 a27 d0 d1 d2 d3 d4 d5 d6 d7 d8 d9 d10 d11 d12 d13 d14 d15 d16 d17 d18 d19 d20 d21 d22 d23 d24 d25 d26 d27) {n : Nat} (A : Ok P w K mg base C0 C1 C2 a0 a1 a2 a3 a4 a5 a6 a7 a8 a9 a10 a11 a12 a13 a14 a15 a16 a17 a18 a19 a20 a21 a22 a23 a24 a25 a26 a27 d0 d1 d2 d3 d4 d5 d6 d7 d8 d9 d10 d11 d12 d13 d14 d15 d16 d17 d18 d19 d20 d21 d22 d23 d24 d25 d26 d27 n) : FnOk P w K mg base (L2N.CX P w) (n + 2 + 1) a7 d7 ["many", "seats", "stand"] (spD (Mn K C0 C1 C2 (n + 1)) [.v, .v, .v] 7) :=
  def_ok (fn := f7) rfl Z.F7 s7 rfl rfl fun cdv A0 outer s H E hr => by
    have nd := s7.nd
    have hu := units_of hr
    have xf := Z.xf n
    have hr1 := hr
    exact (ss_cons (s_expr (ev_call 2 A.f2 hr rfl Z.g2 Z.k2 Z.b2 .nil .nil (ar_cons (ev_var 0) (ar_cons (ev_var 1) ar_nil))))
  (ss_cons (s_expr (ev_call 5 A.f5 hr rfl Z.g5 Z.k5 Z.b5 .nil .nil (ar_cons (ev_var 0) (ar_cons (ev_var 2) ar_nil))))
  (ss_cons (by first | exact s_asg (i := 3) nd rfl (by first | exact Or.inl rfl | exact Or.inr rfl) (ev_comp (own := [("load", 4)]) rfl nd (blk_of (N := ["many", "seats", "stand", "found", "load", "there"]) (sc := defScope (top 15)) (by decide +kernel)) (iv_seq (ev_call 4 A.f4 hr rfl Z.g4 Z.k4 Z.b4 .nil .nil (ar_cons (ev_var 1) ar_nil))) (fun _ _ _ _ _ => (tg_name nd rfl (by first | exact Or.inl rfl | exact Or.inr rfl))) (fun _ _ _ _ _ => ts_no) .no (fun _ _ _ _ _ => (ev_call 10 A.f10 hr rfl Z.g10 Z.k10 Z.b10 .nil .nil (ar_cons (ev_var 0) (ar_cons (ev_var 2) (ar_cons (ev_var 4) ar_nil))))) (by decide)) | exact (s_asgLc (i := 3) (own := [("load", 4)]) rfl nd rfl (by exact rfl) rfl (blk_of (N := ["many", "seats", "stand", "found", "load", "there"]) (sc := defScope (top 15)) (by decide +kernel)) (iv_seq (ev_call 4 A.f4 hr rfl Z.g4 Z.k4 Z.b4 .nil .nil (ar_cons (ev_var 1) ar_nil))) (fun _ _ _ _ _ => (tg_name nd rfl (by first | exact Or.inl rfl | exact Or.inr rfl))) (fun _ _ _ _ _ => ts_no) .no (fun _ _ _ _ _ => (ev_call 10 A.f10 hr rfl Z.g10 Z.k10 Z.b10 .nil .nil (ar_cons (ev_var 0) (ar_cons (ev_var 2) (ar_cons (ev_var 4) ar_nil))))) (by decide)))
  (ss_cons (s_ret (ev_comp (own := [("there", 5)]) rfl nd (blk_of (N := ["many", "seats", "stand", "found", "load", "there"]) (sc := defScope (top 15)) (by decide +kernel)) (iv_seq (ev_var 3)) (fun _ _ _ _ _ => (tg_name nd rfl (by first | exact Or.inl rfl | exact Or.inr rfl))) (fun _ _ _ _ _ => (ts_yes (tv_notN (ev_var 5)))) (.yes _) (fun _ _ _ _ _ => (ev_var 5)) (by decide)))
  ss_nil))))
theorem s8 : FnScope ["many", "seats", "told", "here", "load"] ["many", "seats", "told"] (defScope (top 16)) := ⟨rfl, rfl, rfl, by decide +kernel, rfl, by decide +kernel, by decide +kernel⟩
theorem o8 (Z : Txt K mg C0 C1 C2 a0 a1 a2 a3 a4 a5 a6 a7 a8 a9 a10 a11 a12 a13 a14 a15 a16 a17 a18 a19 a20 a21 a22 a23 a24 a25 a26 a27 d0 d1 d2 d3 d4 d5 d6 d7 d8 d9 d10 d11 d12 d13 d14 d15 d16 d17 d18 d19 d20 d21 d22 d23 d24 d25 d26 d27) {n : Nat} (A : Ok P w K mg base C0 C1 C2 a0 a1 a2 a3 a4 a5 a6 a7 a8 a9 a10 a11 a12 a13 a14 a15 a16 a17 a18 a19 a20 a21 a22 a23 a24 a25 a26 a27 d0 d1 d2 d3 d4 d5 d6 d7 d8 d9 d10 d11 d12 d13 d14 d15 d16 d17 d18 d19 d20 d21 d22 d23 d24 d25 d26 d27 n) : FnOk P w K mg base (L2N.CX P w) (n + 2 + 1) a8 d8 ["many", "seats", "told"] (spD (Mn K C0 C1 C2 (n + 1)) [.v, .v, .v] 8) :=
  def_ok (fn := f8) rfl Z.F8 s8 rfl rfl fun cdv A0 outer s H E hr => by
    have nd := s8.nd
    have hu := units_of hr
    have xf := Z.xf n
    have hr1 := hr
    exact (ss_cons (s_expr (ev_call 2 A.f2 hr rfl Z.g2 Z.k2 Z.b2 .nil .nil (ar_cons (ev_var 0) (ar_cons (ev_var 1) ar_nil))))
  (ss_cons (s_asg (i := 3) nd rfl (by first | exact Or.inl rfl | exact Or.inr rfl) (ev_tup (af_cons (ev_var 0) (af_cons (ev_var 0) (af_cons ev_int af_nil)))))
  (ss_cons (s_for rfl (iv_seq (ev_var 2)) (tg_name nd rfl (by first | exact Or.inl rfl | exact Or.inr rfl)) (ss_cons (s_ite (tv_cmp .notin hu (ev_var 4) (ev_call 4 A.f4 hr rfl Z.g4 Z.k4 Z.b4 .nil .nil (ar_cons (ev_var 1) ar_nil)) (by with_unfolding_all rfl)) (ss_cons (s_raise (x := 2) (of_decide_eq_true rfl) Z.q2 Z.c2 Z.ck2 Z.cr2 Z.ct2 rfl rfl ev_str)
  ss_nil) ss_nil)
  (ss_cons (s_asg (i := 3) nd rfl (by first | exact Or.inl rfl | exact Or.inr rfl) (ev_call 6 A.f6 hr rfl Z.g6 Z.k6 Z.b6 .nil .nil (ar_cons (ev_var 0) (ar_cons (ev_var 3) (ar_cons (ev_var 4) ar_nil)))))
  ss_nil)))
  (ss_cons (s_ret (ev_var 3))
  ss_nil))))
theorem s9 : FnScope ["many", "seats", "start", "ways", "waiting", "at", "here", "load", "there"] ["many", "seats"] (defScope (top 17)) := ⟨rfl, rfl, rfl, by decide +kernel, rfl, by decide +kernel, by decide +kernel⟩
theorem o9 (Z : Txt K mg C0 C1 C2 a0 a1 a2 a3 a4 a5 a6 a7 a8 a9 a10 a11 a12 a13 a14 a15 a16 a17 a18 a19 a20 a21 a22 a23 a24 a25 a26 a27 d0 d1 d2 d3 d4 d5 d6 d7 d8 d9 d10 d11 d12 d13 d14 d15 d16 d17 d18 d19 d20 d21 d22 d23 d24 d25 d26 d27) {n : Nat} (A : Ok P w K mg base C0 C1 C2 a0 a1 a2 a3 a4 a5 a6 a7 a8 a9 a10 a11 a12 a13 a14 a15 a16 a17 a18 a19 a20 a21 a22 a23 a24 a25 a26 a27 d0 d1 d2 d3 d4 d5 d6 d7 d8 d9 d10 d11 d12 d13 d14 d15 d16 d17 d18 d19 d20 d21 d22 d23 d24 d25 d26 d27 n) : FnOk P w K mg base (L2N.CX P w) (n + 2 + 1) a9 d9 ["many", "seats"] (spD (Mn K C0 C1 C2 (n + 1)) [.v, .v] 9) :=
  def_ok (fn := f9) rfl Z.F9 s9 rfl rfl fun cdv A0 outer s H E hr => by
    have nd := s9.nd
    have hu := units_of hr
    have xf := Z.xf n
    have hr1 := hr
    exact (ss_cons (s_expr (ev_call 2 A.f2 hr rfl Z.g2 Z.k2 Z.b2 .nil .nil (ar_cons (ev_var 0) (ar_cons (ev_var 1) ar_nil))))
  (ss_cons (s_asg (i := 2) nd rfl (by first | exact Or.inl rfl | exact Or.inr rfl) (ev_tup (af_cons (ev_var 0) (af_cons (ev_var 0) (af_cons ev_int af_nil)))))
  (ss_cons (s_asg (i := 3) nd rfl (by first | exact Or.inl rfl | exact Or.inr rfl) (ev_dicE (units1_of hr) (ev_var 2) (ev_list af_nil)))
  (ss_cons (s_asg (i := 4) nd rfl (by first | exact Or.inl rfl | exact Or.inr rfl) (ev_list (af_cons (ev_var 2) af_nil)))
  (ss_cons (s_asg (i := 5) nd rfl (by first | exact Or.inl rfl | exact Or.inr rfl) ev_int)
  (ss_cons (s_whl (tv_cmp .lt hu (ev_var 5) (ev_blt .len (fun _ => rfl) rfl Z.z_len (ar_cons (ev_var 4) ar_nil)) (nomark _)) (ss_cons (s_asg (i := 6) nd rfl (by first | exact Or.inl rfl | exact Or.inr rfl) (ev_idx (ev_var 4) (ev_var 5) (fun _ _ => rfl)))
  (ss_cons (s_ite (tv_cmp .eq hu (ev_var 6) (ev_tup (af_cons ev_int (af_cons ev_int (af_cons ev_int af_nil)))) (nomark _)) (ss_cons (s_ret (ev_dget 3 hu (ev_var 6) (fun _ _ => rfl)))
  ss_nil) ss_nil)
  (ss_cons (s_for rfl (iv_seq (ev_call 4 A.f4 hr rfl Z.g4 Z.k4 Z.b4 .nil .nil (ar_cons (ev_var 1) ar_nil))) (tg_name nd rfl (by first | exact Or.inl rfl | exact Or.inr rfl)) (ss_cons (s_asg (i := 8) nd rfl (by first | exact Or.inl rfl | exact Or.inr rfl) (ev_call 10 A.f10 hr rfl Z.g10 Z.k10 Z.b10 .nil .nil (ar_cons (ev_var 0) (ar_cons (ev_var 6) (ar_cons (ev_var 7) ar_nil)))))
  (ss_cons (s_ite (WV.tv (wv_and (tv_notN (ev_var 8)) (wv_and1 (tv_cmp .notin hu (ev_var 8) (ev_var 3) (by with_unfolding_all rfl))))) (ss_cons (s_asgD (i := 3) hu rfl (by first | exact Or.inl rfl | exact Or.inr (Or.inl rfl) | exact Or.inr (Or.inr rfl)) (ev_bin .add (ev_dget 3 hu (ev_var 6) (fun _ _ => rfl)) (ev_list (af_cons (ev_var 7) af_nil))) (ev_var 8))
  (ss_cons (s_expr (ev_mut .append 4 (af_cons (ev_var 8) af_nil)))
  ss_nil)) ss_nil)
  ss_nil)))
  (ss_cons (s_asg (i := 5) nd rfl (by first | exact Or.inl rfl | exact Or.inr rfl) (ev_bin .add (ev_var 5) ev_int))
  ss_nil)))))
  (ss_cons (s_ret ev_non)
  ss_nil)))))))
theorem s10 : FnScope ["many", "here", "load"] ["many", "here", "load"] (defScope (top 18)) := ⟨rfl, rfl, rfl, by decide +kernel, rfl, by decide +kernel, by decide +kernel⟩
theorem o10 (Z : Txt K mg C0 C1 C2 a0 a1 a2 a3 a4 a5 a6 a7 a8 a9 a10 a11 a12 a13 a14 a15 a16 a17 a18 a19 a20 a21 a22 a23 a24 a25 a26 a27 d0 d1 d2 d3 d4 d5 d6 d7 d8 d9 d10 d11 d12 d13 d14 d15 d16 d17 d18 d19 d20 d21 d22 d23 d24 d25 d26 d27) {n : Nat} (A : Ok P w K mg base C0 C1 C2 a0 a1 a2 a3 a4 a5 a6 a7 a8 a9 a10 a11 a12 a13 a14 a15 a16 a17 a18 a19 a20 a21 a22 a23 a24 a25 a26 a27 d0 d1 d2 d3 d4 d5 d6 d7 d8 d9 d10 d11 d12 d13 d14 d15 d16 d17 d18 d19 d20 d21 d22 d23 d24 d25 d26 d27 n) : FnOk P w K mg base (L2N.CX P w) (n + 2 + 1) a10 d10 ["many", "here", "load"] (spD (Mn K C0 C1 C2 (n + 1)) [.v, .v, .v] 10) :=
  def_ok (fn := f10) rfl Z.F10 s10 rfl rfl fun cdv A0 outer s H E hr => by
    have nd := s10.nd
    have hu := units_of hr
    have xf := Z.xf n
    have hr1 := hr
    exact (ss_cons (s_tryR0 xf rfl (of_decide_eq_true rfl) rfl rfl ⟨rfl, by decide, .inl Z.c2⟩ (fun _ _ => (ss_cons (s_ret (ev_call 6 A.f6 hr rfl Z.g6 Z.k6 Z.b6 .nil .nil (ar_cons (ev_var 0) (ar_cons (ev_var 1) (ar_cons (ev_var 2) ar_nil)))))
  ss_nil)) hv_non)
  ss_nil)
theorem s11 : FnScope ["many", "seats"] ["many", "seats"] (defScope (top 19)) := ⟨rfl, rfl, rfl, by decide +kernel, rfl, by decide +kernel, by decide +kernel⟩
theorem o11 (Z : Txt K mg C0 C1 C2 a0 a1 a2 a3 a4 a5 a6 a7 a8 a9 a10 a11 a12 a13 a14 a15 a16 a17 a18 a19 a20 a21 a22 a23 a24 a25 a26 a27 d0 d1 d2 d3 d4 d5 d6 d7 d8 d9 d10 d11 d12 d13 d14 d15 d16 d17 d18 d19 d20 d21 d22 d23 d24 d25 d26 d27) {n : Nat} (A : Ok P w K mg base C0 C1 C2 a0 a1 a2 a3 a4 a5 a6 a7 a8 a9 a10 a11 a12 a13 a14 a15 a16 a17 a18 a19 a20 a21 a22 a23 a24 a25 a26 a27 d0 d1 d2 d3 d4 d5 d6 d7 d8 d9 d10 d11 d12 d13 d14 d15 d16 d17 d18 d19 d20 d21 d22 d23 d24 d25 d26 d27 n) : FnOk P w K mg base (L2N.CX P w) (n + 2 + 1) a11 d11 ["many", "seats"] (spD (Mn K C0 C1 C2 (n + 1)) [.v, .v] 11) :=
  def_ok (fn := f11) rfl Z.F11 s11 rfl rfl fun cdv A0 outer s H E hr => by
    have nd := s11.nd
    have hu := units_of hr
    have xf := Z.xf n
    have hr1 := hr
    exact (ss_cons (s_expr (ev_call 2 A.f2 hr rfl Z.g2 Z.k2 Z.b2 .nil .nil (ar_cons (ev_var 0) (ar_cons (ev_var 1) ar_nil))))
  (ss_cons (s_ret (ev_cmp .le hu (ev_var 0) (ev_idx (ev_list (af_cons ev_int (af_cons ev_int (af_cons (ev_globI rfl Z.g_MOST) af_nil)))) (ev_bin .sub (ev_blt .min (fun _ => rfl) rfl Z.z_min (ar_cons (ev_var 1) (ar_cons ev_int ar_nil))) ev_int) (fun _ _ => rfl)) (nomark _)))
  ss_nil))
theorem s12 : FnScope ["many", "seats", "told", "best"] ["many", "seats", "told"] (defScope (top 20)) := ⟨rfl, rfl, rfl, by decide +kernel, rfl, by decide +kernel, by decide +kernel⟩
theorem o12 (Z : Txt K mg C0 C1 C2 a0 a1 a2 a3 a4 a5 a6 a7 a8 a9 a10 a11 a12 a13 a14 a15 a16 a17 a18 a19 a20 a21 a22 a23 a24 a25 a26 a27 d0 d1 d2 d3 d4 d5 d6 d7 d8 d9 d10 d11 d12 d13 d14 d15 d16 d17 d18 d19 d20 d21 d22 d23 d24 d25 d26 d27) {n : Nat} (A : Ok P w K mg base C0 C1 C2 a0 a1 a2 a3 a4 a5 a6 a7 a8 a9 a10 a11 a12 a13 a14 a15 a16 a17 a18 a19 a20 a21 a22 a23 a24 a25 a26 a27 d0 d1 d2 d3 d4 d5 d6 d7 d8 d9 d10 d11 d12 d13 d14 d15 d16 d17 d18 d19 d20 d21 d22 d23 d24 d25 d26 d27 n) : FnOk P w K mg base (L2N.CX P w) (n + 2 + 1) a12 d12 ["many", "seats", "told"] (spD (Mn K C0 C1 C2 (n + 1)) [.v, .v, .v] 12) :=
  def_ok (fn := f12) rfl Z.F12 s12 rfl rfl fun cdv A0 outer s H E hr => by
    have nd := s12.nd
    have hu := units_of hr
    have xf := Z.xf n
    have hr1 := hr
    exact (ss_cons (s_asg (i := 3) nd rfl (by first | exact Or.inl rfl | exact Or.inr rfl) (ev_call 9 A.f9 hr rfl Z.g9 Z.k9 Z.b9 .nil .nil (ar_cons (ev_var 0) (ar_cons (ev_var 1) ar_nil))))
  (ss_cons (s_tryR0 xf rfl (of_decide_eq_true rfl) rfl rfl ⟨rfl, by decide, .inl Z.c2⟩ (fun _ _ => (ss_cons (s_ret (ev_and (ev_notN (ev_var 3)) (ev_and (ev_cmp .eq hu (ev_call 8 A.f8 hr rfl Z.g8 Z.k8 Z.b8 .nil .nil (ar_cons (ev_var 0) (ar_cons (ev_var 1) (ar_cons (ev_var 2) ar_nil)))) (ev_tup (af_cons ev_int (af_cons ev_int (af_cons ev_int af_nil)))) (nomark _)) (ev_one (ev_cmp .eq hu (ev_blt .len (fun _ => rfl) rfl Z.z_len (ar_cons (ev_var 2) ar_nil)) (ev_blt .len (fun _ => rfl) rfl Z.z_len (ar_cons (ev_var 3) ar_nil)) (nomark _))))))
  ss_nil)) hv_bl)
  ss_nil))
theorem s13 : FnScope ["many", "seats", "stands", "told", "stand", "there"] ["many", "seats", "stands"] (defScope (top 21)) := ⟨rfl, rfl, rfl, by decide +kernel, rfl, by decide +kernel, by decide +kernel⟩
theorem o13 (Z : Txt K mg C0 C1 C2 a0 a1 a2 a3 a4 a5 a6 a7 a8 a9 a10 a11 a12 a13 a14 a15 a16 a17 a18 a19 a20 a21 a22 a23 a24 a25 a26 a27 d0 d1 d2 d3 d4 d5 d6 d7 d8 d9 d10 d11 d12 d13 d14 d15 d16 d17 d18 d19 d20 d21 d22 d23 d24 d25 d26 d27) {n : Nat} (A : Ok P w K mg base C0 C1 C2 a0 a1 a2 a3 a4 a5 a6 a7 a8 a9 a10 a11 a12 a13 a14 a15 a16 a17 a18 a19 a20 a21 a22 a23 a24 a25 a26 a27 d0 d1 d2 d3 d4 d5 d6 d7 d8 d9 d10 d11 d12 d13 d14 d15 d16 d17 d18 d19 d20 d21 d22 d23 d24 d25 d26 d27 n) : FnOk P w K mg base (L2N.CX P w) (n + 2 + 1) a13 d13 ["many", "seats", "stands"] (spD (Mn K C0 C1 C2 (n + 1)) [.v, .v, .v] 13) :=
  def_ok (fn := f13) rfl Z.F13 s13 rfl rfl fun cdv A0 outer s H E hr => by
    have nd := s13.nd
    have hu := units_of hr
    have xf := Z.xf n
    have hr1 := hr
    exact (ss_cons (s_expr (ev_call 2 A.f2 hr rfl Z.g2 Z.k2 Z.b2 .nil .nil (ar_cons (ev_var 0) (ar_cons (ev_var 1) ar_nil))))
  (ss_cons (s_asg (i := 3) nd rfl (by first | exact Or.inl rfl | exact Or.inr rfl) (ev_blt .list (fun _ => rfl) rfl Z.z_list (ar_cons (ev_var 2) ar_nil)))
  (ss_cons (s_ite (WV.tv (wv_or (tv_cmp .ne hu (ev_var 3) (ev_ssortT (L2.Room.units hr) (own := [("stand", 4)]) rfl nd (blk_of (N := ["many", "seats", "stands", "told", "stand", "there"]) (sc := defScope (top 21)) (by decide +kernel)) rfl Z.z_sorted (iv_seq (ev_var 3)) (fun _ _ _ _ _ => (tg_name nd rfl (by first | exact Or.inl rfl | exact Or.inr rfl))) (fun _ _ _ _ _ => ts_no) .no (fun _ _ _ _ _ => (ev_var 4)) (by decide)) (nomark _)) (wv_or (tv_cmp .notin hu (ev_tup (af_cons (ev_var 0) (af_cons (ev_var 0) (af_cons ev_int af_nil)))) (ev_var 3) (by with_unfolding_all rfl)) (wv_or1 (tv_cmp .isin hu (ev_tup (af_cons ev_int (af_cons ev_int (af_cons ev_int af_nil)))) (ev_var 3) (by with_unfolding_all rfl)))))) (ss_cons (s_ret ev_bl)
  ss_nil) ss_nil)
  (ss_cons (s_for rfl (iv_seq (ev_var 3)) (tg_name nd rfl (by first | exact Or.inl rfl | exact Or.inr rfl)) (ss_cons (s_ite (WV.tv (wv_or (tv_not (tv_of (ev_isi .tuple (ev_var 4) rfl Z.z_isinstance rfl Z.z_tuple) (fun _ => rfl) (fun _ => rfl))) (wv_or (tv_cmp .ne hu (ev_blt .len (fun _ => rfl) rfl Z.z_len (ar_cons (ev_var 4) ar_nil)) ev_int (nomark _)) (wv_or (tv_cmp .notin hu (ev_idx (ev_var 4) ev_int (fun _ _ => rfl)) (ev_tup (af_cons ev_int (af_cons ev_int af_nil))) (by with_unfolding_all rfl)) (wv_or1 (tv_not (tv_of (ev_call 3 A.f3 hr rfl Z.g3 Z.k3 Z.b3 .nil .nil (ar_cons (ev_var 0) (ar_cons (ev_slc (ev_var 4) ov_none (ov_some ev_int)) ar_nil))) (fun _ => rfl) (fun _ => rfl)))))))) (ss_cons (s_ret ev_bl)
  ss_nil) ss_nil)
  (ss_cons (s_ite (tv_of (ev_comp (own := [("there", 5)]) rfl nd (blk_of (N := ["many", "seats", "stands", "told", "stand", "there"]) (sc := defScope (top 21)) (by decide +kernel)) (iv_seq (ev_call 7 A.f7 hr rfl Z.g7 Z.k7 Z.b7 .nil .nil (ar_cons (ev_var 0) (ar_cons (ev_var 1) (ar_cons (ev_var 4) ar_nil))))) (fun _ _ _ _ _ => (tg_name nd rfl (by first | exact Or.inl rfl | exact Or.inr rfl))) (fun _ _ _ _ _ => (ts_yes (tv_cmp .notin hu (ev_var 5) (ev_var 3) (by with_unfolding_all rfl)))) (.yes _) (fun _ _ _ _ _ => (ev_var 5)) (by decide)) (fun _ => rfl) (fun _ => fin_comp)) (ss_cons (s_ret ev_bl)
  ss_nil) ss_nil)
  ss_nil)))
  (ss_cons (s_ret ev_bl)
  ss_nil)))))
theorem s14 : FnScope ["many", "seats", "found", "at", "there"] ["many", "seats"] (defScope (top 22)) := ⟨rfl, rfl, rfl, by decide +kernel, rfl, by decide +kernel, by decide +kernel⟩
theorem o14 (Z : Txt K mg C0 C1 C2 a0 a1 a2 a3 a4 a5 a6 a7 a8 a9 a10 a11 a12 a13 a14 a15 a16 a17 a18 a19 a20 a21 a22 a23 a24 a25 a26 a27 d0 d1 d2 d3 d4 d5 d6 d7 d8 d9 d10 d11 d12 d13 d14 d15 d16 d17 d18 d19 d20 d21 d22 d23 d24 d25 d26 d27) {n : Nat} (A : Ok P w K mg base C0 C1 C2 a0 a1 a2 a3 a4 a5 a6 a7 a8 a9 a10 a11 a12 a13 a14 a15 a16 a17 a18 a19 a20 a21 a22 a23 a24 a25 a26 a27 d0 d1 d2 d3 d4 d5 d6 d7 d8 d9 d10 d11 d12 d13 d14 d15 d16 d17 d18 d19 d20 d21 d22 d23 d24 d25 d26 d27 n) : FnOk P w K mg base (L2N.CX P w) (n + 2 + 1) a14 d14 ["many", "seats"] (spD (Mn K C0 C1 C2 (n + 1)) [.v, .v] 14) :=
  def_ok (fn := f14) rfl Z.F14 s14 rfl rfl fun cdv A0 outer s H E hr => by
    have nd := s14.nd
    have hu := units_of hr
    have xf := Z.xf n
    have hr1 := hr
    exact (ss_cons (s_expr (ev_call 2 A.f2 hr rfl Z.g2 Z.k2 Z.b2 .nil .nil (ar_cons (ev_var 0) (ar_cons (ev_var 1) ar_nil))))
  (ss_cons (s_asg (i := 2) nd rfl (by first | exact Or.inl rfl | exact Or.inr rfl) (ev_list (af_cons (ev_tup (af_cons (ev_var 0) (af_cons (ev_var 0) (af_cons ev_int af_nil)))) af_nil)))
  (ss_cons (s_asg (i := 3) nd rfl (by first | exact Or.inl rfl | exact Or.inr rfl) ev_int)
  (ss_cons (s_whl (tv_cmp .lt hu (ev_var 3) (ev_blt .len (fun _ => rfl) rfl Z.z_len (ar_cons (ev_var 2) ar_nil)) (nomark _)) (ss_cons (s_expr (ev_mut .extend 2 (af_cons (ev_comp (own := [("there", 4)]) rfl nd (blk_of (N := ["many", "seats", "found", "at", "there"]) (sc := defScope (top 22)) (by decide +kernel)) (iv_seq (ev_call 7 A.f7 hr rfl Z.g7 Z.k7 Z.b7 .nil .nil (ar_cons (ev_var 0) (ar_cons (ev_var 1) (ar_cons (ev_idx (ev_var 2) (ev_var 3) (fun _ _ => rfl)) ar_nil))))) (fun _ _ _ _ _ => (tg_name nd rfl (by first | exact Or.inl rfl | exact Or.inr rfl))) (fun _ _ _ _ _ => (ts_yes (tv_cmp .notin hu (ev_var 4) (ev_var 2) (by with_unfolding_all rfl)))) (.yes _) (fun _ _ _ _ _ => (ev_var 4)) (by decide)) af_nil)))
  (ss_cons (s_asg (i := 3) nd rfl (by first | exact Or.inl rfl | exact Or.inr rfl) (ev_bin .add (ev_var 3) ev_int))
  ss_nil)))
  (ss_cons (s_ret (ev_sortD (units2_of hr) rfl Z.z_sorted (ar_cons (ev_var 2) ar_nil)))
  ss_nil)))))
theorem s15 : FnScope ["many", "seats", "told"] ["many", "seats"] (defScope (top 23)) := ⟨rfl, rfl, rfl, by decide +kernel, rfl, by decide +kernel, by decide +kernel⟩
theorem o15 (Z : Txt K mg C0 C1 C2 a0 a1 a2 a3 a4 a5 a6 a7 a8 a9 a10 a11 a12 a13 a14 a15 a16 a17 a18 a19 a20 a21 a22 a23 a24 a25 a26 a27 d0 d1 d2 d3 d4 d5 d6 d7 d8 d9 d10 d11 d12 d13 d14 d15 d16 d17 d18 d19 d20 d21 d22 d23 d24 d25 d26 d27) {n : Nat} (A : Ok P w K mg base C0 C1 C2 a0 a1 a2 a3 a4 a5 a6 a7 a8 a9 a10 a11 a12 a13 a14 a15 a16 a17 a18 a19 a20 a21 a22 a23 a24 a25 a26 a27 d0 d1 d2 d3 d4 d5 d6 d7 d8 d9 d10 d11 d12 d13 d14 d15 d16 d17 d18 d19 d20 d21 d22 d23 d24 d25 d26 d27 n) : FnOk P w K mg base (L2N.CX P w) (n + 2 + 1) a15 d15 ["many", "seats"] (spD (Mn K C0 C1 C2 (n + 1)) [.v, .v] 15) :=
  def_ok (fn := f15) rfl Z.F15 s15 rfl rfl fun cdv A0 outer s H E hr => by
    have nd := s15.nd
    have hu := units_of hr
    have xf := Z.xf n
    have hr1 := hr
    exact (ss_cons (s_asg (i := 2) nd rfl (by first | exact Or.inl rfl | exact Or.inr rfl) (ev_call 9 A.f9 hr rfl Z.g9 Z.k9 Z.b9 .nil .nil (ar_cons (ev_var 0) (ar_cons (ev_var 1) ar_nil))))
  (ss_cons (s_ret (ev_ife (tv_isN (ev_var 2)) ev_non (ev_blt .len (fun _ => rfl) rfl Z.z_len (ar_cons (ev_var 2) ar_nil))))
  ss_nil))
theorem s16 : FnScope ["actual", "due", "k"] ["actual", "due"] (defScope (top 25)) := ⟨rfl, rfl, rfl, by decide +kernel, rfl, by decide +kernel, by decide +kernel⟩
theorem o16 (Z : Txt K mg C0 C1 C2 a0 a1 a2 a3 a4 a5 a6 a7 a8 a9 a10 a11 a12 a13 a14 a15 a16 a17 a18 a19 a20 a21 a22 a23 a24 a25 a26 a27 d0 d1 d2 d3 d4 d5 d6 d7 d8 d9 d10 d11 d12 d13 d14 d15 d16 d17 d18 d19 d20 d21 d22 d23 d24 d25 d26 d27) {n : Nat} (A : Ok P w K mg base C0 C1 C2 a0 a1 a2 a3 a4 a5 a6 a7 a8 a9 a10 a11 a12 a13 a14 a15 a16 a17 a18 a19 a20 a21 a22 a23 a24 a25 a26 a27 d0 d1 d2 d3 d4 d5 d6 d7 d8 d9 d10 d11 d12 d13 d14 d15 d16 d17 d18 d19 d20 d21 d22 d23 d24 d25 d26 d27 n) : FnOk P w K mg base (L2N.CX P w) (n + 2 + 1) a16 d16 ["actual", "due"] (spD (Mn K C0 C1 C2 (n + 1)) [.v, .v] 16) :=
  def_ok (fn := f16) rfl Z.F16 s16 rfl rfl fun cdv A0 outer s H E hr => by
    have nd := s16.nd
    have hu := units_of hr
    have xf := Z.xf n
    have hr1 := hr
    exact (ss_cons (s_ite (tv_isN (ev_var 1)) (ss_cons (s_ret (ev_isN (ev_var 0)))
  ss_nil) ss_nil)
  (ss_cons (s_ite (tv_of (ev_isi2 .tuple .list (ev_var 1) rfl Z.z_isinstance rfl Z.z_tuple rfl Z.z_list) (fun _ => rfl) (fun _ => rfl)) (ss_cons (s_ite (WV.tv (wv_or (tv_cmp .ne hu (ev_isi .tuple (ev_var 1) rfl Z.z_isinstance rfl Z.z_tuple) (ev_isi .tuple (ev_var 0) rfl Z.z_isinstance rfl Z.z_tuple) (nomark _)) (wv_or1 (tv_cmp .ne hu (ev_isi .list (ev_var 1) rfl Z.z_isinstance rfl Z.z_list) (ev_isi .list (ev_var 0) rfl Z.z_isinstance rfl Z.z_list) (nomark _))))) (ss_cons (s_ret ev_bl)
  ss_nil) ss_nil)
  (ss_cons (s_ite (tv_cmp .ne hu (ev_blt .len (fun _ => rfl) rfl Z.z_len (ar_cons (ev_var 0) ar_nil)) (ev_blt .len (fun _ => rfl) rfl Z.z_len (ar_cons (ev_var 1) ar_nil)) (nomark _)) (ss_cons (s_ret ev_bl)
  ss_nil) ss_nil)
  (ss_cons (s_for rfl (iv_rng1 rfl Z.z_range (ar_cons (ev_blt .len (fun _ => rfl) rfl Z.z_len (ar_cons (ev_var 1) ar_nil)) ar_nil)) (tg_name nd rfl (by first | exact Or.inl rfl | exact Or.inr rfl)) (ss_cons (s_ite (tv_not (tv_of (ev_call 16 A.f16 hr rfl Z.g16 Z.k16 Z.b16 .nil .nil (ar_cons (ev_idx (ev_var 0) (ev_var 2) (fun _ _ => rfl)) (ar_cons (ev_idx (ev_var 1) (ev_var 2) (fun _ _ => rfl)) ar_nil))) (fun _ => rfl) (fun _ => rfl))) (ss_cons (s_ret ev_bl)
  ss_nil) ss_nil)
  ss_nil))
  (ss_cons (s_ret ev_bl)
  ss_nil)))) ss_nil)
  (ss_cons (s_ite (tv_of (ev_isi .bool (ev_var 1) rfl Z.z_isinstance rfl Z.z_bool) (fun _ => rfl) (fun _ => rfl)) (ss_cons (s_ret (ev_and (ev_isi .bool (ev_var 0) rfl Z.z_isinstance rfl Z.z_bool) (ev_one (ev_cmp .eq hu (ev_var 0) (ev_var 1) (nomark _)))))
  ss_nil) ss_nil)
  (ss_cons (s_ite (tv_of (ev_isi .int (ev_var 1) rfl Z.z_isinstance rfl Z.z_int) (fun _ => rfl) (fun _ => rfl)) (ss_cons (s_ret (ev_and (ev_isi .int (ev_var 0) rfl Z.z_isinstance rfl Z.z_int) (ev_and (ev_not (ev_isi .bool (ev_var 0) rfl Z.z_isinstance rfl Z.z_bool)) (ev_one (ev_cmp .eq hu (ev_var 0) (ev_var 1) (nomark _))))))
  ss_nil) ss_nil)
  (ss_cons (s_ret (ev_and (ev_isi .str (ev_var 0) rfl Z.z_isinstance rfl Z.z_str) (ev_one (ev_cmp .eq hu (ev_var 0) (ev_var 1) (nomark _)))))
  ss_nil)))))
theorem s17 : FnScope ["script"] ["script"] (defScope (top 26)) := ⟨rfl, rfl, rfl, by decide +kernel, rfl, by decide +kernel, by decide +kernel⟩
theorem o17 (Z : Txt K mg C0 C1 C2 a0 a1 a2 a3 a4 a5 a6 a7 a8 a9 a10 a11 a12 a13 a14 a15 a16 a17 a18 a19 a20 a21 a22 a23 a24 a25 a26 a27 d0 d1 d2 d3 d4 d5 d6 d7 d8 d9 d10 d11 d12 d13 d14 d15 d16 d17 d18 d19 d20 d21 d22 d23 d24 d25 d26 d27) {n : Nat} (A : Ok P w K mg base C0 C1 C2 a0 a1 a2 a3 a4 a5 a6 a7 a8 a9 a10 a11 a12 a13 a14 a15 a16 a17 a18 a19 a20 a21 a22 a23 a24 a25 a26 a27 d0 d1 d2 d3 d4 d5 d6 d7 d8 d9 d10 d11 d12 d13 d14 d15 d16 d17 d18 d19 d20 d21 d22 d23 d24 d25 d26 d27 n) : FnOk P w K mg base (L2N.CX P w) (n + 2 + 1) a17 d17 ["script"] (spD (Mn K C0 C1 C2 (n + 1)) [.v] 17) :=
  def_ok (fn := f17) rfl Z.F17 s17 rfl rfl fun cdv A0 outer s H E hr => by
    have nd := s17.nd
    have hu := units_of hr
    have xf := Z.xf n
    have hr1 := hr
    exact (ss_cons (s_ret (ev_list (af_cons (ev_blt .list (fun _ => rfl) rfl Z.z_list (ar_cons (ev_var 0) ar_nil)) (af_cons ev_int (af_cons ev_int (af_cons ev_int (af_cons ev_int af_nil)))))))
  ss_nil)
theorem s18 : FnScope ["pool", "many", "found", "cell", "mixed"] ["pool", "many"] (defScope (top 27)) := ⟨rfl, rfl, rfl, by decide +kernel, rfl, by decide +kernel, by decide +kernel⟩
theorem o18 (Z : Txt K mg C0 C1 C2 a0 a1 a2 a3 a4 a5 a6 a7 a8 a9 a10 a11 a12 a13 a14 a15 a16 a17 a18 a19 a20 a21 a22 a23 a24 a25 a26 a27 d0 d1 d2 d3 d4 d5 d6 d7 d8 d9 d10 d11 d12 d13 d14 d15 d16 d17 d18 d19 d20 d21 d22 d23 d24 d25 d26 d27) {n : Nat} (A : Ok P w K mg base C0 C1 C2 a0 a1 a2 a3 a4 a5 a6 a7 a8 a9 a10 a11 a12 a13 a14 a15 a16 a17 a18 a19 a20 a21 a22 a23 a24 a25 a26 a27 d0 d1 d2 d3 d4 d5 d6 d7 d8 d9 d10 d11 d12 d13 d14 d15 d16 d17 d18 d19 d20 d21 d22 d23 d24 d25 d26 d27 n) : FnOk P w K mg base (L2N.CX P w) (n + 2 + 1) a18 d18 ["pool", "many"] (spD (Mn K C0 C1 C2 (n + 1)) [.i, .v] 18) :=
  def_ok (fn := f18) rfl Z.F18 s18 rfl rfl fun cdv A0 outer s H E hr => by
    have nd := s18.nd
    have hu := units_of hr
    have xf := Z.xf n
    have hr1 := hr
    exact (ss_cons (s_ite (tv_cmp .gt hu (ev_idx (ev_var 0) ev_int (fun _ _ => rfl)) ev_int (nomark _)) (ss_cons (s_asg (i := 2) nd rfl (by first | exact Or.inl rfl | exact Or.inr rfl) (ev_bin .mod (ev_blt .int (fun _ => rfl) rfl Z.z_int (ar_cons (ev_idx (ev_var 0) ev_int (fun _ _ => rfl)) ar_nil)) (ev_var 1)))
  (ss_cons (s_asgI (i := 0) rfl (by first | exact Or.inl rfl | exact Or.inr (Or.inl rfl) | exact Or.inr (Or.inr rfl)) (ev_bin .fdiv (ev_idx (ev_var 0) ev_int (fun _ _ => rfl)) (ev_var 1)) ev_int)
  (ss_cons (s_ret (ev_var 2))
  ss_nil))) ss_nil)
  (ss_cons (s_ite (WV.tv (wv_and (tv_cmp .eq hu (ev_bin .mod (ev_blt .int (fun _ => rfl) rfl Z.z_int (ar_cons (ev_idx (ev_var 0) ev_int (fun _ _ => rfl)) ar_nil)) ev_int) ev_int (nomark _)) (wv_and1 (tv_cmp .lt hu (ev_idx (ev_var 0) ev_int (fun _ _ => rfl)) (ev_blt .len (fun _ => rfl) rfl Z.z_len (ar_cons (ev_idx (ev_var 0) ev_int (fun _ _ => rfl)) ar_nil)) (nomark _))))) (ss_cons (s_asg (i := 3) nd rfl (by first | exact Or.inl rfl | exact Or.inr rfl) (ev_blt .abs (fun _ => rfl) rfl Z.z_abs (ar_cons (ev_idx (ev_idx (ev_var 0) ev_int (fun _ _ => rfl)) (ev_idx (ev_var 0) ev_int (fun _ _ => rfl)) (fun _ _ => rfl)) ar_nil)))
  (ss_cons (s_asgI (i := 0) rfl (by first | exact Or.inl rfl | exact Or.inr (Or.inl rfl) | exact Or.inr (Or.inr rfl)) (ev_bin .add (ev_idx (ev_var 0) ev_int (fun _ _ => rfl)) ev_int) ev_int)
  (ss_cons (s_ite (tv_cmp .ge hu (ev_var 3) (ev_bin .pow ev_int ev_int) (nomark _)) (ss_cons (s_asgI (i := 0) rfl (by first | exact Or.inl rfl | exact Or.inr (Or.inl rfl) | exact Or.inr (Or.inr rfl)) (ev_bin .fdiv (ev_var 3) (ev_var 1)) ev_int)
  (ss_cons (s_ret (ev_bin .mod (ev_blt .int (fun _ => rfl) rfl Z.z_int (ar_cons (ev_var 3) ar_nil)) (ev_var 1)))
  ss_nil)) ss_nil)
  (ss_cons (s_asgI (i := 0) rfl (by first | exact Or.inl rfl | exact Or.inr (Or.inl rfl) | exact Or.inr (Or.inr rfl)) (ev_var 3) ev_int)
  ss_nil)))) ss_nil)
  (ss_cons (s_asgI (i := 0) rfl (by first | exact Or.inl rfl | exact Or.inr (Or.inl rfl) | exact Or.inr (Or.inr rfl)) (ev_bin .add (ev_idx (ev_var 0) ev_int (fun _ _ => rfl)) ev_int) ev_int)
  (ss_cons (s_asg (i := 4) nd rfl (by first | exact Or.inl rfl | exact Or.inr rfl) (ev_bin .mod (ev_blt .int (fun _ => rfl) rfl Z.z_int (ar_cons (ev_bin .add (ev_bin .add (ev_bin .mul (ev_idx (ev_var 0) ev_int (fun _ _ => rfl)) ev_int) (ev_bin .mul (ev_idx (ev_var 0) ev_int (fun _ _ => rfl)) ev_int)) ev_int) ar_nil)) ev_int))
  (ss_cons (s_asg (i := 4) nd rfl (by first | exact Or.inl rfl | exact Or.inr rfl) (ev_bin .mod (ev_blt .int (fun _ => rfl) rfl Z.z_int (ar_cons (ev_bin .add (ev_bin .mul (ev_var 4) (ev_var 4)) (ev_bin .mul (ev_idx (ev_var 0) ev_int (fun _ _ => rfl)) ev_int)) ar_nil)) ev_int))
  (ss_cons (s_ret (ev_bin .mod (ev_blt .int (fun _ => rfl) rfl Z.z_int (ar_cons (ev_var 4) ar_nil)) (ev_var 1)))
  ss_nil))))))
theorem s19 : FnScope ["pool", "rows"] ["pool", "rows"] (defScope (top 28)) := ⟨rfl, rfl, rfl, by decide +kernel, rfl, by decide +kernel, by decide +kernel⟩
theorem o19 (Z : Txt K mg C0 C1 C2 a0 a1 a2 a3 a4 a5 a6 a7 a8 a9 a10 a11 a12 a13 a14 a15 a16 a17 a18 a19 a20 a21 a22 a23 a24 a25 a26 a27 d0 d1 d2 d3 d4 d5 d6 d7 d8 d9 d10 d11 d12 d13 d14 d15 d16 d17 d18 d19 d20 d21 d22 d23 d24 d25 d26 d27) {n : Nat} (A : Ok P w K mg base C0 C1 C2 a0 a1 a2 a3 a4 a5 a6 a7 a8 a9 a10 a11 a12 a13 a14 a15 a16 a17 a18 a19 a20 a21 a22 a23 a24 a25 a26 a27 d0 d1 d2 d3 d4 d5 d6 d7 d8 d9 d10 d11 d12 d13 d14 d15 d16 d17 d18 d19 d20 d21 d22 d23 d24 d25 d26 d27 n) : FnOk P w K mg base (L2N.CX P w) (n + 2 + 1) a19 d19 ["pool", "rows"] (spD (Mn K C0 C1 C2 (n + 1)) [.i, .v] 19) :=
  def_ok (fn := f19) rfl Z.F19 s19 rfl rfl fun cdv A0 outer s H E hr => by
    have nd := s19.nd
    have hu := units_of hr
    have xf := Z.xf n
    have hr1 := hr
    exact (ss_cons (s_ret (ev_idx (ev_var 1) (ev_call 18 A.f18 hr rfl Z.g18 Z.k18 Z.b18 .nil .nil (ar_cons (ev_var 0) (ar_cons (ev_blt .len (fun _ => rfl) rfl Z.z_len (ar_cons (ev_var 1) ar_nil)) ar_nil))) (fun _ _ => rfl)))
  ss_nil)
theorem s20 : FnScope ["many", "here", "first", "second"] ["many", "here"] (defScope (top 29)) := ⟨rfl, rfl, rfl, by decide +kernel, rfl, by decide +kernel, by decide +kernel⟩
theorem o20 (Z : Txt K mg C0 C1 C2 a0 a1 a2 a3 a4 a5 a6 a7 a8 a9 a10 a11 a12 a13 a14 a15 a16 a17 a18 a19 a20 a21 a22 a23 a24 a25 a26 a27 d0 d1 d2 d3 d4 d5 d6 d7 d8 d9 d10 d11 d12 d13 d14 d15 d16 d17 d18 d19 d20 d21 d22 d23 d24 d25 d26 d27) {n : Nat} (A : Ok P w K mg base C0 C1 C2 a0 a1 a2 a3 a4 a5 a6 a7 a8 a9 a10 a11 a12 a13 a14 a15 a16 a17 a18 a19 a20 a21 a22 a23 a24 a25 a26 a27 d0 d1 d2 d3 d4 d5 d6 d7 d8 d9 d10 d11 d12 d13 d14 d15 d16 d17 d18 d19 d20 d21 d22 d23 d24 d25 d26 d27 n) : FnOk P w K mg base (L2N.CX P w) (n + 2 + 1) a20 d20 ["many", "here"] (spD (Mn K C0 C1 C2 (n + 1)) [.v, .v] 20) :=
  def_ok (fn := f20) rfl Z.F20 s20 rfl rfl fun cdv A0 outer s H E hr => by
    have nd := s20.nd
    have hu := units_of hr
    have xf := Z.xf n
    have hr1 := hr
    exact (ss_cons (s_asgT (ev_var 1) (tg_tup rfl (pgs_cons (pg_name (i := 2) nd rfl (by first | exact Or.inl rfl | exact Or.inr rfl)) (pgs_cons (pg_name (i := 3) nd rfl (by first | exact Or.inl rfl | exact Or.inr rfl)) pgs_nil))))
  (ss_cons (s_ite (WV.tv (wv_or (tv_not (tv_cmp2 .le .le hu ev_int (ev_var 2) (ev_var 0))) (wv_or (tv_not (tv_cmp2 .le .le hu ev_int (ev_var 3) (ev_var 0))) (wv_or1 (tv_cmp2 .lt .lt hu ev_int (ev_var 2) (ev_var 3)))))) (ss_cons (s_ret ev_bl)
  ss_nil) ss_nil)
  (ss_cons (s_ret (ev_not (ev_cmp2 .lt .lt hu ev_int (ev_bin .sub (ev_var 0) (ev_var 2)) (ev_bin .sub (ev_var 0) (ev_var 3)))))
  ss_nil)))
theorem s21 : FnScope ["seats", "found", "first", "second"] ["seats"] (defScope (top 30)) := ⟨rfl, rfl, rfl, by decide +kernel, rfl, by decide +kernel, by decide +kernel⟩
theorem o21 (Z : Txt K mg C0 C1 C2 a0 a1 a2 a3 a4 a5 a6 a7 a8 a9 a10 a11 a12 a13 a14 a15 a16 a17 a18 a19 a20 a21 a22 a23 a24 a25 a26 a27 d0 d1 d2 d3 d4 d5 d6 d7 d8 d9 d10 d11 d12 d13 d14 d15 d16 d17 d18 d19 d20 d21 d22 d23 d24 d25 d26 d27) {n : Nat} (A : Ok P w K mg base C0 C1 C2 a0 a1 a2 a3 a4 a5 a6 a7 a8 a9 a10 a11 a12 a13 a14 a15 a16 a17 a18 a19 a20 a21 a22 a23 a24 a25 a26 a27 d0 d1 d2 d3 d4 d5 d6 d7 d8 d9 d10 d11 d12 d13 d14 d15 d16 d17 d18 d19 d20 d21 d22 d23 d24 d25 d26 d27 n) : FnOk P w K mg base (L2N.CX P w) (n + 2 + 1) a21 d21 ["seats"] (spD (Mn K C0 C1 C2 (n + 1)) [.v] 21) :=
  def_ok (fn := f21) rfl Z.F21 s21 rfl rfl fun cdv A0 outer s H E hr => by
    have nd := s21.nd
    have hu := units_of hr
    have xf := Z.xf n
    have hr1 := hr
    exact (ss_cons (s_asg (i := 1) nd rfl (by first | exact Or.inl rfl | exact Or.inr rfl) (ev_list af_nil))
  (ss_cons (s_for rfl (iv_rng1 rfl Z.z_range (ar_cons (ev_bin .add (ev_var 0) ev_int) ar_nil)) (tg_name nd rfl (by first | exact Or.inl rfl | exact Or.inr rfl)) (ss_cons (s_asg (i := 1) nd rfl (by first | exact Or.inl rfl | exact Or.inr rfl) (ev_bin .add (ev_var 1) (ev_comp (own := [("second", 3)]) rfl nd (blk_of (N := ["seats", "found", "first", "second"]) (sc := defScope (top 30)) (by decide +kernel)) (iv_rng1 rfl Z.z_range (ar_cons (ev_bin .sub (ev_bin .add (ev_var 0) ev_int) (ev_var 2)) ar_nil)) (fun _ _ _ _ _ => (tg_name nd rfl (by first | exact Or.inl rfl | exact Or.inr rfl))) (fun _ _ _ _ _ => (ts_yes (WV.tv (wv_and (tv_cmp .gt hu (ev_bin .add (ev_var 2) (ev_var 3)) ev_int (nomark _)) (wv_and1 (tv_not (tv_cmp2 .lt .lt hu ev_int (ev_var 2) (ev_var 3)))))))) (.yes _) (fun _ _ _ _ _ => (ev_tup (af_cons (ev_var 2) (af_cons (ev_var 3) af_nil)))) (by decide))))
  ss_nil))
  (ss_cons (s_ret (ev_var 1))
  ss_nil)))
theorem s22 : FnScope ["many", "stand", "load", "sign", "there"] ["many", "stand", "load"] (defScope (top 31)) := ⟨rfl, rfl, rfl, by decide +kernel, rfl, by decide +kernel, by decide +kernel⟩
theorem o22 (Z : Txt K mg C0 C1 C2 a0 a1 a2 a3 a4 a5 a6 a7 a8 a9 a10 a11 a12 a13 a14 a15 a16 a17 a18 a19 a20 a21 a22 a23 a24 a25 a26 a27 d0 d1 d2 d3 d4 d5 d6 d7 d8 d9 d10 d11 d12 d13 d14 d15 d16 d17 d18 d19 d20 d21 d22 d23 d24 d25 d26 d27) {n : Nat} (A : Ok P w K mg base C0 C1 C2 a0 a1 a2 a3 a4 a5 a6 a7 a8 a9 a10 a11 a12 a13 a14 a15 a16 a17 a18 a19 a20 a21 a22 a23 a24 a25 a26 a27 d0 d1 d2 d3 d4 d5 d6 d7 d8 d9 d10 d11 d12 d13 d14 d15 d16 d17 d18 d19 d20 d21 d22 d23 d24 d25 d26 d27 n) : FnOk P w K mg base (L2N.CX P w) (n + 2 + 1) a22 d22 ["many", "stand", "load"] (spD (Mn K C0 C1 C2 (n + 1)) [.v, .v, .v] 22) :=
  def_ok (fn := f22) rfl Z.F22 s22 rfl rfl fun cdv A0 outer s H E hr => by
    have nd := s22.nd
    have hu := units_of hr
    have xf := Z.xf n
    have hr1 := hr
    exact (ss_cons (s_asg (i := 3) nd rfl (by first | exact Or.inl rfl | exact Or.inr rfl) (ev_ife (tv_cmp .eq hu (ev_idx (ev_var 1) ev_int (fun _ _ => rfl)) ev_int (nomark _)) (ev_neg ev_int) ev_int))
  (ss_cons (s_asg (i := 4) nd rfl (by first | exact Or.inl rfl | exact Or.inr rfl) (ev_tup (af_cons (ev_bin .add (ev_idx (ev_var 1) ev_int (fun _ _ => rfl)) (ev_bin .mul (ev_var 3) (ev_idx (ev_var 2) ev_int (fun _ _ => rfl)))) (af_cons (ev_bin .add (ev_idx (ev_var 1) ev_int (fun _ _ => rfl)) (ev_bin .mul (ev_var 3) (ev_idx (ev_var 2) ev_int (fun _ _ => rfl)))) af_nil))))
  (ss_cons (s_ret (ev_ife (tv_of (ev_call 20 A.f20 hr rfl Z.g20 Z.k20 Z.b20 .nil .nil (ar_cons (ev_var 0) (ar_cons (ev_var 4) ar_nil))) (fun _ => rfl) (fun _ => rfl)) (ev_tup (af_cons (ev_idx (ev_var 4) ev_int (fun _ _ => rfl)) (af_cons (ev_idx (ev_var 4) ev_int (fun _ _ => rfl)) (af_cons (ev_bin .sub ev_int (ev_idx (ev_var 1) ev_int (fun _ _ => rfl))) af_nil)))) ev_non))
  ss_nil)))
theorem s23 : FnScope ["many", "seats", "ways", "waiting", "here", "load", "there"] ["many", "seats"] (defScope (top 32)) := ⟨rfl, rfl, rfl, by decide +kernel, rfl, by decide +kernel, by decide +kernel⟩
theorem o23 (Z : Txt K mg C0 C1 C2 a0 a1 a2 a3 a4 a5 a6 a7 a8 a9 a10 a11 a12 a13 a14 a15 a16 a17 a18 a19 a20 a21 a22 a23 a24 a25 a26 a27 d0 d1 d2 d3 d4 d5 d6 d7 d8 d9 d10 d11 d12 d13 d14 d15 d16 d17 d18 d19 d20 d21 d22 d23 d24 d25 d26 d27) {n : Nat} (A : Ok P w K mg base C0 C1 C2 a0 a1 a2 a3 a4 a5 a6 a7 a8 a9 a10 a11 a12 a13 a14 a15 a16 a17 a18 a19 a20 a21 a22 a23 a24 a25 a26 a27 d0 d1 d2 d3 d4 d5 d6 d7 d8 d9 d10 d11 d12 d13 d14 d15 d16 d17 d18 d19 d20 d21 d22 d23 d24 d25 d26 d27 n) : FnOk P w K mg base (L2N.CX P w) (n + 2 + 1) a23 d23 ["many", "seats"] (spD (Mn K C0 C1 C2 (n + 1)) [.v, .v] 23) :=
  def_ok (fn := f23) rfl Z.F23 s23 rfl rfl fun cdv A0 outer s H E hr => by
    have nd := s23.nd
    have hu := units_of hr
    have xf := Z.xf n
    have hr1 := hr
    exact (ss_cons (s_asg (i := 2) nd rfl (by first | exact Or.inl rfl | exact Or.inr rfl) (ev_dicE (units1_of hr) (ev_tup (af_cons (ev_var 0) (af_cons (ev_var 0) (af_cons ev_int af_nil)))) (ev_list af_nil)))
  (ss_cons (s_asg (i := 3) nd rfl (by first | exact Or.inl rfl | exact Or.inr rfl) (ev_list (af_cons (ev_tup (af_cons (ev_var 0) (af_cons (ev_var 0) (af_cons ev_int af_nil)))) af_nil)))
  (ss_cons (s_whl (tv_cmp .gt hu (ev_blt .len (fun _ => rfl) rfl Z.z_len (ar_cons (ev_var 3) ar_nil)) ev_int (nomark _)) (ss_cons (s_asg (i := 4) nd rfl (by first | exact Or.inl rfl | exact Or.inr rfl) (ev_idx (ev_var 3) ev_int (fun _ _ => rfl)))
  (ss_cons (s_asg (i := 3) nd rfl (by first | exact Or.inl rfl | exact Or.inr rfl) (ev_slc (ev_var 3) (ov_some ev_int) ov_none))
  (ss_cons (s_for rfl (iv_seq (ev_call 21 A.f21 hr rfl Z.g21 Z.k21 Z.b21 .nil .nil (ar_cons (ev_var 1) ar_nil))) (tg_name nd rfl (by first | exact Or.inl rfl | exact Or.inr rfl)) (ss_cons (s_asg (i := 6) nd rfl (by first | exact Or.inl rfl | exact Or.inr rfl) (ev_call 22 A.f22 hr rfl Z.g22 Z.k22 Z.b22 .nil .nil (ar_cons (ev_var 0) (ar_cons (ev_var 4) (ar_cons (ev_var 5) ar_nil)))))
  (ss_cons (s_ite (WV.tv (wv_and (tv_notN (ev_var 6)) (wv_and1 (tv_cmp .notin hu (ev_var 6) (ev_var 2) (by with_unfolding_all rfl))))) (ss_cons (s_asgD (i := 2) hu rfl (by first | exact Or.inl rfl | exact Or.inr (Or.inl rfl) | exact Or.inr (Or.inr rfl)) (ev_bin .add (ev_dget 2 hu (ev_var 4) (fun _ _ => rfl)) (ev_list (af_cons (ev_var 5) af_nil))) (ev_var 6))
  (ss_cons (s_expr (ev_mut .append 3 (af_cons (ev_var 6) af_nil)))
  ss_nil)) ss_nil)
  ss_nil)))
  ss_nil))))
  (ss_cons (s_ret (ev_var 2))
  ss_nil))))
theorem s24 : FnScope ["many", "seats", "told", "here", "load"] ["many", "seats", "told"] (defScope (top 33)) := ⟨rfl, rfl, rfl, by decide +kernel, rfl, by decide +kernel, by decide +kernel⟩
theorem o24 (Z : Txt K mg C0 C1 C2 a0 a1 a2 a3 a4 a5 a6 a7 a8 a9 a10 a11 a12 a13 a14 a15 a16 a17 a18 a19 a20 a21 a22 a23 a24 a25 a26 a27 d0 d1 d2 d3 d4 d5 d6 d7 d8 d9 d10 d11 d12 d13 d14 d15 d16 d17 d18 d19 d20 d21 d22 d23 d24 d25 d26 d27) {n : Nat} (A : Ok P w K mg base C0 C1 C2 a0 a1 a2 a3 a4 a5 a6 a7 a8 a9 a10 a11 a12 a13 a14 a15 a16 a17 a18 a19 a20 a21 a22 a23 a24 a25 a26 a27 d0 d1 d2 d3 d4 d5 d6 d7 d8 d9 d10 d11 d12 d13 d14 d15 d16 d17 d18 d19 d20 d21 d22 d23 d24 d25 d26 d27 n) : FnOk P w K mg base (L2N.CX P w) (n + 2 + 1) a24 d24 ["many", "seats", "told"] (spD (Mn K C0 C1 C2 (n + 1)) [.v, .v, .v] 24) :=
  def_ok (fn := f24) rfl Z.F24 s24 rfl rfl fun cdv A0 outer s H E hr => by
    have nd := s24.nd
    have hu := units_of hr
    have xf := Z.xf n
    have hr1 := hr
    exact (ss_cons (s_asg (i := 3) nd rfl (by first | exact Or.inl rfl | exact Or.inr rfl) (ev_tup (af_cons (ev_var 0) (af_cons (ev_var 0) (af_cons ev_int af_nil)))))
  (ss_cons (s_for rfl (iv_seq (ev_var 2)) (tg_name nd rfl (by first | exact Or.inl rfl | exact Or.inr rfl)) (ss_cons (s_asg (i := 3) nd rfl (by first | exact Or.inl rfl | exact Or.inr rfl) (ev_ife (tv_cmp .isin hu (ev_var 4) (ev_call 21 A.f21 hr rfl Z.g21 Z.k21 Z.b21 .nil .nil (ar_cons (ev_var 1) ar_nil)) (by with_unfolding_all rfl)) (ev_call 22 A.f22 hr rfl Z.g22 Z.k22 Z.b22 .nil .nil (ar_cons (ev_var 0) (ar_cons (ev_var 3) (ar_cons (ev_var 4) ar_nil)))) ev_non))
  (ss_cons (s_ite (tv_isN (ev_var 3)) (ss_cons (s_ret ev_non)
  ss_nil) ss_nil)
  ss_nil)))
  (ss_cons (s_ret (ev_var 3))
  ss_nil)))
theorem s25 : FnScope ["many", "seats", "told", "k", "load", "there"] ["many", "seats", "told"] (defScope (top 34)) := ⟨rfl, rfl, rfl, by decide +kernel, rfl, by decide +kernel, by decide +kernel⟩
theorem o25 (Z : Txt K mg C0 C1 C2 a0 a1 a2 a3 a4 a5 a6 a7 a8 a9 a10 a11 a12 a13 a14 a15 a16 a17 a18 a19 a20 a21 a22 a23 a24 a25 a26 a27 d0 d1 d2 d3 d4 d5 d6 d7 d8 d9 d10 d11 d12 d13 d14 d15 d16 d17 d18 d19 d20 d21 d22 d23 d24 d25 d26 d27) {n : Nat} (A : Ok P w K mg base C0 C1 C2 a0 a1 a2 a3 a4 a5 a6 a7 a8 a9 a10 a11 a12 a13 a14 a15 a16 a17 a18 a19 a20 a21 a22 a23 a24 a25 a26 a27 d0 d1 d2 d3 d4 d5 d6 d7 d8 d9 d10 d11 d12 d13 d14 d15 d16 d17 d18 d19 d20 d21 d22 d23 d24 d25 d26 d27 n) : FnOk P w K mg base (L2N.CX P w) (n + 2 + 1) a25 d25 ["many", "seats", "told"] (spD (Mn K C0 C1 C2 (n + 1)) [.v, .v, .v] 25) :=
  def_ok (fn := f25) rfl Z.F25 s25 rfl rfl fun cdv A0 outer s H E hr => by
    have nd := s25.nd
    have hu := units_of hr
    have xf := Z.xf n
    have hr1 := hr
    exact (ss_cons (s_ite (WV.tv (wv_or (tv_cmp .notin hu (ev_tup (af_cons (ev_var 0) (af_cons (ev_var 0) (af_cons ev_int af_nil)))) (ev_var 2) (by with_unfolding_all rfl)) (wv_or (tv_cmp .isin hu (ev_tup (af_cons ev_int (af_cons ev_int (af_cons ev_int af_nil)))) (ev_var 2) (by with_unfolding_all rfl)) (wv_or1 (tv_cmp .ne hu (ev_var 2) (ev_sortD (units2_of hr) rfl Z.z_sorted (ar_cons (ev_var 2) ar_nil)) (nomark _)))))) (ss_cons (s_ret ev_bl)
  ss_nil) ss_nil)
  (ss_cons (s_for rfl (iv_rng1 rfl Z.z_range (ar_cons (ev_blt .len (fun _ => rfl) rfl Z.z_len (ar_cons (ev_var 2) ar_nil)) ar_nil)) (tg_name nd rfl (by first | exact Or.inl rfl | exact Or.inr rfl)) (ss_cons (s_ite (WV.tv (wv_or (tv_cmp .isin hu (ev_idx (ev_var 2) (ev_var 3) (fun _ _ => rfl)) (ev_slc (ev_var 2) ov_none (ov_some (ev_var 3))) (by with_unfolding_all rfl)) (wv_or1 (tv_not (tv_of (ev_call 20 A.f20 hr rfl Z.g20 Z.k20 Z.b20 .nil .nil (ar_cons (ev_var 0) (ar_cons (ev_slc (ev_idx (ev_var 2) (ev_var 3) (fun _ _ => rfl)) ov_none (ov_some ev_int)) ar_nil))) (fun _ => rfl) (fun _ => rfl)))))) (ss_cons (s_ret ev_bl)
  ss_nil) ss_nil)
  (ss_cons (s_for rfl (iv_seq (ev_call 21 A.f21 hr rfl Z.g21 Z.k21 Z.b21 .nil .nil (ar_cons (ev_var 1) ar_nil))) (tg_name nd rfl (by first | exact Or.inl rfl | exact Or.inr rfl)) (ss_cons (s_asg (i := 5) nd rfl (by first | exact Or.inl rfl | exact Or.inr rfl) (ev_call 22 A.f22 hr rfl Z.g22 Z.k22 Z.b22 .nil .nil (ar_cons (ev_var 0) (ar_cons (ev_idx (ev_var 2) (ev_var 3) (fun _ _ => rfl)) (ar_cons (ev_var 4) ar_nil)))))
  (ss_cons (s_ite (WV.tv (wv_and (tv_notN (ev_var 5)) (wv_and1 (tv_cmp .notin hu (ev_var 5) (ev_var 2) (by with_unfolding_all rfl))))) (ss_cons (s_ret ev_bl)
  ss_nil) ss_nil)
  ss_nil)))
  ss_nil)))
  (ss_cons (s_ret ev_bl)
  ss_nil)))
theorem s26 : FnScope ["choice", "many", "seats", "problem"] ["choice", "many", "seats"] (defScope (top 35)) := ⟨rfl, rfl, rfl, by decide +kernel, rfl, by decide +kernel, by decide +kernel⟩
theorem o26 (Z : Txt K mg C0 C1 C2 a0 a1 a2 a3 a4 a5 a6 a7 a8 a9 a10 a11 a12 a13 a14 a15 a16 a17 a18 a19 a20 a21 a22 a23 a24 a25 a26 a27 d0 d1 d2 d3 d4 d5 d6 d7 d8 d9 d10 d11 d12 d13 d14 d15 d16 d17 d18 d19 d20 d21 d22 d23 d24 d25 d26 d27) {n : Nat} (A : Ok P w K mg base C0 C1 C2 a0 a1 a2 a3 a4 a5 a6 a7 a8 a9 a10 a11 a12 a13 a14 a15 a16 a17 a18 a19 a20 a21 a22 a23 a24 a25 a26 a27 d0 d1 d2 d3 d4 d5 d6 d7 d8 d9 d10 d11 d12 d13 d14 d15 d16 d17 d18 d19 d20 d21 d22 d23 d24 d25 d26 d27 n) : FnOk P w K mg base (L2N.CX P w) (n + 2 + 1) a26 d26 ["choice", "many", "seats"] (spD (Mn K C0 C1 C2 (n + 1)) [.v, .v, .v] 26) :=
  def_ok (fn := f26) rfl Z.F26 s26 rfl rfl fun cdv A0 outer s H E hr => by
    have nd := s26.nd
    have hu := units_of hr
    have xf := Z.xf n
    have hr1 := hr
    exact (ss_cons (s_tryR (i := 3) xf rfl (of_decide_eq_true rfl) rfl rfl nd rfl rfl ⟨rfl, by decide, .inl Z.c0⟩ (of_decide_eq_true rfl) (fun _ _ => (ss_cons (s_ite (tv_cmp .eq hu (ev_var 0) ev_int (nomark _)) (ss_cons (s_expr (ev_call 2 A.f2 hr rfl Z.g2 Z.k2 Z.b2 .nil .nil (ar_cons (ev_var 1) (ar_cons (ev_var 2) ar_nil))))
  ss_nil) (ss_cons (s_ite (tv_cmp .eq hu (ev_var 0) ev_int (nomark _)) (ss_cons (s_expr (ev_call 9 A.f9 hr rfl Z.g9 Z.k9 Z.b9 .nil .nil (ar_cons (ev_var 1) (ar_cons (ev_var 2) ar_nil))))
  ss_nil) (ss_cons (s_ite (tv_cmp .eq hu (ev_var 0) ev_int (nomark _)) (ss_cons (s_expr (ev_call 11 A.f11 hr rfl Z.g11 Z.k11 Z.b11 .nil .nil (ar_cons (ev_var 1) (ar_cons (ev_var 2) ar_nil))))
  ss_nil) (ss_cons (s_expr (ev_call 14 A.f14 hr rfl Z.g14 Z.k14 Z.b14 .nil .nil (ar_cons (ev_var 1) (ar_cons (ev_var 2) ar_nil))))
  ss_nil))
  ss_nil))
  ss_nil))
  ss_nil)) (hv_and (hv_isi xf rfl (of_decide_eq_true rfl) rfl (by first | exact Or.inl rfl | exact Or.inr (Or.inl rfl) | exact Or.inr (Or.inr rfl)) rfl Z.z_isinstance rfl (.inl ⟨of_decide_eq_true rfl, Z.c1⟩)) (hv_one (hv_isi xf rfl (of_decide_eq_true rfl) rfl (by first | exact Or.inl rfl | exact Or.inr (Or.inl rfl) | exact Or.inr (Or.inr rfl)) rfl Z.z_isinstance rfl (.inr ⟨rfl, rfl, Z.z_ValueError⟩)))))
  (ss_cons (s_ret ev_bl)
  ss_nil))
theorem s27 : FnScope ["script", "pool", "many", "seats", "ways", "good", "due", "stands", "k", "some", "j", "at", "load", "right", "part", "shown", "choice"] ["script"] (defScope (top 36)) := ⟨rfl, rfl, rfl, by decide +kernel, rfl, by decide +kernel, by decide +kernel⟩
theorem o27 (Z : Txt K mg C0 C1 C2 a0 a1 a2 a3 a4 a5 a6 a7 a8 a9 a10 a11 a12 a13 a14 a15 a16 a17 a18 a19 a20 a21 a22 a23 a24 a25 a26 a27 d0 d1 d2 d3 d4 d5 d6 d7 d8 d9 d10 d11 d12 d13 d14 d15 d16 d17 d18 d19 d20 d21 d22 d23 d24 d25 d26 d27) {n : Nat} (A : Ok P w K mg base C0 C1 C2 a0 a1 a2 a3 a4 a5 a6 a7 a8 a9 a10 a11 a12 a13 a14 a15 a16 a17 a18 a19 a20 a21 a22 a23 a24 a25 a26 a27 d0 d1 d2 d3 d4 d5 d6 d7 d8 d9 d10 d11 d12 d13 d14 d15 d16 d17 d18 d19 d20 d21 d22 d23 d24 d25 d26 d27 n) : FnOk P w K mg base (L2N.CX P w) (n + 2 + 1) a27 d27 ["script"] (spD (Mn K C0 C1 C2 (n + 1)) [.v] 27) :=
  def_ok (fn := f27) rfl Z.F27 s27 rfl rfl fun cdv A0 outer s H E hr => by
    have nd := s27.nd
    have hu := units_of hr
    have xf := Z.xf n
    have hr1 := hr
    exact (ss_cons (s_asg (i := 1) nd rfl (by first | exact Or.inl rfl | exact Or.inr rfl) (ev_call 17 A.f17 hr rfl Z.g17 Z.k17 Z.b17 .nil .nil (ar_cons (ev_var 0) ar_nil)))
  (ss_cons (s_asg (i := 2) nd rfl (by first | exact Or.inl rfl | exact Or.inr rfl) (ev_bin .add ev_int (ev_call 18 A.f18 hr rfl Z.g18 Z.k18 Z.b18 .nil .nil (ar_cons (ev_var 1) (ar_cons ev_int ar_nil)))))
  (ss_cons (s_asg (i := 3) nd rfl (by first | exact Or.inl rfl | exact Or.inr rfl) (ev_bin .add ev_int (ev_call 18 A.f18 hr rfl Z.g18 Z.k18 Z.b18 .nil .nil (ar_cons (ev_var 1) (ar_cons ev_int ar_nil)))))
  (ss_cons (s_asg (i := 4) nd rfl (by first | exact Or.inl rfl | exact Or.inr rfl) (ev_call 23 A.f23 hr rfl Z.g23 Z.k23 Z.b23 .nil .nil (ar_cons (ev_var 2) (ar_cons (ev_var 3) ar_nil))))
  (ss_cons (s_asg (i := 5) nd rfl (by first | exact Or.inl rfl | exact Or.inr rfl) (ev_cmp .isin hu (ev_tup (af_cons ev_int (af_cons ev_int (af_cons ev_int af_nil)))) (ev_var 4) (by with_unfolding_all rfl)))
  (ss_cons (s_ite (WV.tv (wv_or (tv_not (tv_of (ev_call 16 A.f16 hr rfl Z.g16 Z.k16 Z.b16 .nil .nil (ar_cons (ev_call 11 A.f11 hr rfl Z.g11 Z.k11 Z.b11 .nil .nil (ar_cons (ev_var 2) (ar_cons (ev_var 3) ar_nil))) (ar_cons (ev_var 5) ar_nil))) (fun _ => rfl) (fun _ => rfl))) (wv_or (tv_cmp .ne hu (ev_var 5) (ev_cmp .le hu (ev_var 2) (ev_idx (ev_list (af_cons ev_int (af_cons ev_int (af_cons ev_int af_nil)))) (ev_bin .sub (ev_var 3) ev_int) (fun _ _ => rfl)) (nomark _)) (nomark _)) (wv_or1 (tv_not (tv_of (ev_call 16 A.f16 hr rfl Z.g16 Z.k16 Z.b16 .nil .nil (ar_cons (ev_call 2 A.f2 hr rfl Z.g2 Z.k2 Z.b2 .nil .nil (ar_cons (ev_var 2) (ar_cons (ev_var 3) ar_nil))) (ar_cons (ev_tup (af_cons (ev_var 2) (af_cons (ev_var 3) af_nil))) ar_nil))) (fun _ => rfl) (fun _ => rfl))))))) (ss_cons (s_ret ev_bl)
  ss_nil) ss_nil)
  (ss_cons (s_asg (i := 6) nd rfl (by first | exact Or.inl rfl | exact Or.inr rfl) (ev_ife (tv_of (ev_var 5) (fun _ => rfl) (fun _ => rfl)) (ev_dget 4 hu (ev_tup (af_cons ev_int (af_cons ev_int (af_cons ev_int af_nil)))) (fun _ _ => rfl)) ev_non))
  (ss_cons (s_ite (WV.tv (wv_or (tv_not (tv_of (ev_call 16 A.f16 hr rfl Z.g16 Z.k16 Z.b16 .nil .nil (ar_cons (ev_call 9 A.f9 hr rfl Z.g9 Z.k9 Z.b9 .nil .nil (ar_cons (ev_var 2) (ar_cons (ev_var 3) ar_nil))) (ar_cons (ev_var 6) ar_nil))) (fun _ => rfl) (fun _ => rfl))) (wv_or1 (tv_not (tv_of (ev_call 16 A.f16 hr rfl Z.g16 Z.k16 Z.b16 .nil .nil (ar_cons (ev_call 15 A.f15 hr rfl Z.g15 Z.k15 Z.b15 .nil .nil (ar_cons (ev_var 2) (ar_cons (ev_var 3) ar_nil))) (ar_cons (ev_ife (tv_of (ev_var 5) (fun _ => rfl) (fun _ => rfl)) (ev_blt .len (fun _ => rfl) rfl Z.z_len (ar_cons (ev_var 6) ar_nil)) ev_non) ar_nil))) (fun _ => rfl) (fun _ => rfl)))))) (ss_cons (s_ret ev_bl)
  ss_nil) ss_nil)
  (ss_cons (s_asg (i := 7) nd rfl (by first | exact Or.inl rfl | exact Or.inr rfl) (ev_sortK rfl (units3_of hr) rfl Z.z_sorted (ar_cons (ev_var 4) ar_nil)))
  (ss_cons (s_ite (WV.tv (wv_or (tv_not (tv_of (ev_call 16 A.f16 hr rfl Z.g16 Z.k16 Z.b16 .nil .nil (ar_cons (ev_call 14 A.f14 hr rfl Z.g14 Z.k14 Z.b14 .nil .nil (ar_cons (ev_var 2) (ar_cons (ev_var 3) ar_nil))) (ar_cons (ev_var 7) ar_nil))) (fun _ => rfl) (fun _ => rfl))) (wv_or1 (tv_not (tv_of (ev_call 16 A.f16 hr rfl Z.g16 Z.k16 Z.b16 .nil .nil (ar_cons (ev_call 13 A.f13 hr rfl Z.g13 Z.k13 Z.b13 .nil .nil (ar_cons (ev_var 2) (ar_cons (ev_var 3) (ar_cons (ev_blt .list (fun _ => rfl) rfl Z.z_list (ar_cons (ev_var 7) ar_nil)) ar_nil)))) (ar_cons (ev_not (ev_var 5)) ar_nil))) (fun _ => rfl) (fun _ => rfl)))))) (ss_cons (s_ret ev_bl)
  ss_nil) ss_nil)
  (ss_cons (s_for rfl (iv_rng1 rfl Z.z_range (ar_cons ev_int ar_nil)) (tg_name nd rfl (by first | exact Or.inl rfl | exact Or.inr rfl)) (ss_cons (s_asg (i := 9) nd rfl (by first | exact Or.inl rfl | exact Or.inr rfl) (ev_ife (tv_of (ev_var 5) (fun _ => rfl) (fun _ => rfl)) (ev_blt .list (fun _ => rfl) rfl Z.z_list (ar_cons (ev_var 6) ar_nil)) (ev_comp (own := [("j", 10)]) rfl nd (blk_of (N := ["script", "pool", "many", "seats", "ways", "good", "due", "stands", "k", "some", "j", "at", "load", "right", "part", "shown", "choice"]) (sc := defScope (top 36)) (by decide +kernel)) (iv_rng1 rfl Z.z_range (ar_cons ev_int ar_nil)) (fun _ _ _ _ _ => (tg_name nd rfl (by first | exact Or.inl rfl | exact Or.inr rfl))) (fun _ _ _ _ _ => ts_no) .no (fun _ _ _ _ _ => (ev_call 19 A.f19 hr rfl Z.g19 Z.k19 Z.b19 .nil .nil (ar_cons (ev_var 1) (ar_cons (ev_call 21 A.f21 hr rfl Z.g21 Z.k21 Z.b21 .nil .nil (ar_cons (ev_var 3) ar_nil)) ar_nil)))) (by decide))))
  (ss_cons (s_for rfl (iv_rng1 rfl Z.z_range (ar_cons (ev_call 18 A.f18 hr rfl Z.g18 Z.k18 Z.b18 .nil .nil (ar_cons (ev_var 1) (ar_cons ev_int ar_nil))) ar_nil)) (tg_name nd rfl (by first | exact Or.inl rfl | exact Or.inr rfl)) (ss_cons (s_asg (i := 11) nd rfl (by first | exact Or.inl rfl | exact Or.inr rfl) (ev_call 18 A.f18 hr rfl Z.g18 Z.k18 Z.b18 .nil .nil (ar_cons (ev_var 1) (ar_cons (ev_bin .add (ev_blt .len (fun _ => rfl) rfl Z.z_len (ar_cons (ev_var 9) ar_nil)) ev_int) ar_nil))))
  (ss_cons (s_asg (i := 12) nd rfl (by first | exact Or.inl rfl | exact Or.inr rfl) (ev_call 19 A.f19 hr rfl Z.g19 Z.k19 Z.b19 .nil .nil (ar_cons (ev_var 1) (ar_cons (ev_bin .add (ev_call 21 A.f21 hr rfl Z.g21 Z.k21 Z.b21 .nil .nil (ar_cons (ev_var 3) ar_nil)) (ev_list (af_cons (ev_tup (af_cons ev_int (af_cons ev_int af_nil))) (af_cons (ev_tup (af_cons ev_int (af_cons ev_int af_nil))) (af_cons (ev_tup (af_cons (ev_var 3) (af_cons ev_int af_nil))) af_nil))))) ar_nil))))
  (ss_cons (s_asg (i := 9) nd rfl (by first | exact Or.inl rfl | exact Or.inr rfl) (ev_call 19 A.f19 hr rfl Z.g19 Z.k19 Z.b19 .nil .nil (ar_cons (ev_var 1) (ar_cons (ev_list (af_cons (ev_bin .add (ev_slc (ev_var 9) ov_none (ov_some (ev_var 11))) (ev_slc (ev_var 9) (ov_some (ev_bin .add (ev_var 11) ev_int)) ov_none)) (af_cons (ev_bin .add (ev_bin .add (ev_slc (ev_var 9) ov_none (ov_some (ev_var 11))) (ev_list (af_cons (ev_var 12) af_nil))) (ev_slc (ev_var 9) (ov_some (ev_var 11)) ov_none)) (af_cons (ev_bin .add (ev_bin .add (ev_slc (ev_var 9) ov_none (ov_some (ev_var 11))) (ev_list (af_cons (ev_var 12) af_nil))) (ev_slc (ev_var 9) (ov_some (ev_bin .add (ev_var 11) ev_int)) ov_none)) (af_cons (ev_lrev rfl rfl Z.z_list rfl Z.z_reversed (ar_cons (ev_var 9) ar_nil)) af_nil))))) ar_nil))))
  ss_nil))))
  (ss_cons (s_asg (i := 13) nd rfl (by first | exact Or.inl rfl | exact Or.inr rfl) (ev_and (ev_var 5) (ev_and (ev_cmp .eq hu (ev_call 24 A.f24 hr rfl Z.g24 Z.k24 Z.b24 .nil .nil (ar_cons (ev_var 2) (ar_cons (ev_var 3) (ar_cons (ev_var 9) ar_nil)))) (ev_tup (af_cons ev_int (af_cons ev_int (af_cons ev_int af_nil)))) (nomark _)) (ev_one (ev_cmp .eq hu (ev_blt .len (fun _ => rfl) rfl Z.z_len (ar_cons (ev_var 9) ar_nil)) (ev_blt .len (fun _ => rfl) rfl Z.z_len (ar_cons (ev_var 6) ar_nil)) (nomark _))))))
  (ss_cons (s_ite (tv_not (tv_of (ev_call 16 A.f16 hr rfl Z.g16 Z.k16 Z.b16 .nil .nil (ar_cons (ev_call 12 A.f12 hr rfl Z.g12 Z.k12 Z.b12 .nil .nil (ar_cons (ev_var 2) (ar_cons (ev_var 3) (ar_cons (ev_var 9) ar_nil)))) (ar_cons (ev_var 13) ar_nil))) (fun _ => rfl) (fun _ => rfl))) (ss_cons (s_ret ev_bl)
  ss_nil) ss_nil)
  (ss_cons (s_asg (i := 14) nd rfl (by first | exact Or.inl rfl | exact Or.inr rfl) (ev_blt .list (fun _ => rfl) rfl Z.z_list (ar_cons (ev_var 7) ar_nil)))
  (ss_cons (s_for rfl (iv_rng1 rfl Z.z_range (ar_cons (ev_call 18 A.f18 hr rfl Z.g18 Z.k18 Z.b18 .nil .nil (ar_cons (ev_var 1) (ar_cons ev_int ar_nil))) ar_nil)) (tg_name nd rfl (by first | exact Or.inl rfl | exact Or.inr rfl)) (ss_cons (s_asg (i := 11) nd rfl (by first | exact Or.inl rfl | exact Or.inr rfl) (ev_ife (tv_cmp .gt hu (ev_blt .len (fun _ => rfl) rfl Z.z_len (ar_cons (ev_var 14) ar_nil)) ev_int (nomark _)) (ev_call 18 A.f18 hr rfl Z.g18 Z.k18 Z.b18 .nil .nil (ar_cons (ev_var 1) (ar_cons (ev_blt .len (fun _ => rfl) rfl Z.z_len (ar_cons (ev_var 14) ar_nil)) ar_nil))) ev_int))
  (ss_cons (s_asg (i := 14) nd rfl (by first | exact Or.inl rfl | exact Or.inr rfl) (ev_call 19 A.f19 hr rfl Z.g19 Z.k19 Z.b19 .nil .nil (ar_cons (ev_var 1) (ar_cons (ev_list (af_cons (ev_bin .add (ev_slc (ev_var 14) ov_none (ov_some (ev_var 11))) (ev_slc (ev_var 14) (ov_some (ev_bin .add (ev_var 11) ev_int)) ov_none)) (af_cons (ev_lrev rfl rfl Z.z_list rfl Z.z_reversed (ar_cons (ev_var 14) ar_nil)) (af_cons (ev_bin .add (ev_var 14) (ev_slc (ev_var 14) ov_none (ov_some ev_int))) (af_cons (ev_sortD (units2_of hr) rfl Z.z_sorted (ar_cons (ev_bin .add (ev_var 14) (ev_list (af_cons (ev_tup (af_cons ev_int (af_cons (ev_var 2) (af_cons ev_int af_nil)))) af_nil))) ar_nil)) af_nil))))) ar_nil))))
  ss_nil)))
  (ss_cons (s_asg (i := 15) nd rfl (by first | exact Or.inl rfl | exact Or.inr rfl) (ev_call 25 A.f25 hr rfl Z.g25 Z.k25 Z.b25 .nil .nil (ar_cons (ev_var 2) (ar_cons (ev_var 3) (ar_cons (ev_var 14) ar_nil)))))
  (ss_cons (s_ite (WV.tv (wv_or (tv_not (tv_of (ev_call 16 A.f16 hr rfl Z.g16 Z.k16 Z.b16 .nil .nil (ar_cons (ev_call 13 A.f13 hr rfl Z.g13 Z.k13 Z.b13 .nil .nil (ar_cons (ev_var 2) (ar_cons (ev_var 3) (ar_cons (ev_var 14) ar_nil)))) (ar_cons (ev_var 15) ar_nil))) (fun _ => rfl) (fun _ => rfl))) (wv_or1 (WV.tv (wv_and (tv_of (ev_var 15) (fun _ => rfl) (fun _ => rfl)) (wv_and1 (tv_of (ev_var 5) (fun _ => rfl) (fun _ => rfl)))))))) (ss_cons (s_ret ev_bl)
  ss_nil) ss_nil)
  ss_nil)))))))))
  (ss_cons (s_for rfl (iv_seq (ev_tup (af_cons ev_int (af_cons ev_int (af_cons ev_int (af_cons ev_int af_nil)))))) (tg_name nd rfl (by first | exact Or.inl rfl | exact Or.inr rfl)) (ss_cons (s_ite (WV.tv (wv_or (tv_not (tv_of (ev_call 26 A.f26 hr rfl Z.g26 Z.k26 Z.b26 .nil .nil (ar_cons (ev_var 16) (ar_cons (ev_call 19 A.f19 hr rfl Z.g19 Z.k19 Z.b19 .nil .nil (ar_cons (ev_var 1) (ar_cons (ev_list (af_cons ev_int (af_cons ev_int (af_cons ev_bl af_nil)))) ar_nil))) (ar_cons ev_int ar_nil)))) (fun _ => rfl) (fun _ => rfl))) (wv_or1 (tv_not (tv_of (ev_call 26 A.f26 hr rfl Z.g26 Z.k26 Z.b26 .nil .nil (ar_cons (ev_var 16) (ar_cons ev_int (ar_cons (ev_call 19 A.f19 hr rfl Z.g19 Z.k19 Z.b19 .nil .nil (ar_cons (ev_var 1) (ar_cons (ev_list (af_cons ev_int (af_cons ev_int (af_cons ev_bl af_nil)))) ar_nil))) ar_nil)))) (fun _ => rfl) (fun _ => rfl)))))) (ss_cons (s_ret ev_bl)
  ss_nil) ss_nil)
  ss_nil))
  (ss_cons (s_ret ev_bl)
  ss_nil)))))))))))))
theorem all (Z : Txt K mg C0 C1 C2 a0 a1 a2 a3 a4 a5 a6 a7 a8 a9 a10 a11 a12 a13 a14 a15 a16 a17 a18 a19 a20 a21 a22 a23 a24 a25 a26 a27 d0 d1 d2 d3 d4 d5 d6 d7 d8 d9 d10 d11 d12 d13 d14 d15 d16 d17 d18 d19 d20 d21 d22 d23 d24 d25 d26 d27) : ∀ n, Ok P w K mg base C0 C1 C2 a0 a1 a2 a3 a4 a5 a6 a7 a8 a9 a10 a11 a12 a13 a14 a15 a16 a17 a18 a19 a20 a21 a22 a23 a24 a25 a26 a27 d0 d1 d2 d3 d4 d5 d6 d7 d8 d9 d10 d11 d12 d13 d14 d15 d16 d17 d18 d19 d20 d21 d22 d23 d24 d25 d26 d27 n
  | 0 => ⟨fn_zero rfl, fn_zero rfl, fn_zero rfl, fn_zero rfl, fn_zero rfl, fn_zero rfl, fn_zero rfl, fn_zero rfl, fn_zero rfl, fn_zero rfl, fn_zero rfl, fn_zero rfl, fn_zero rfl, fn_zero rfl, fn_zero rfl, fn_zero rfl, fn_zero rfl, fn_zero rfl, fn_zero rfl, fn_zero rfl, fn_zero rfl, fn_zero rfl, fn_zero rfl, fn_zero rfl, fn_zero rfl, fn_zero rfl, fn_zero rfl, fn_zero rfl⟩
  | n + 1 => have A := all Z n
    ⟨o0 Z A, o1 Z A, o2 Z A, o3 Z A, o4 Z A, o5 Z A, o6 Z A, o7 Z A, o8 Z A, o9 Z A, o10 Z A, o11 Z A, o12 Z A, o13 Z A, o14 Z A, o15 Z A, o16 Z A, o17 Z A, o18 Z A, o19 Z A, o20 Z A, o21 Z A, o22 Z A, o23 Z A, o24 Z A, o25 Z A, o26 Z A, o27 Z A⟩
theorem mk_all {K : PySem.W.Frag} {mg : Str → Option Value} {h : Heap} {C0 C1 C2 : Addr} {a0 a1 a2 a3 a4 a5 a6 a7 a8 a9 a10 a11 a12 a13 a14 a15 a16 a17 a18 a19 a20 a21 a22 a23 a24 a25 a26 a27 : Addr} (X : K.In h) (G : h.Ns mainGlobals mg)
    {oc0 kV0 dc0 pm0 cd0 ct0 : Value} {od0 an0 : Option Addr} {sl0 : Array (Option Value)}
    {T0 : Addr} {tc0 : Value} {td0 : Option Addr} {tn0 : Nat} {ts0 : Array (Option Value)} {tk0_0 tk0_1 : Tok}
    {oc1 kV1 dc1 pm1 cd1 ct1 : Value} {od1 an1 : Option Addr} {sl1 : Array (Option Value)}
    {T1 : Addr} {tc1 : Value} {td1 : Option Addr} {tn1 : Nat} {ts1 : Array (Option Value)} {tk1_0 tk1_1 : Tok}
    {oc2 kV2 dc2 pm2 cd2 ct2 : Value} {od2 an2 : Option Addr} {sl2 : Array (Option Value)}
    {oc3 kV3 dc3 pm3 cd3 ct3 : Value} {od3 an3 : Option Addr} {sl3 : Array (Option Value)}
    {oc4 kV4 dc4 pm4 cd4 ct4 : Value} {od4 an4 : Option Addr} {sl4 : Array (Option Value)}
    {oc5 kV5 dc5 pm5 cd5 ct5 : Value} {od5 an5 : Option Addr} {sl5 : Array (Option Value)}
    {oc6 kV6 dc6 pm6 cd6 ct6 : Value} {od6 an6 : Option Addr} {sl6 : Array (Option Value)}
    {oc7 kV7 dc7 pm7 cd7 ct7 : Value} {od7 an7 : Option Addr} {sl7 : Array (Option Value)}
    {oc8 kV8 dc8 pm8 cd8 ct8 : Value} {od8 an8 : Option Addr} {sl8 : Array (Option Value)}
    {oc9 kV9 dc9 pm9 cd9 ct9 : Value} {od9 an9 : Option Addr} {sl9 : Array (Option Value)}
    {oc10 kV10 dc10 pm10 cd10 ct10 : Value} {od10 an10 : Option Addr} {sl10 : Array (Option Value)}
    {oc11 kV11 dc11 pm11 cd11 ct11 : Value} {od11 an11 : Option Addr} {sl11 : Array (Option Value)}
    {oc12 kV12 dc12 pm12 cd12 ct12 : Value} {od12 an12 : Option Addr} {sl12 : Array (Option Value)}
    {oc13 kV13 dc13 pm13 cd13 ct13 : Value} {od13 an13 : Option Addr} {sl13 : Array (Option Value)}
    {oc14 kV14 dc14 pm14 cd14 ct14 : Value} {od14 an14 : Option Addr} {sl14 : Array (Option Value)}
    {oc15 kV15 dc15 pm15 cd15 ct15 : Value} {od15 an15 : Option Addr} {sl15 : Array (Option Value)}
    {oc16 kV16 dc16 pm16 cd16 ct16 : Value} {od16 an16 : Option Addr} {sl16 : Array (Option Value)}
    {oc17 kV17 dc17 pm17 cd17 ct17 : Value} {od17 an17 : Option Addr} {sl17 : Array (Option Value)}
    {oc18 kV18 dc18 pm18 cd18 ct18 : Value} {od18 an18 : Option Addr} {sl18 : Array (Option Value)}
    {oc19 kV19 dc19 pm19 cd19 ct19 : Value} {od19 an19 : Option Addr} {sl19 : Array (Option Value)}
    {oc20 kV20 dc20 pm20 cd20 ct20 : Value} {od20 an20 : Option Addr} {sl20 : Array (Option Value)}
    {oc21 kV21 dc21 pm21 cd21 ct21 : Value} {od21 an21 : Option Addr} {sl21 : Array (Option Value)}
    {oc22 kV22 dc22 pm22 cd22 ct22 : Value} {od22 an22 : Option Addr} {sl22 : Array (Option Value)}
    {oc23 kV23 dc23 pm23 cd23 ct23 : Value} {od23 an23 : Option Addr} {sl23 : Array (Option Value)}
    {oc24 kV24 dc24 pm24 cd24 ct24 : Value} {od24 an24 : Option Addr} {sl24 : Array (Option Value)}
    {oc25 kV25 dc25 pm25 cd25 ct25 : Value} {od25 an25 : Option Addr} {sl25 : Array (Option Value)}
    {oc26 kV26 dc26 pm26 cd26 ct26 : Value} {od26 an26 : Option Addr} {sl26 : Array (Option Value)}
    {oc27 kV27 dc27 pm27 cd27 ct27 : Value} {od27 an27 : Option Addr} {sl27 : Array (Option Value)}
    {tg_MOST : Tok}
    (hA0 : PySem.W.nsIn K mainGlobals "is_number" = some (some (.ref a0)))
    (hL0 : K.lookup a0 = some ⟨oc0, od0, .func (PySem.W.fnOf "is_number" "is_number" (defArgs (top 6)) (defBody (top 6)) (defScope (top 6)) (.ref T0) kV0 dc0 pm0 an0 cd0 ct0), sl0⟩)
    (hT0 : K.lookup T0 = some ⟨tc0, td0, .seq #[.int 0 tk0_0, .int 1000000 tk0_1] tn0, ts0⟩)
    (hC0 : PySem.W.codeIn K cd0 "is_number" = true)
    (hK0 : PySem.W.keepIn K (.ref a0) = true)
    (hA1 : PySem.W.nsIn K mainGlobals "checked_number" = some (some (.ref a1)))
    (hL1 : K.lookup a1 = some ⟨oc1, od1, .func (PySem.W.fnOf "checked_number" "checked_number" (defArgs (top 7)) (defBody (top 7)) (defScope (top 7)) (.ref T1) kV1 dc1 pm1 an1 cd1 ct1), sl1⟩)
    (hT1 : K.lookup T1 = some ⟨tc1, td1, .seq #[.int 0 tk1_0, .int 1000000 tk1_1] tn1, ts1⟩)
    (hC1 : PySem.W.codeIn K cd1 "checked_number" = true)
    (hK1 : PySem.W.keepIn K (.ref a1) = true)
    (hA2 : PySem.W.nsIn K mainGlobals "checked_trip" = some (some (.ref a2)))
    (hL2 : K.lookup a2 = some ⟨oc2, od2, .func (PySem.W.fnOf "checked_trip" "checked_trip" (defArgs (top 10)) (defBody (top 10)) (defScope (top 10)) .none kV2 dc2 pm2 an2 cd2 ct2), sl2⟩)
    (hC2 : PySem.W.codeIn K cd2 "checked_trip" = true)
    (hK2 : PySem.W.keepIn K (.ref a2) = true)
    (hA3 : PySem.W.nsIn K mainGlobals "is_safe" = some (some (.ref a3)))
    (hL3 : K.lookup a3 = some ⟨oc3, od3, .func (PySem.W.fnOf "is_safe" "is_safe" (defArgs (top 11)) (defBody (top 11)) (defScope (top 11)) .none kV3 dc3 pm3 an3 cd3 ct3), sl3⟩)
    (hC3 : PySem.W.codeIn K cd3 "is_safe" = true)
    (hK3 : PySem.W.keepIn K (.ref a3) = true)
    (hA4 : PySem.W.nsIn K mainGlobals "loads" = some (some (.ref a4)))
    (hL4 : K.lookup a4 = some ⟨oc4, od4, .func (PySem.W.fnOf "loads" "loads" (defArgs (top 12)) (defBody (top 12)) (defScope (top 12)) .none kV4 dc4 pm4 an4 cd4 ct4), sl4⟩)
    (hC4 : PySem.W.codeIn K cd4 "loads" = true)
    (hK4 : PySem.W.keepIn K (.ref a4) = true)
    (hA5 : PySem.W.nsIn K mainGlobals "checked_stand" = some (some (.ref a5)))
    (hL5 : K.lookup a5 = some ⟨oc5, od5, .func (PySem.W.fnOf "checked_stand" "checked_stand" (defArgs (top 13)) (defBody (top 13)) (defScope (top 13)) .none kV5 dc5 pm5 an5 cd5 ct5), sl5⟩)
    (hC5 : PySem.W.codeIn K cd5 "checked_stand" = true)
    (hK5 : PySem.W.keepIn K (.ref a5) = true)
    (hA6 : PySem.W.nsIn K mainGlobals "moved" = some (some (.ref a6)))
    (hL6 : K.lookup a6 = some ⟨oc6, od6, .func (PySem.W.fnOf "moved" "moved" (defArgs (top 14)) (defBody (top 14)) (defScope (top 14)) .none kV6 dc6 pm6 an6 cd6 ct6), sl6⟩)
    (hC6 : PySem.W.codeIn K cd6 "moved" = true)
    (hK6 : PySem.W.keepIn K (.ref a6) = true)
    (hA7 : PySem.W.nsIn K mainGlobals "next_stands" = some (some (.ref a7)))
    (hL7 : K.lookup a7 = some ⟨oc7, od7, .func (PySem.W.fnOf "next_stands" "next_stands" (defArgs (top 15)) (defBody (top 15)) (defScope (top 15)) .none kV7 dc7 pm7 an7 cd7 ct7), sl7⟩)
    (hC7 : PySem.W.codeIn K cd7 "next_stands" = true)
    (hK7 : PySem.W.keepIn K (.ref a7) = true)
    (hA8 : PySem.W.nsIn K mainGlobals "behind" = some (some (.ref a8)))
    (hL8 : K.lookup a8 = some ⟨oc8, od8, .func (PySem.W.fnOf "behind" "behind" (defArgs (top 16)) (defBody (top 16)) (defScope (top 16)) .none kV8 dc8 pm8 an8 cd8 ct8), sl8⟩)
    (hC8 : PySem.W.codeIn K cd8 "behind" = true)
    (hK8 : PySem.W.keepIn K (.ref a8) = true)
    (hA9 : PySem.W.nsIn K mainGlobals "plan" = some (some (.ref a9)))
    (hL9 : K.lookup a9 = some ⟨oc9, od9, .func (PySem.W.fnOf "plan" "plan" (defArgs (top 17)) (defBody (top 17)) (defScope (top 17)) .none kV9 dc9 pm9 an9 cd9 ct9), sl9⟩)
    (hC9 : PySem.W.codeIn K cd9 "plan" = true)
    (hK9 : PySem.W.keepIn K (.ref a9) = true)
    (hA10 : PySem.W.nsIn K mainGlobals "_there" = some (some (.ref a10)))
    (hL10 : K.lookup a10 = some ⟨oc10, od10, .func (PySem.W.fnOf "_there" "_there" (defArgs (top 18)) (defBody (top 18)) (defScope (top 18)) .none kV10 dc10 pm10 an10 cd10 ct10), sl10⟩)
    (hC10 : PySem.W.codeIn K cd10 "_there" = true)
    (hK10 : PySem.W.keepIn K (.ref a10) = true)
    (hA11 : PySem.W.nsIn K mainGlobals "can" = some (some (.ref a11)))
    (hL11 : K.lookup a11 = some ⟨oc11, od11, .func (PySem.W.fnOf "can" "can" (defArgs (top 19)) (defBody (top 19)) (defScope (top 19)) .none kV11 dc11 pm11 an11 cd11 ct11), sl11⟩)
    (hC11 : PySem.W.codeIn K cd11 "can" = true)
    (hK11 : PySem.W.keepIn K (.ref a11) = true)
    (hA12 : PySem.W.nsIn K mainGlobals "judge" = some (some (.ref a12)))
    (hL12 : K.lookup a12 = some ⟨oc12, od12, .func (PySem.W.fnOf "judge" "judge" (defArgs (top 20)) (defBody (top 20)) (defScope (top 20)) .none kV12 dc12 pm12 an12 cd12 ct12), sl12⟩)
    (hC12 : PySem.W.codeIn K cd12 "judge" = true)
    (hK12 : PySem.W.keepIn K (.ref a12) = true)
    (hA13 : PySem.W.nsIn K mainGlobals "judge_not" = some (some (.ref a13)))
    (hL13 : K.lookup a13 = some ⟨oc13, od13, .func (PySem.W.fnOf "judge_not" "judge_not" (defArgs (top 21)) (defBody (top 21)) (defScope (top 21)) .none kV13 dc13 pm13 an13 cd13 ct13), sl13⟩)
    (hC13 : PySem.W.codeIn K cd13 "judge_not" = true)
    (hK13 : PySem.W.keepIn K (.ref a13) = true)
    (hA14 : PySem.W.nsIn K mainGlobals "reached" = some (some (.ref a14)))
    (hL14 : K.lookup a14 = some ⟨oc14, od14, .func (PySem.W.fnOf "reached" "reached" (defArgs (top 22)) (defBody (top 22)) (defScope (top 22)) .none kV14 dc14 pm14 an14 cd14 ct14), sl14⟩)
    (hC14 : PySem.W.codeIn K cd14 "reached" = true)
    (hK14 : PySem.W.keepIn K (.ref a14) = true)
    (hA15 : PySem.W.nsIn K mainGlobals "fewest" = some (some (.ref a15)))
    (hL15 : K.lookup a15 = some ⟨oc15, od15, .func (PySem.W.fnOf "fewest" "fewest" (defArgs (top 23)) (defBody (top 23)) (defScope (top 23)) .none kV15 dc15 pm15 an15 cd15 ct15), sl15⟩)
    (hC15 : PySem.W.codeIn K cd15 "fewest" = true)
    (hK15 : PySem.W.keepIn K (.ref a15) = true)
    (hA16 : PySem.W.nsIn K mainGlobals "_law_same" = some (some (.ref a16)))
    (hL16 : K.lookup a16 = some ⟨oc16, od16, .func (PySem.W.fnOf "_law_same" "_law_same" (defArgs (top 25)) (defBody (top 25)) (defScope (top 25)) .none kV16 dc16 pm16 an16 cd16 ct16), sl16⟩)
    (hC16 : PySem.W.codeIn K cd16 "_law_same" = true)
    (hK16 : PySem.W.keepIn K (.ref a16) = true)
    (hA17 : PySem.W.nsIn K mainGlobals "_law_pool" = some (some (.ref a17)))
    (hL17 : K.lookup a17 = some ⟨oc17, od17, .func (PySem.W.fnOf "_law_pool" "_law_pool" (defArgs (top 26)) (defBody (top 26)) (defScope (top 26)) .none kV17 dc17 pm17 an17 cd17 ct17), sl17⟩)
    (hC17 : PySem.W.codeIn K cd17 "_law_pool" = true)
    (hK17 : PySem.W.keepIn K (.ref a17) = true)
    (hA18 : PySem.W.nsIn K mainGlobals "_law_draw" = some (some (.ref a18)))
    (hL18 : K.lookup a18 = some ⟨oc18, od18, .func (PySem.W.fnOf "_law_draw" "_law_draw" (defArgs (top 27)) (defBody (top 27)) (defScope (top 27)) .none kV18 dc18 pm18 an18 cd18 ct18), sl18⟩)
    (hC18 : PySem.W.codeIn K cd18 "_law_draw" = true)
    (hK18 : PySem.W.keepIn K (.ref a18) = true)
    (hA19 : PySem.W.nsIn K mainGlobals "_law_pick" = some (some (.ref a19)))
    (hL19 : K.lookup a19 = some ⟨oc19, od19, .func (PySem.W.fnOf "_law_pick" "_law_pick" (defArgs (top 28)) (defBody (top 28)) (defScope (top 28)) .none kV19 dc19 pm19 an19 cd19 ct19), sl19⟩)
    (hC19 : PySem.W.codeIn K cd19 "_law_pick" = true)
    (hK19 : PySem.W.keepIn K (.ref a19) = true)
    (hA20 : PySem.W.nsIn K mainGlobals "_law_safe" = some (some (.ref a20)))
    (hL20 : K.lookup a20 = some ⟨oc20, od20, .func (PySem.W.fnOf "_law_safe" "_law_safe" (defArgs (top 29)) (defBody (top 29)) (defScope (top 29)) .none kV20 dc20 pm20 an20 cd20 ct20), sl20⟩)
    (hC20 : PySem.W.codeIn K cd20 "_law_safe" = true)
    (hK20 : PySem.W.keepIn K (.ref a20) = true)
    (hA21 : PySem.W.nsIn K mainGlobals "_law_loads" = some (some (.ref a21)))
    (hL21 : K.lookup a21 = some ⟨oc21, od21, .func (PySem.W.fnOf "_law_loads" "_law_loads" (defArgs (top 30)) (defBody (top 30)) (defScope (top 30)) .none kV21 dc21 pm21 an21 cd21 ct21), sl21⟩)
    (hC21 : PySem.W.codeIn K cd21 "_law_loads" = true)
    (hK21 : PySem.W.keepIn K (.ref a21) = true)
    (hA22 : PySem.W.nsIn K mainGlobals "_law_there" = some (some (.ref a22)))
    (hL22 : K.lookup a22 = some ⟨oc22, od22, .func (PySem.W.fnOf "_law_there" "_law_there" (defArgs (top 31)) (defBody (top 31)) (defScope (top 31)) .none kV22 dc22 pm22 an22 cd22 ct22), sl22⟩)
    (hC22 : PySem.W.codeIn K cd22 "_law_there" = true)
    (hK22 : PySem.W.keepIn K (.ref a22) = true)
    (hA23 : PySem.W.nsIn K mainGlobals "_law_ways" = some (some (.ref a23)))
    (hL23 : K.lookup a23 = some ⟨oc23, od23, .func (PySem.W.fnOf "_law_ways" "_law_ways" (defArgs (top 32)) (defBody (top 32)) (defScope (top 32)) .none kV23 dc23 pm23 an23 cd23 ct23), sl23⟩)
    (hC23 : PySem.W.codeIn K cd23 "_law_ways" = true)
    (hK23 : PySem.W.keepIn K (.ref a23) = true)
    (hA24 : PySem.W.nsIn K mainGlobals "_law_lead" = some (some (.ref a24)))
    (hL24 : K.lookup a24 = some ⟨oc24, od24, .func (PySem.W.fnOf "_law_lead" "_law_lead" (defArgs (top 33)) (defBody (top 33)) (defScope (top 33)) .none kV24 dc24 pm24 an24 cd24 ct24), sl24⟩)
    (hC24 : PySem.W.codeIn K cd24 "_law_lead" = true)
    (hK24 : PySem.W.keepIn K (.ref a24) = true)
    (hA25 : PySem.W.nsIn K mainGlobals "_law_shows" = some (some (.ref a25)))
    (hL25 : K.lookup a25 = some ⟨oc25, od25, .func (PySem.W.fnOf "_law_shows" "_law_shows" (defArgs (top 34)) (defBody (top 34)) (defScope (top 34)) .none kV25 dc25 pm25 an25 cd25 ct25), sl25⟩)
    (hC25 : PySem.W.codeIn K cd25 "_law_shows" = true)
    (hK25 : PySem.W.keepIn K (.ref a25) = true)
    (hA26 : PySem.W.nsIn K mainGlobals "_law_refused" = some (some (.ref a26)))
    (hL26 : K.lookup a26 = some ⟨oc26, od26, .func (PySem.W.fnOf "_law_refused" "_law_refused" (defArgs (top 35)) (defBody (top 35)) (defScope (top 35)) .none kV26 dc26 pm26 an26 cd26 ct26), sl26⟩)
    (hC26 : PySem.W.codeIn K cd26 "_law_refused" = true)
    (hK26 : PySem.W.keepIn K (.ref a26) = true)
    (hA27 : PySem.W.nsIn K mainGlobals "law" = some (some (.ref a27)))
    (hL27 : K.lookup a27 = some ⟨oc27, od27, .func (PySem.W.fnOf "law" "law" (defArgs (top 36)) (defBody (top 36)) (defScope (top 36)) .none kV27 dc27 pm27 an27 cd27 ct27), sl27⟩)
    (hC27 : PySem.W.codeIn K cd27 "law" = true)
    (hK27 : PySem.W.keepIn K (.ref a27) = true)
    (eN0 : PySem.W.nsIn K mainGlobals "CrewError" = some (some (.ref C0)))
    (eN1 : PySem.W.nsIn K mainGlobals "InvalidNumber" = some (some (.ref C1)))
    (eN2 : PySem.W.nsIn K mainGlobals "InvalidPaper" = some (some (.ref C2)))
    (eX0 : PySem.W.excIn K C0 [Value.type "ValueError", Value.type "Exception", Value.type "BaseException", Value.type "object"] "ValueError.__new__" = true)
    (eK0 : PySem.W.keepIn K (.ref C0) = true)
    (eS0 : PySem.W.subIn K (.ref C0) (.type "BaseException") = some true)
    (eT0 : PySem.W.typeIn K (.ref C0) = some (.type "type"))
    (eG0 : PySem.W.findIn K (.ref C0) "__getattribute__" = some (some (.builtin "BaseException.__getattribute__")))
    (eH0 : PySem.W.findIn K (.ref C0) "__getattr__" = some none)
    (eD0 : PySem.W.hasDictIn K C0 = true)
    (eA0 : PySem.W.findIn K (.ref C0) "__class__" = some (some (.builtin "object.__class__")))
    (eM0 : PySem.W.mroIn K C0 (.type "object") = some true)
    (eB0_0 : PySem.W.subIn K (.ref C0) (.ref C0) = some true)
    (eB0_1 : PySem.W.subIn K (.ref C0) (.ref C1) = some false)
    (eB0_2 : PySem.W.subIn K (.ref C0) (.ref C2) = some false)
    (eI0_0 : PySem.W.kitOne K (.ref C0) (.ref C0) = some true)
    (eI0_1 : PySem.W.kitOne K (.ref C0) (.ref C1) = some false)
    (eI0_2 : PySem.W.kitOne K (.ref C0) (.ref C2) = some false)
    (eV0 : PySem.W.kitOne K (.ref C0) (.type "ValueError") = some true)
    (eX1 : PySem.W.excIn K C1 [Value.type "ValueError", Value.type "Exception", Value.type "BaseException", Value.type "object"] "ValueError.__new__" = true)
    (eK1 : PySem.W.keepIn K (.ref C1) = true)
    (eS1 : PySem.W.subIn K (.ref C1) (.type "BaseException") = some true)
    (eT1 : PySem.W.typeIn K (.ref C1) = some (.type "type"))
    (eG1 : PySem.W.findIn K (.ref C1) "__getattribute__" = some (some (.builtin "BaseException.__getattribute__")))
    (eH1 : PySem.W.findIn K (.ref C1) "__getattr__" = some none)
    (eD1 : PySem.W.hasDictIn K C1 = true)
    (eA1 : PySem.W.findIn K (.ref C1) "__class__" = some (some (.builtin "object.__class__")))
    (eM1 : PySem.W.mroIn K C1 (.type "object") = some true)
    (eB1_0 : PySem.W.subIn K (.ref C1) (.ref C0) = some true)
    (eB1_1 : PySem.W.subIn K (.ref C1) (.ref C1) = some true)
    (eB1_2 : PySem.W.subIn K (.ref C1) (.ref C2) = some false)
    (eI1_0 : PySem.W.kitOne K (.ref C1) (.ref C0) = some true)
    (eI1_1 : PySem.W.kitOne K (.ref C1) (.ref C1) = some true)
    (eI1_2 : PySem.W.kitOne K (.ref C1) (.ref C2) = some false)
    (eV1 : PySem.W.kitOne K (.ref C1) (.type "ValueError") = some true)
    (eX2 : PySem.W.excIn K C2 [Value.type "ValueError", Value.type "Exception", Value.type "BaseException", Value.type "object"] "ValueError.__new__" = true)
    (eK2 : PySem.W.keepIn K (.ref C2) = true)
    (eS2 : PySem.W.subIn K (.ref C2) (.type "BaseException") = some true)
    (eT2 : PySem.W.typeIn K (.ref C2) = some (.type "type"))
    (eG2 : PySem.W.findIn K (.ref C2) "__getattribute__" = some (some (.builtin "BaseException.__getattribute__")))
    (eH2 : PySem.W.findIn K (.ref C2) "__getattr__" = some none)
    (eD2 : PySem.W.hasDictIn K C2 = true)
    (eA2 : PySem.W.findIn K (.ref C2) "__class__" = some (some (.builtin "object.__class__")))
    (eM2 : PySem.W.mroIn K C2 (.type "object") = some true)
    (eB2_0 : PySem.W.subIn K (.ref C2) (.ref C0) = some true)
    (eB2_1 : PySem.W.subIn K (.ref C2) (.ref C1) = some false)
    (eB2_2 : PySem.W.subIn K (.ref C2) (.ref C2) = some true)
    (eI2_0 : PySem.W.kitOne K (.ref C2) (.ref C0) = some true)
    (eI2_1 : PySem.W.kitOne K (.ref C2) (.ref C1) = some false)
    (eI2_2 : PySem.W.kitOne K (.ref C2) (.ref C2) = some true)
    (eV2 : PySem.W.kitOne K (.ref C2) (.type "ValueError") = some true)
    (eP : PySem.W.specialIn K (.builtin "object.__class__") "__get__" = some (some (.builtin "getset_descriptor.__get__")))
    (eQ : PySem.W.takesIn K (.builtin "object.__class__") = some true)
    (hz_ValueError : PySem.W.nsIn K mainGlobals "ValueError" = some none)
    (hz_abs : PySem.W.nsIn K mainGlobals "abs" = some none)
    (hz_bool : PySem.W.nsIn K mainGlobals "bool" = some none)
    (hz_int : PySem.W.nsIn K mainGlobals "int" = some none)
    (hz_isinstance : PySem.W.nsIn K mainGlobals "isinstance" = some none)
    (hz_len : PySem.W.nsIn K mainGlobals "len" = some none)
    (hz_list : PySem.W.nsIn K mainGlobals "list" = some none)
    (hz_min : PySem.W.nsIn K mainGlobals "min" = some none)
    (hz_range : PySem.W.nsIn K mainGlobals "range" = some none)
    (hz_reversed : PySem.W.nsIn K mainGlobals "reversed" = some none)
    (hz_sorted : PySem.W.nsIn K mainGlobals "sorted" = some none)
    (hz_str : PySem.W.nsIn K mainGlobals "str" = some none)
    (hz_tuple : PySem.W.nsIn K mainGlobals "tuple" = some none)
    (hg_MOST : PySem.W.nsIn K mainGlobals "MOST" = some (some (.int 8 tg_MOST))) :
    Txt K mg C0 C1 C2 a0 a1 a2 a3 a4 a5 a6 a7 a8 a9 a10 a11 a12 a13 a14 a15 a16 a17 a18 a19 a20 a21 a22 a23 a24 a25 a26 a27 (PySem.W.fnOf "is_number" "is_number" (defArgs (top 6)) (defBody (top 6)) (defScope (top 6)) (.ref T0) kV0 dc0 pm0 an0 cd0 ct0) (PySem.W.fnOf "checked_number" "checked_number" (defArgs (top 7)) (defBody (top 7)) (defScope (top 7)) (.ref T1) kV1 dc1 pm1 an1 cd1 ct1) (PySem.W.fnOf "checked_trip" "checked_trip" (defArgs (top 10)) (defBody (top 10)) (defScope (top 10)) .none kV2 dc2 pm2 an2 cd2 ct2) (PySem.W.fnOf "is_safe" "is_safe" (defArgs (top 11)) (defBody (top 11)) (defScope (top 11)) .none kV3 dc3 pm3 an3 cd3 ct3) (PySem.W.fnOf "loads" "loads" (defArgs (top 12)) (defBody (top 12)) (defScope (top 12)) .none kV4 dc4 pm4 an4 cd4 ct4) (PySem.W.fnOf "checked_stand" "checked_stand" (defArgs (top 13)) (defBody (top 13)) (defScope (top 13)) .none kV5 dc5 pm5 an5 cd5 ct5) (PySem.W.fnOf "moved" "moved" (defArgs (top 14)) (defBody (top 14)) (defScope (top 14)) .none kV6 dc6 pm6 an6 cd6 ct6) (PySem.W.fnOf "next_stands" "next_stands" (defArgs (top 15)) (defBody (top 15)) (defScope (top 15)) .none kV7 dc7 pm7 an7 cd7 ct7) (PySem.W.fnOf "behind" "behind" (defArgs (top 16)) (defBody (top 16)) (defScope (top 16)) .none kV8 dc8 pm8 an8 cd8 ct8) (PySem.W.fnOf "plan" "plan" (defArgs (top 17)) (defBody (top 17)) (defScope (top 17)) .none kV9 dc9 pm9 an9 cd9 ct9) (PySem.W.fnOf "_there" "_there" (defArgs (top 18)) (defBody (top 18)) (defScope (top 18)) .none kV10 dc10 pm10 an10 cd10 ct10) (PySem.W.fnOf "can" "can" (defArgs (top 19)) (defBody (top 19)) (defScope (top 19)) .none kV11 dc11 pm11 an11 cd11 ct11) (PySem.W.fnOf "judge" "judge" (defArgs (top 20)) (defBody (top 20)) (defScope (top 20)) .none kV12 dc12 pm12 an12 cd12 ct12) (PySem.W.fnOf "judge_not" "judge_not" (defArgs (top 21)) (defBody (top 21)) (defScope (top 21)) .none kV13 dc13 pm13 an13 cd13 ct13) (PySem.W.fnOf "reached" "reached" (defArgs (top 22)) (defBody (top 22)) (defScope (top 22)) .none kV14 dc14 pm14 an14 cd14 ct14) (PySem.W.fnOf "fewest" "fewest" (defArgs (top 23)) (defBody (top 23)) (defScope (top 23)) .none kV15 dc15 pm15 an15 cd15 ct15) (PySem.W.fnOf "_law_same" "_law_same" (defArgs (top 25)) (defBody (top 25)) (defScope (top 25)) .none kV16 dc16 pm16 an16 cd16 ct16) (PySem.W.fnOf "_law_pool" "_law_pool" (defArgs (top 26)) (defBody (top 26)) (defScope (top 26)) .none kV17 dc17 pm17 an17 cd17 ct17) (PySem.W.fnOf "_law_draw" "_law_draw" (defArgs (top 27)) (defBody (top 27)) (defScope (top 27)) .none kV18 dc18 pm18 an18 cd18 ct18) (PySem.W.fnOf "_law_pick" "_law_pick" (defArgs (top 28)) (defBody (top 28)) (defScope (top 28)) .none kV19 dc19 pm19 an19 cd19 ct19) (PySem.W.fnOf "_law_safe" "_law_safe" (defArgs (top 29)) (defBody (top 29)) (defScope (top 29)) .none kV20 dc20 pm20 an20 cd20 ct20) (PySem.W.fnOf "_law_loads" "_law_loads" (defArgs (top 30)) (defBody (top 30)) (defScope (top 30)) .none kV21 dc21 pm21 an21 cd21 ct21) (PySem.W.fnOf "_law_there" "_law_there" (defArgs (top 31)) (defBody (top 31)) (defScope (top 31)) .none kV22 dc22 pm22 an22 cd22 ct22) (PySem.W.fnOf "_law_ways" "_law_ways" (defArgs (top 32)) (defBody (top 32)) (defScope (top 32)) .none kV23 dc23 pm23 an23 cd23 ct23) (PySem.W.fnOf "_law_lead" "_law_lead" (defArgs (top 33)) (defBody (top 33)) (defScope (top 33)) .none kV24 dc24 pm24 an24 cd24 ct24) (PySem.W.fnOf "_law_shows" "_law_shows" (defArgs (top 34)) (defBody (top 34)) (defScope (top 34)) .none kV25 dc25 pm25 an25 cd25 ct25) (PySem.W.fnOf "_law_refused" "_law_refused" (defArgs (top 35)) (defBody (top 35)) (defScope (top 35)) .none kV26 dc26 pm26 an26 cd26 ct26) (PySem.W.fnOf "law" "law" (defArgs (top 36)) (defBody (top 36)) (defScope (top 36)) .none kV27 dc27 pm27 an27 cd27 ct27) := by
  have F0 : FunD K "is_number" "is_number" (defArgs (top 6)) (defBody (top 6)) (defScope (top 6)) [V.int 0, V.int 1000000] [] a0 (PySem.W.fnOf "is_number" "is_number" (defArgs (top 6)) (defBody (top 6)) (defScope (top 6)) (.ref T0) kV0 dc0 pm0 an0 cd0 ct0) := ⟨⟨_, _, _, _, _, _, _, _, _, _, rfl, hL0, hC0, .inr ⟨by simp, T0, _, [.int 0 tk0_0, .int 1000000 tk0_1], tn0, rfl, hT0, rfl, .cons ⟨_, rfl⟩ (.cons ⟨_, rfl⟩ (.nil))⟩, .inl rfl⟩, hK0⟩
  have F1 : FunD K "checked_number" "checked_number" (defArgs (top 7)) (defBody (top 7)) (defScope (top 7)) [V.int 0, V.int 1000000] [] a1 (PySem.W.fnOf "checked_number" "checked_number" (defArgs (top 7)) (defBody (top 7)) (defScope (top 7)) (.ref T1) kV1 dc1 pm1 an1 cd1 ct1) := ⟨⟨_, _, _, _, _, _, _, _, _, _, rfl, hL1, hC1, .inr ⟨by simp, T1, _, [.int 0 tk1_0, .int 1000000 tk1_1], tn1, rfl, hT1, rfl, .cons ⟨_, rfl⟩ (.cons ⟨_, rfl⟩ (.nil))⟩, .inl rfl⟩, hK1⟩
  have F2 := fun_mk (st := top 10) hL2 hC2 hK2
  have F3 := fun_mk (st := top 11) hL3 hC3 hK3
  have F4 := fun_mk (st := top 12) hL4 hC4 hK4
  have F5 := fun_mk (st := top 13) hL5 hC5 hK5
  have F6 := fun_mk (st := top 14) hL6 hC6 hK6
  have F7 := fun_mk (st := top 15) hL7 hC7 hK7
  have F8 := fun_mk (st := top 16) hL8 hC8 hK8
  have F9 := fun_mk (st := top 17) hL9 hC9 hK9
  have F10 := fun_mk (st := top 18) hL10 hC10 hK10
  have F11 := fun_mk (st := top 19) hL11 hC11 hK11
  have F12 := fun_mk (st := top 20) hL12 hC12 hK12
  have F13 := fun_mk (st := top 21) hL13 hC13 hK13
  have F14 := fun_mk (st := top 22) hL14 hC14 hK14
  have F15 := fun_mk (st := top 23) hL15 hC15 hK15
  have F16 := fun_mk (st := top 25) hL16 hC16 hK16
  have F17 := fun_mk (st := top 26) hL17 hC17 hK17
  have F18 := fun_mk (st := top 27) hL18 hC18 hK18
  have F19 := fun_mk (st := top 28) hL19 hC19 hK19
  have F20 := fun_mk (st := top 29) hL20 hC20 hK20
  have F21 := fun_mk (st := top 30) hL21 hC21 hK21
  have F22 := fun_mk (st := top 31) hL22 hC22 hK22
  have F23 := fun_mk (st := top 32) hL23 hC23 hK23
  have F24 := fun_mk (st := top 33) hL24 hC24 hK24
  have F25 := fun_mk (st := top 34) hL25 hC25 hK25
  have F26 := fun_mk (st := top 35) hL26 hC26 hK26
  have F27 := fun_mk (st := top 36) hL27 hC27 hK27
  exact {
    g0 := PySem.W.mg_of X G hA0
    k0 := hK0
    F0 := F0
    b0_0 := by
      obtain ⟨ds, hv, hb⟩ := (F0.binds1 (ps := ["value", "least", "most"]) 3 2 (by simp) rfl (fun T kV doc pm an cdv ct us its hu hi => match us, its, hu, hi with | [_, _, _], [_, _], _, _ => ⟨_, rfl, rfl⟩))
      cases hv
      exact hb
    b0_1 := (F0.binds1 (ps := ["value", "least", "most"]) 2 1 (by simp) rfl (fun T kV doc pm an cdv ct us its hu hi => match us, its, hu, hi with | [_, _], [_, _], _, _ => ⟨_, rfl, rfl⟩))
    b0_2 := (F0.binds1 (ps := ["value", "least", "most"]) 1 0 (by simp) rfl (fun T kV doc pm an cdv ct us its hu hi => match us, its, hu, hi with | [_], [_, _], _, _ => ⟨_, rfl, rfl⟩))
    g1 := PySem.W.mg_of X G hA1
    k1 := hK1
    F1 := F1
    b1_0 := by
      obtain ⟨ds, hv, hb⟩ := (F1.binds1 (ps := ["value", "least", "most"]) 3 2 (by simp) rfl (fun T kV doc pm an cdv ct us its hu hi => match us, its, hu, hi with | [_, _, _], [_, _], _, _ => ⟨_, rfl, rfl⟩))
      cases hv
      exact hb
    b1_1 := (F1.binds1 (ps := ["value", "least", "most"]) 2 1 (by simp) rfl (fun T kV doc pm an cdv ct us its hu hi => match us, its, hu, hi with | [_, _], [_, _], _, _ => ⟨_, rfl, rfl⟩))
    b1_2 := (F1.binds1 (ps := ["value", "least", "most"]) 1 0 (by simp) rfl (fun T kV doc pm an cdv ct us its hu hi => match us, its, hu, hi with | [_], [_, _], _, _ => ⟨_, rfl, rfl⟩))
    g2 := PySem.W.mg_of X G hA2
    k2 := hK2
    F2 := F2
    b2 := F2.binds (ps := ["many", "seats"]) (fun _ _ _ _ _ _ us hl => match us, hl with | [_, _], _ => rfl)
    g3 := PySem.W.mg_of X G hA3
    k3 := hK3
    F3 := F3
    b3 := F3.binds (ps := ["many", "here"]) (fun _ _ _ _ _ _ us hl => match us, hl with | [_, _], _ => rfl)
    g4 := PySem.W.mg_of X G hA4
    k4 := hK4
    F4 := F4
    b4 := F4.binds (ps := ["seats"]) (fun _ _ _ _ _ _ us hl => match us, hl with | [_], _ => rfl)
    g5 := PySem.W.mg_of X G hA5
    k5 := hK5
    F5 := F5
    b5 := F5.binds (ps := ["many", "stand"]) (fun _ _ _ _ _ _ us hl => match us, hl with | [_, _], _ => rfl)
    g6 := PySem.W.mg_of X G hA6
    k6 := hK6
    F6 := F6
    b6 := F6.binds (ps := ["many", "stand", "load"]) (fun _ _ _ _ _ _ us hl => match us, hl with | [_, _, _], _ => rfl)
    g7 := PySem.W.mg_of X G hA7
    k7 := hK7
    F7 := F7
    b7 := F7.binds (ps := ["many", "seats", "stand"]) (fun _ _ _ _ _ _ us hl => match us, hl with | [_, _, _], _ => rfl)
    g8 := PySem.W.mg_of X G hA8
    k8 := hK8
    F8 := F8
    b8 := F8.binds (ps := ["many", "seats", "told"]) (fun _ _ _ _ _ _ us hl => match us, hl with | [_, _, _], _ => rfl)
    g9 := PySem.W.mg_of X G hA9
    k9 := hK9
    F9 := F9
    b9 := F9.binds (ps := ["many", "seats"]) (fun _ _ _ _ _ _ us hl => match us, hl with | [_, _], _ => rfl)
    g10 := PySem.W.mg_of X G hA10
    k10 := hK10
    F10 := F10
    b10 := F10.binds (ps := ["many", "here", "load"]) (fun _ _ _ _ _ _ us hl => match us, hl with | [_, _, _], _ => rfl)
    g11 := PySem.W.mg_of X G hA11
    k11 := hK11
    F11 := F11
    b11 := F11.binds (ps := ["many", "seats"]) (fun _ _ _ _ _ _ us hl => match us, hl with | [_, _], _ => rfl)
    g12 := PySem.W.mg_of X G hA12
    k12 := hK12
    F12 := F12
    b12 := F12.binds (ps := ["many", "seats", "told"]) (fun _ _ _ _ _ _ us hl => match us, hl with | [_, _, _], _ => rfl)
    g13 := PySem.W.mg_of X G hA13
    k13 := hK13
    F13 := F13
    b13 := F13.binds (ps := ["many", "seats", "stands"]) (fun _ _ _ _ _ _ us hl => match us, hl with | [_, _, _], _ => rfl)
    g14 := PySem.W.mg_of X G hA14
    k14 := hK14
    F14 := F14
    b14 := F14.binds (ps := ["many", "seats"]) (fun _ _ _ _ _ _ us hl => match us, hl with | [_, _], _ => rfl)
    g15 := PySem.W.mg_of X G hA15
    k15 := hK15
    F15 := F15
    b15 := F15.binds (ps := ["many", "seats"]) (fun _ _ _ _ _ _ us hl => match us, hl with | [_, _], _ => rfl)
    g16 := PySem.W.mg_of X G hA16
    k16 := hK16
    F16 := F16
    b16 := F16.binds (ps := ["actual", "due"]) (fun _ _ _ _ _ _ us hl => match us, hl with | [_, _], _ => rfl)
    g17 := PySem.W.mg_of X G hA17
    k17 := hK17
    F17 := F17
    b17 := F17.binds (ps := ["script"]) (fun _ _ _ _ _ _ us hl => match us, hl with | [_], _ => rfl)
    g18 := PySem.W.mg_of X G hA18
    k18 := hK18
    F18 := F18
    b18 := F18.binds (ps := ["pool", "many"]) (fun _ _ _ _ _ _ us hl => match us, hl with | [_, _], _ => rfl)
    g19 := PySem.W.mg_of X G hA19
    k19 := hK19
    F19 := F19
    b19 := F19.binds (ps := ["pool", "rows"]) (fun _ _ _ _ _ _ us hl => match us, hl with | [_, _], _ => rfl)
    g20 := PySem.W.mg_of X G hA20
    k20 := hK20
    F20 := F20
    b20 := F20.binds (ps := ["many", "here"]) (fun _ _ _ _ _ _ us hl => match us, hl with | [_, _], _ => rfl)
    g21 := PySem.W.mg_of X G hA21
    k21 := hK21
    F21 := F21
    b21 := F21.binds (ps := ["seats"]) (fun _ _ _ _ _ _ us hl => match us, hl with | [_], _ => rfl)
    g22 := PySem.W.mg_of X G hA22
    k22 := hK22
    F22 := F22
    b22 := F22.binds (ps := ["many", "stand", "load"]) (fun _ _ _ _ _ _ us hl => match us, hl with | [_, _, _], _ => rfl)
    g23 := PySem.W.mg_of X G hA23
    k23 := hK23
    F23 := F23
    b23 := F23.binds (ps := ["many", "seats"]) (fun _ _ _ _ _ _ us hl => match us, hl with | [_, _], _ => rfl)
    g24 := PySem.W.mg_of X G hA24
    k24 := hK24
    F24 := F24
    b24 := F24.binds (ps := ["many", "seats", "told"]) (fun _ _ _ _ _ _ us hl => match us, hl with | [_, _, _], _ => rfl)
    g25 := PySem.W.mg_of X G hA25
    k25 := hK25
    F25 := F25
    b25 := F25.binds (ps := ["many", "seats", "told"]) (fun _ _ _ _ _ _ us hl => match us, hl with | [_, _, _], _ => rfl)
    g26 := PySem.W.mg_of X G hA26
    k26 := hK26
    F26 := F26
    b26 := F26.binds (ps := ["choice", "many", "seats"]) (fun _ _ _ _ _ _ us hl => match us, hl with | [_, _, _], _ => rfl)
    g27 := PySem.W.mg_of X G hA27
    k27 := hK27
    F27 := F27
    b27 := F27.binds (ps := ["script"]) (fun _ _ _ _ _ _ us hl => match us, hl with | [_], _ => rfl)
    c0 := PySem.W.mg_of X G eN0
    q0 := eX0
    ck0 := eK0
    cr0 := eS0
    ct0 := eT0
    c1 := PySem.W.mg_of X G eN1
    q1 := eX1
    ck1 := eK1
    cr1 := eS1
    ct1 := eT1
    c2 := PySem.W.mg_of X G eN2
    q2 := eX2
    ck2 := eK2
    cr2 := eS2
    ct2 := eT2
    xf := fun n => {
      exm := fun x hx c hc => match x, c, hx, hc with
        | 0, 0, _, _ => PySem.W.exm_ref eS0 eD0 eT0 eB0_0
        | 0, 1, _, _ => PySem.W.exm_ref eS1 eD1 eT1 eB0_1
        | 0, 2, _, _ => PySem.W.exm_ref eS2 eD2 eT2 eB0_2
        | 1, 0, _, _ => PySem.W.exm_ref eS0 eD0 eT0 eB1_0
        | 1, 1, _, _ => PySem.W.exm_ref eS1 eD1 eT1 eB1_1
        | 1, 2, _, _ => PySem.W.exm_ref eS2 eD2 eT2 eB1_2
        | 2, 0, _, _ => PySem.W.exm_ref eS0 eD0 eT0 eB2_0
        | 2, 1, _, _ => PySem.W.exm_ref eS1 eD1 eT1 eB2_1
        | 2, 2, _, _ => PySem.W.exm_ref eS2 eD2 eT2 eB2_2
      kit := fun x hx c hc => match x, c, hx, hc with
        | 0, 0, _, _ => eI0_0
        | 0, 1, _, _ => eI0_1
        | 0, 2, _, _ => eI0_2
        | 0, 3, _, _ => eV0
        | 1, 0, _, _ => eI1_0
        | 1, 1, _, _ => eI1_1
        | 1, 2, _, _ => eI1_2
        | 1, 3, _, _ => eV1
        | 2, 0, _, _ => eI2_0
        | 2, 1, _, _ => eI2_1
        | 2, 2, _, _ => eI2_2
        | 2, 3, _, _ => eV2
      cls := fun x hx => match x, hx with
        | 0, _ => ⟨eG0, eH0, eS0, eD0, eA0, eP, eQ, eM0⟩
        | 1, _ => ⟨eG1, eH1, eS1, eD1, eA1, eP, eQ, eM1⟩
        | 2, _ => ⟨eG2, eH2, eS2, eD2, eA2, eP, eQ, eM2⟩
      }
    z_ValueError := PySem.W.mg_none_of X G hz_ValueError
    z_abs := PySem.W.mg_none_of X G hz_abs
    z_bool := PySem.W.mg_none_of X G hz_bool
    z_int := PySem.W.mg_none_of X G hz_int
    z_isinstance := PySem.W.mg_none_of X G hz_isinstance
    z_len := PySem.W.mg_none_of X G hz_len
    z_list := PySem.W.mg_none_of X G hz_list
    z_min := PySem.W.mg_none_of X G hz_min
    z_range := PySem.W.mg_none_of X G hz_range
    z_reversed := PySem.W.mg_none_of X G hz_reversed
    z_sorted := PySem.W.mg_none_of X G hz_sorted
    z_str := PySem.W.mg_none_of X G hz_str
    z_tuple := PySem.W.mg_none_of X G hz_tuple
    g_MOST := ⟨tg_MOST, PySem.W.mg_of X G hg_MOST⟩
  }
def depth : Nat := 40
theorem law_ok (Z : Txt K mg C0 C1 C2 a0 a1 a2 a3 a4 a5 a6 a7 a8 a9 a10 a11 a12 a13 a14 a15 a16 a17 a18 a19 a20 a21 a22 a23 a24 a25 a26 a27 d0 d1 d2 d3 d4 d5 d6 d7 d8 d9 d10 d11 d12 d13 d14 d15 d16 d17 d18 d19 d20 d21 d22 d23 d24 d25 d26 d27) (hl : ∀ ns : List Int, ns.length ≤ 63 → MP.run T wf sub depth 27 [.val (.list (ns.map PyData.int))] = .ok (.val (.bool true)) none) : FnOk P w K mg base (L2N.CX P w) (depth + 2) a27 d27 ["script"] (spL K) :=
  fn_law (M := Mn K C0 C1 C2 depth) (j := 27) (all Z depth).f27 rfl fun ns h => hl ns h
theorem fin_all {K : PySem.W.Frag} {mg : Str → Option Value} {h : Heap} {fa : Addr} {C0 C1 C2 : Addr} {a0 a1 a2 a3 a4 a5 a6 a7 a8 a9 a10 a11 a12 a13 a14 a15 a16 a17 a18 a19 a20 a21 a22 a23 a24 a25 a26 a27 : Addr} (hl : ∀ ns : List Int, ns.length ≤ 63 → MP.run T wf sub depth 27 [.val (.list (ns.map PyData.int))] = .ok (.val (.bool true)) none) (X : K.In h) (G : h.Ns mainGlobals mg) (hfa : mg "law" = some (.ref fa))
    {oc0 kV0 dc0 pm0 cd0 ct0 : Value} {od0 an0 : Option Addr} {sl0 : Array (Option Value)}
    {T0 : Addr} {tc0 : Value} {td0 : Option Addr} {tn0 : Nat} {ts0 : Array (Option Value)} {tk0_0 tk0_1 : Tok}
    {oc1 kV1 dc1 pm1 cd1 ct1 : Value} {od1 an1 : Option Addr} {sl1 : Array (Option Value)}
    {T1 : Addr} {tc1 : Value} {td1 : Option Addr} {tn1 : Nat} {ts1 : Array (Option Value)} {tk1_0 tk1_1 : Tok}
    {oc2 kV2 dc2 pm2 cd2 ct2 : Value} {od2 an2 : Option Addr} {sl2 : Array (Option Value)}
    {oc3 kV3 dc3 pm3 cd3 ct3 : Value} {od3 an3 : Option Addr} {sl3 : Array (Option Value)}
    {oc4 kV4 dc4 pm4 cd4 ct4 : Value} {od4 an4 : Option Addr} {sl4 : Array (Option Value)}
    {oc5 kV5 dc5 pm5 cd5 ct5 : Value} {od5 an5 : Option Addr} {sl5 : Array (Option Value)}
    {oc6 kV6 dc6 pm6 cd6 ct6 : Value} {od6 an6 : Option Addr} {sl6 : Array (Option Value)}
    {oc7 kV7 dc7 pm7 cd7 ct7 : Value} {od7 an7 : Option Addr} {sl7 : Array (Option Value)}
    {oc8 kV8 dc8 pm8 cd8 ct8 : Value} {od8 an8 : Option Addr} {sl8 : Array (Option Value)}
    {oc9 kV9 dc9 pm9 cd9 ct9 : Value} {od9 an9 : Option Addr} {sl9 : Array (Option Value)}
    {oc10 kV10 dc10 pm10 cd10 ct10 : Value} {od10 an10 : Option Addr} {sl10 : Array (Option Value)}
    {oc11 kV11 dc11 pm11 cd11 ct11 : Value} {od11 an11 : Option Addr} {sl11 : Array (Option Value)}
    {oc12 kV12 dc12 pm12 cd12 ct12 : Value} {od12 an12 : Option Addr} {sl12 : Array (Option Value)}
    {oc13 kV13 dc13 pm13 cd13 ct13 : Value} {od13 an13 : Option Addr} {sl13 : Array (Option Value)}
    {oc14 kV14 dc14 pm14 cd14 ct14 : Value} {od14 an14 : Option Addr} {sl14 : Array (Option Value)}
    {oc15 kV15 dc15 pm15 cd15 ct15 : Value} {od15 an15 : Option Addr} {sl15 : Array (Option Value)}
    {oc16 kV16 dc16 pm16 cd16 ct16 : Value} {od16 an16 : Option Addr} {sl16 : Array (Option Value)}
    {oc17 kV17 dc17 pm17 cd17 ct17 : Value} {od17 an17 : Option Addr} {sl17 : Array (Option Value)}
    {oc18 kV18 dc18 pm18 cd18 ct18 : Value} {od18 an18 : Option Addr} {sl18 : Array (Option Value)}
    {oc19 kV19 dc19 pm19 cd19 ct19 : Value} {od19 an19 : Option Addr} {sl19 : Array (Option Value)}
    {oc20 kV20 dc20 pm20 cd20 ct20 : Value} {od20 an20 : Option Addr} {sl20 : Array (Option Value)}
    {oc21 kV21 dc21 pm21 cd21 ct21 : Value} {od21 an21 : Option Addr} {sl21 : Array (Option Value)}
    {oc22 kV22 dc22 pm22 cd22 ct22 : Value} {od22 an22 : Option Addr} {sl22 : Array (Option Value)}
    {oc23 kV23 dc23 pm23 cd23 ct23 : Value} {od23 an23 : Option Addr} {sl23 : Array (Option Value)}
    {oc24 kV24 dc24 pm24 cd24 ct24 : Value} {od24 an24 : Option Addr} {sl24 : Array (Option Value)}
    {oc25 kV25 dc25 pm25 cd25 ct25 : Value} {od25 an25 : Option Addr} {sl25 : Array (Option Value)}
    {oc26 kV26 dc26 pm26 cd26 ct26 : Value} {od26 an26 : Option Addr} {sl26 : Array (Option Value)}
    {oc27 kV27 dc27 pm27 cd27 ct27 : Value} {od27 an27 : Option Addr} {sl27 : Array (Option Value)}
    {tg_MOST : Tok}
    (hA0 : PySem.W.nsIn K mainGlobals "is_number" = some (some (.ref a0)))
    (hL0 : K.lookup a0 = some ⟨oc0, od0, .func (PySem.W.fnOf "is_number" "is_number" (defArgs (top 6)) (defBody (top 6)) (defScope (top 6)) (.ref T0) kV0 dc0 pm0 an0 cd0 ct0), sl0⟩)
    (hT0 : K.lookup T0 = some ⟨tc0, td0, .seq #[.int 0 tk0_0, .int 1000000 tk0_1] tn0, ts0⟩)
    (hC0 : PySem.W.codeIn K cd0 "is_number" = true)
    (hK0 : PySem.W.keepIn K (.ref a0) = true)
    (hA1 : PySem.W.nsIn K mainGlobals "checked_number" = some (some (.ref a1)))
    (hL1 : K.lookup a1 = some ⟨oc1, od1, .func (PySem.W.fnOf "checked_number" "checked_number" (defArgs (top 7)) (defBody (top 7)) (defScope (top 7)) (.ref T1) kV1 dc1 pm1 an1 cd1 ct1), sl1⟩)
    (hT1 : K.lookup T1 = some ⟨tc1, td1, .seq #[.int 0 tk1_0, .int 1000000 tk1_1] tn1, ts1⟩)
    (hC1 : PySem.W.codeIn K cd1 "checked_number" = true)
    (hK1 : PySem.W.keepIn K (.ref a1) = true)
    (hA2 : PySem.W.nsIn K mainGlobals "checked_trip" = some (some (.ref a2)))
    (hL2 : K.lookup a2 = some ⟨oc2, od2, .func (PySem.W.fnOf "checked_trip" "checked_trip" (defArgs (top 10)) (defBody (top 10)) (defScope (top 10)) .none kV2 dc2 pm2 an2 cd2 ct2), sl2⟩)
    (hC2 : PySem.W.codeIn K cd2 "checked_trip" = true)
    (hK2 : PySem.W.keepIn K (.ref a2) = true)
    (hA3 : PySem.W.nsIn K mainGlobals "is_safe" = some (some (.ref a3)))
    (hL3 : K.lookup a3 = some ⟨oc3, od3, .func (PySem.W.fnOf "is_safe" "is_safe" (defArgs (top 11)) (defBody (top 11)) (defScope (top 11)) .none kV3 dc3 pm3 an3 cd3 ct3), sl3⟩)
    (hC3 : PySem.W.codeIn K cd3 "is_safe" = true)
    (hK3 : PySem.W.keepIn K (.ref a3) = true)
    (hA4 : PySem.W.nsIn K mainGlobals "loads" = some (some (.ref a4)))
    (hL4 : K.lookup a4 = some ⟨oc4, od4, .func (PySem.W.fnOf "loads" "loads" (defArgs (top 12)) (defBody (top 12)) (defScope (top 12)) .none kV4 dc4 pm4 an4 cd4 ct4), sl4⟩)
    (hC4 : PySem.W.codeIn K cd4 "loads" = true)
    (hK4 : PySem.W.keepIn K (.ref a4) = true)
    (hA5 : PySem.W.nsIn K mainGlobals "checked_stand" = some (some (.ref a5)))
    (hL5 : K.lookup a5 = some ⟨oc5, od5, .func (PySem.W.fnOf "checked_stand" "checked_stand" (defArgs (top 13)) (defBody (top 13)) (defScope (top 13)) .none kV5 dc5 pm5 an5 cd5 ct5), sl5⟩)
    (hC5 : PySem.W.codeIn K cd5 "checked_stand" = true)
    (hK5 : PySem.W.keepIn K (.ref a5) = true)
    (hA6 : PySem.W.nsIn K mainGlobals "moved" = some (some (.ref a6)))
    (hL6 : K.lookup a6 = some ⟨oc6, od6, .func (PySem.W.fnOf "moved" "moved" (defArgs (top 14)) (defBody (top 14)) (defScope (top 14)) .none kV6 dc6 pm6 an6 cd6 ct6), sl6⟩)
    (hC6 : PySem.W.codeIn K cd6 "moved" = true)
    (hK6 : PySem.W.keepIn K (.ref a6) = true)
    (hA7 : PySem.W.nsIn K mainGlobals "next_stands" = some (some (.ref a7)))
    (hL7 : K.lookup a7 = some ⟨oc7, od7, .func (PySem.W.fnOf "next_stands" "next_stands" (defArgs (top 15)) (defBody (top 15)) (defScope (top 15)) .none kV7 dc7 pm7 an7 cd7 ct7), sl7⟩)
    (hC7 : PySem.W.codeIn K cd7 "next_stands" = true)
    (hK7 : PySem.W.keepIn K (.ref a7) = true)
    (hA8 : PySem.W.nsIn K mainGlobals "behind" = some (some (.ref a8)))
    (hL8 : K.lookup a8 = some ⟨oc8, od8, .func (PySem.W.fnOf "behind" "behind" (defArgs (top 16)) (defBody (top 16)) (defScope (top 16)) .none kV8 dc8 pm8 an8 cd8 ct8), sl8⟩)
    (hC8 : PySem.W.codeIn K cd8 "behind" = true)
    (hK8 : PySem.W.keepIn K (.ref a8) = true)
    (hA9 : PySem.W.nsIn K mainGlobals "plan" = some (some (.ref a9)))
    (hL9 : K.lookup a9 = some ⟨oc9, od9, .func (PySem.W.fnOf "plan" "plan" (defArgs (top 17)) (defBody (top 17)) (defScope (top 17)) .none kV9 dc9 pm9 an9 cd9 ct9), sl9⟩)
    (hC9 : PySem.W.codeIn K cd9 "plan" = true)
    (hK9 : PySem.W.keepIn K (.ref a9) = true)
    (hA10 : PySem.W.nsIn K mainGlobals "_there" = some (some (.ref a10)))
    (hL10 : K.lookup a10 = some ⟨oc10, od10, .func (PySem.W.fnOf "_there" "_there" (defArgs (top 18)) (defBody (top 18)) (defScope (top 18)) .none kV10 dc10 pm10 an10 cd10 ct10), sl10⟩)
    (hC10 : PySem.W.codeIn K cd10 "_there" = true)
    (hK10 : PySem.W.keepIn K (.ref a10) = true)
    (hA11 : PySem.W.nsIn K mainGlobals "can" = some (some (.ref a11)))
    (hL11 : K.lookup a11 = some ⟨oc11, od11, .func (PySem.W.fnOf "can" "can" (defArgs (top 19)) (defBody (top 19)) (defScope (top 19)) .none kV11 dc11 pm11 an11 cd11 ct11), sl11⟩)
    (hC11 : PySem.W.codeIn K cd11 "can" = true)
    (hK11 : PySem.W.keepIn K (.ref a11) = true)
    (hA12 : PySem.W.nsIn K mainGlobals "judge" = some (some (.ref a12)))
    (hL12 : K.lookup a12 = some ⟨oc12, od12, .func (PySem.W.fnOf "judge" "judge" (defArgs (top 20)) (defBody (top 20)) (defScope (top 20)) .none kV12 dc12 pm12 an12 cd12 ct12), sl12⟩)
    (hC12 : PySem.W.codeIn K cd12 "judge" = true)
    (hK12 : PySem.W.keepIn K (.ref a12) = true)
    (hA13 : PySem.W.nsIn K mainGlobals "judge_not" = some (some (.ref a13)))
    (hL13 : K.lookup a13 = some ⟨oc13, od13, .func (PySem.W.fnOf "judge_not" "judge_not" (defArgs (top 21)) (defBody (top 21)) (defScope (top 21)) .none kV13 dc13 pm13 an13 cd13 ct13), sl13⟩)
    (hC13 : PySem.W.codeIn K cd13 "judge_not" = true)
    (hK13 : PySem.W.keepIn K (.ref a13) = true)
    (hA14 : PySem.W.nsIn K mainGlobals "reached" = some (some (.ref a14)))
    (hL14 : K.lookup a14 = some ⟨oc14, od14, .func (PySem.W.fnOf "reached" "reached" (defArgs (top 22)) (defBody (top 22)) (defScope (top 22)) .none kV14 dc14 pm14 an14 cd14 ct14), sl14⟩)
    (hC14 : PySem.W.codeIn K cd14 "reached" = true)
    (hK14 : PySem.W.keepIn K (.ref a14) = true)
    (hA15 : PySem.W.nsIn K mainGlobals "fewest" = some (some (.ref a15)))
    (hL15 : K.lookup a15 = some ⟨oc15, od15, .func (PySem.W.fnOf "fewest" "fewest" (defArgs (top 23)) (defBody (top 23)) (defScope (top 23)) .none kV15 dc15 pm15 an15 cd15 ct15), sl15⟩)
    (hC15 : PySem.W.codeIn K cd15 "fewest" = true)
    (hK15 : PySem.W.keepIn K (.ref a15) = true)
    (hA16 : PySem.W.nsIn K mainGlobals "_law_same" = some (some (.ref a16)))
    (hL16 : K.lookup a16 = some ⟨oc16, od16, .func (PySem.W.fnOf "_law_same" "_law_same" (defArgs (top 25)) (defBody (top 25)) (defScope (top 25)) .none kV16 dc16 pm16 an16 cd16 ct16), sl16⟩)
    (hC16 : PySem.W.codeIn K cd16 "_law_same" = true)
    (hK16 : PySem.W.keepIn K (.ref a16) = true)
    (hA17 : PySem.W.nsIn K mainGlobals "_law_pool" = some (some (.ref a17)))
    (hL17 : K.lookup a17 = some ⟨oc17, od17, .func (PySem.W.fnOf "_law_pool" "_law_pool" (defArgs (top 26)) (defBody (top 26)) (defScope (top 26)) .none kV17 dc17 pm17 an17 cd17 ct17), sl17⟩)
    (hC17 : PySem.W.codeIn K cd17 "_law_pool" = true)
    (hK17 : PySem.W.keepIn K (.ref a17) = true)
    (hA18 : PySem.W.nsIn K mainGlobals "_law_draw" = some (some (.ref a18)))
    (hL18 : K.lookup a18 = some ⟨oc18, od18, .func (PySem.W.fnOf "_law_draw" "_law_draw" (defArgs (top 27)) (defBody (top 27)) (defScope (top 27)) .none kV18 dc18 pm18 an18 cd18 ct18), sl18⟩)
    (hC18 : PySem.W.codeIn K cd18 "_law_draw" = true)
    (hK18 : PySem.W.keepIn K (.ref a18) = true)
    (hA19 : PySem.W.nsIn K mainGlobals "_law_pick" = some (some (.ref a19)))
    (hL19 : K.lookup a19 = some ⟨oc19, od19, .func (PySem.W.fnOf "_law_pick" "_law_pick" (defArgs (top 28)) (defBody (top 28)) (defScope (top 28)) .none kV19 dc19 pm19 an19 cd19 ct19), sl19⟩)
    (hC19 : PySem.W.codeIn K cd19 "_law_pick" = true)
    (hK19 : PySem.W.keepIn K (.ref a19) = true)
    (hA20 : PySem.W.nsIn K mainGlobals "_law_safe" = some (some (.ref a20)))
    (hL20 : K.lookup a20 = some ⟨oc20, od20, .func (PySem.W.fnOf "_law_safe" "_law_safe" (defArgs (top 29)) (defBody (top 29)) (defScope (top 29)) .none kV20 dc20 pm20 an20 cd20 ct20), sl20⟩)
    (hC20 : PySem.W.codeIn K cd20 "_law_safe" = true)
    (hK20 : PySem.W.keepIn K (.ref a20) = true)
    (hA21 : PySem.W.nsIn K mainGlobals "_law_loads" = some (some (.ref a21)))
    (hL21 : K.lookup a21 = some ⟨oc21, od21, .func (PySem.W.fnOf "_law_loads" "_law_loads" (defArgs (top 30)) (defBody (top 30)) (defScope (top 30)) .none kV21 dc21 pm21 an21 cd21 ct21), sl21⟩)
    (hC21 : PySem.W.codeIn K cd21 "_law_loads" = true)
    (hK21 : PySem.W.keepIn K (.ref a21) = true)
    (hA22 : PySem.W.nsIn K mainGlobals "_law_there" = some (some (.ref a22)))
    (hL22 : K.lookup a22 = some ⟨oc22, od22, .func (PySem.W.fnOf "_law_there" "_law_there" (defArgs (top 31)) (defBody (top 31)) (defScope (top 31)) .none kV22 dc22 pm22 an22 cd22 ct22), sl22⟩)
    (hC22 : PySem.W.codeIn K cd22 "_law_there" = true)
    (hK22 : PySem.W.keepIn K (.ref a22) = true)
    (hA23 : PySem.W.nsIn K mainGlobals "_law_ways" = some (some (.ref a23)))
    (hL23 : K.lookup a23 = some ⟨oc23, od23, .func (PySem.W.fnOf "_law_ways" "_law_ways" (defArgs (top 32)) (defBody (top 32)) (defScope (top 32)) .none kV23 dc23 pm23 an23 cd23 ct23), sl23⟩)
    (hC23 : PySem.W.codeIn K cd23 "_law_ways" = true)
    (hK23 : PySem.W.keepIn K (.ref a23) = true)
    (hA24 : PySem.W.nsIn K mainGlobals "_law_lead" = some (some (.ref a24)))
    (hL24 : K.lookup a24 = some ⟨oc24, od24, .func (PySem.W.fnOf "_law_lead" "_law_lead" (defArgs (top 33)) (defBody (top 33)) (defScope (top 33)) .none kV24 dc24 pm24 an24 cd24 ct24), sl24⟩)
    (hC24 : PySem.W.codeIn K cd24 "_law_lead" = true)
    (hK24 : PySem.W.keepIn K (.ref a24) = true)
    (hA25 : PySem.W.nsIn K mainGlobals "_law_shows" = some (some (.ref a25)))
    (hL25 : K.lookup a25 = some ⟨oc25, od25, .func (PySem.W.fnOf "_law_shows" "_law_shows" (defArgs (top 34)) (defBody (top 34)) (defScope (top 34)) .none kV25 dc25 pm25 an25 cd25 ct25), sl25⟩)
    (hC25 : PySem.W.codeIn K cd25 "_law_shows" = true)
    (hK25 : PySem.W.keepIn K (.ref a25) = true)
    (hA26 : PySem.W.nsIn K mainGlobals "_law_refused" = some (some (.ref a26)))
    (hL26 : K.lookup a26 = some ⟨oc26, od26, .func (PySem.W.fnOf "_law_refused" "_law_refused" (defArgs (top 35)) (defBody (top 35)) (defScope (top 35)) .none kV26 dc26 pm26 an26 cd26 ct26), sl26⟩)
    (hC26 : PySem.W.codeIn K cd26 "_law_refused" = true)
    (hK26 : PySem.W.keepIn K (.ref a26) = true)
    (hA27 : PySem.W.nsIn K mainGlobals "law" = some (some (.ref a27)))
    (hL27 : K.lookup a27 = some ⟨oc27, od27, .func (PySem.W.fnOf "law" "law" (defArgs (top 36)) (defBody (top 36)) (defScope (top 36)) .none kV27 dc27 pm27 an27 cd27 ct27), sl27⟩)
    (hC27 : PySem.W.codeIn K cd27 "law" = true)
    (hK27 : PySem.W.keepIn K (.ref a27) = true)
    (eN0 : PySem.W.nsIn K mainGlobals "CrewError" = some (some (.ref C0)))
    (eN1 : PySem.W.nsIn K mainGlobals "InvalidNumber" = some (some (.ref C1)))
    (eN2 : PySem.W.nsIn K mainGlobals "InvalidPaper" = some (some (.ref C2)))
    (eX0 : PySem.W.excIn K C0 [Value.type "ValueError", Value.type "Exception", Value.type "BaseException", Value.type "object"] "ValueError.__new__" = true)
    (eK0 : PySem.W.keepIn K (.ref C0) = true)
    (eS0 : PySem.W.subIn K (.ref C0) (.type "BaseException") = some true)
    (eT0 : PySem.W.typeIn K (.ref C0) = some (.type "type"))
    (eG0 : PySem.W.findIn K (.ref C0) "__getattribute__" = some (some (.builtin "BaseException.__getattribute__")))
    (eH0 : PySem.W.findIn K (.ref C0) "__getattr__" = some none)
    (eD0 : PySem.W.hasDictIn K C0 = true)
    (eA0 : PySem.W.findIn K (.ref C0) "__class__" = some (some (.builtin "object.__class__")))
    (eM0 : PySem.W.mroIn K C0 (.type "object") = some true)
    (eB0_0 : PySem.W.subIn K (.ref C0) (.ref C0) = some true)
    (eB0_1 : PySem.W.subIn K (.ref C0) (.ref C1) = some false)
    (eB0_2 : PySem.W.subIn K (.ref C0) (.ref C2) = some false)
    (eI0_0 : PySem.W.kitOne K (.ref C0) (.ref C0) = some true)
    (eI0_1 : PySem.W.kitOne K (.ref C0) (.ref C1) = some false)
    (eI0_2 : PySem.W.kitOne K (.ref C0) (.ref C2) = some false)
    (eV0 : PySem.W.kitOne K (.ref C0) (.type "ValueError") = some true)
    (eX1 : PySem.W.excIn K C1 [Value.type "ValueError", Value.type "Exception", Value.type "BaseException", Value.type "object"] "ValueError.__new__" = true)
    (eK1 : PySem.W.keepIn K (.ref C1) = true)
    (eS1 : PySem.W.subIn K (.ref C1) (.type "BaseException") = some true)
    (eT1 : PySem.W.typeIn K (.ref C1) = some (.type "type"))
    (eG1 : PySem.W.findIn K (.ref C1) "__getattribute__" = some (some (.builtin "BaseException.__getattribute__")))
    (eH1 : PySem.W.findIn K (.ref C1) "__getattr__" = some none)
    (eD1 : PySem.W.hasDictIn K C1 = true)
    (eA1 : PySem.W.findIn K (.ref C1) "__class__" = some (some (.builtin "object.__class__")))
    (eM1 : PySem.W.mroIn K C1 (.type "object") = some true)
    (eB1_0 : PySem.W.subIn K (.ref C1) (.ref C0) = some true)
    (eB1_1 : PySem.W.subIn K (.ref C1) (.ref C1) = some true)
    (eB1_2 : PySem.W.subIn K (.ref C1) (.ref C2) = some false)
    (eI1_0 : PySem.W.kitOne K (.ref C1) (.ref C0) = some true)
    (eI1_1 : PySem.W.kitOne K (.ref C1) (.ref C1) = some true)
    (eI1_2 : PySem.W.kitOne K (.ref C1) (.ref C2) = some false)
    (eV1 : PySem.W.kitOne K (.ref C1) (.type "ValueError") = some true)
    (eX2 : PySem.W.excIn K C2 [Value.type "ValueError", Value.type "Exception", Value.type "BaseException", Value.type "object"] "ValueError.__new__" = true)
    (eK2 : PySem.W.keepIn K (.ref C2) = true)
    (eS2 : PySem.W.subIn K (.ref C2) (.type "BaseException") = some true)
    (eT2 : PySem.W.typeIn K (.ref C2) = some (.type "type"))
    (eG2 : PySem.W.findIn K (.ref C2) "__getattribute__" = some (some (.builtin "BaseException.__getattribute__")))
    (eH2 : PySem.W.findIn K (.ref C2) "__getattr__" = some none)
    (eD2 : PySem.W.hasDictIn K C2 = true)
    (eA2 : PySem.W.findIn K (.ref C2) "__class__" = some (some (.builtin "object.__class__")))
    (eM2 : PySem.W.mroIn K C2 (.type "object") = some true)
    (eB2_0 : PySem.W.subIn K (.ref C2) (.ref C0) = some true)
    (eB2_1 : PySem.W.subIn K (.ref C2) (.ref C1) = some false)
    (eB2_2 : PySem.W.subIn K (.ref C2) (.ref C2) = some true)
    (eI2_0 : PySem.W.kitOne K (.ref C2) (.ref C0) = some true)
    (eI2_1 : PySem.W.kitOne K (.ref C2) (.ref C1) = some false)
    (eI2_2 : PySem.W.kitOne K (.ref C2) (.ref C2) = some true)
    (eV2 : PySem.W.kitOne K (.ref C2) (.type "ValueError") = some true)
    (eP : PySem.W.specialIn K (.builtin "object.__class__") "__get__" = some (some (.builtin "getset_descriptor.__get__")))
    (eQ : PySem.W.takesIn K (.builtin "object.__class__") = some true)
    (hz_ValueError : PySem.W.nsIn K mainGlobals "ValueError" = some none)
    (hz_abs : PySem.W.nsIn K mainGlobals "abs" = some none)
    (hz_bool : PySem.W.nsIn K mainGlobals "bool" = some none)
    (hz_int : PySem.W.nsIn K mainGlobals "int" = some none)
    (hz_isinstance : PySem.W.nsIn K mainGlobals "isinstance" = some none)
    (hz_len : PySem.W.nsIn K mainGlobals "len" = some none)
    (hz_list : PySem.W.nsIn K mainGlobals "list" = some none)
    (hz_min : PySem.W.nsIn K mainGlobals "min" = some none)
    (hz_range : PySem.W.nsIn K mainGlobals "range" = some none)
    (hz_reversed : PySem.W.nsIn K mainGlobals "reversed" = some none)
    (hz_sorted : PySem.W.nsIn K mainGlobals "sorted" = some none)
    (hz_str : PySem.W.nsIn K mainGlobals "str" = some none)
    (hz_tuple : PySem.W.nsIn K mainGlobals "tuple" = some none)
    (hg_MOST : PySem.W.nsIn K mainGlobals "MOST" = some (some (.int 8 tg_MOST))) :
    ∃ fd : FuncData, (∀ (s : Shared) (u : Value), BindsTo s fd ⟨[u], []⟩ [("script", u)]) ∧ ∀ base : Heap, K.In base → base.Ns mainGlobals mg → FnOk P w K mg base (L2N.CX P w) (depth + 2) fa fd ["script"] (spL K) := by
  have e := hfa.symm.trans (PySem.W.mg_of X G hA27)
  cases e
  have Z := mk_all X G hA0 hL0 hT0 hC0 hK0 hA1 hL1 hT1 hC1 hK1 hA2 hL2 hC2 hK2 hA3 hL3 hC3 hK3 hA4 hL4 hC4 hK4 hA5 hL5 hC5 hK5 hA6 hL6 hC6 hK6 hA7 hL7 hC7 hK7 hA8 hL8 hC8 hK8 hA9 hL9 hC9 hK9 hA10 hL10 hC10 hK10 hA11 hL11 hC11 hK11 hA12 hL12 hC12 hK12 hA13 hL13 hC13 hK13 hA14 hL14 hC14 hK14 hA15 hL15 hC15 hK15 hA16 hL16 hC16 hK16 hA17 hL17 hC17 hK17 hA18 hL18 hC18 hK18 hA19 hL19 hC19 hK19 hA20 hL20 hC20 hK20 hA21 hL21 hC21 hK21 hA22 hL22 hC22 hK22 hA23 hL23 hC23 hK23 hA24 hL24 hC24 hK24 hA25 hL25 hC25 hK25 hA26 hL26 hC26 hK26 hA27 hL27 hC27 hK27 eN0 eN1 eN2 eX0 eK0 eS0 eT0 eG0 eH0 eD0 eA0 eM0 eB0_0 eB0_1 eB0_2 eI0_0 eI0_1 eI0_2 eV0 eX1 eK1 eS1 eT1 eG1 eH1 eD1 eA1 eM1 eB1_0 eB1_1 eB1_2 eI1_0 eI1_1 eI1_2 eV1 eX2 eK2 eS2 eT2 eG2 eH2 eD2 eA2 eM2 eB2_0 eB2_1 eB2_2 eI2_0 eI2_1 eI2_2 eV2 eP eQ hz_ValueError hz_abs hz_bool hz_int hz_isinstance hz_len hz_list hz_min hz_range hz_reversed hz_sorted hz_str hz_tuple hg_MOST
  exact ⟨_, fun s u => .of_eq rfl, fun base _ _ => law_ok Z hl⟩
end
end K66

set_option linter.all false
set_option maxRecDepth 100000
set_option maxHeartbeats 400000
/-! MP: rafts: stands (three ints), loads (two), the ways to all stands, in plain Lean. -/
namespace MP
open PySem
/-! ### data that is encoded one to one -/
section
variable {A : Type} [DecidableEq A] {enc : A → D}
theorem shaped_enc (hc : ∀ a, (enc a).canLay0 = true) (hd : ∀ a, (enc a).depth ≤ 2) (l : List A) : SeqAt.shaped (.list (l.map enc)) = true := by
  have k : PyData.canLayAll0 (l.map enc) = true ∧ PyData.depthAll (l.map enc) ≤ 2 := by
    induction l with
    | nil => exact ⟨by simp [PyData.canLayAll0], by simp [PyData.depthAll]⟩
    | cons x l ih =>
      have := hd x
      refine ⟨by rw [List.map_cons, PyData.canLayAll0, hc x, ih.1]; rfl, ?_⟩
      rw [List.map_cons, PyData.depthAll]
      have := ih.2
      omega
  unfold SeqAt.shaped
  rw [Bool.and_eq_true]
  refine ⟨by rw [PyData.canLay0]; exact k.1, decide_eq_true ?_⟩
  rw [PyData.depth]
  have := k.2
  omega
theorem eqvAll_enc (he : ∀ a b, PyData.eqv (enc a) (enc b) = decide (a = b)) : ∀ l m : List A, PyData.eqvAll (l.map enc) (m.map enc) = decide (l = m)
  | [], [] => by simp [PyData.eqvAll]
  | [], _ :: _ => by simp [PyData.eqvAll]
  | _ :: _, [] => by simp [PyData.eqvAll]
  | x :: l, y :: m => by
    rw [List.map_cons, List.map_cons, PyData.eqvAll, he, eqvAll_enc he l m]
    by_cases h : x = y <;> by_cases h2 : l = m <;> simp [h, h2]
theorem eqF_enc (he : ∀ a b, PyData.eqv (enc a) (enc b) = decide (a = b)) (hc : ∀ a, (enc a).canLay0 = true) (hd : ∀ a, (enc a).depth ≤ 2) (l m : List A) : eqF (.list (l.map enc)) (.list (m.map enc)) = some (decide (l = m)) := by
  unfold eqF
  rw [if_pos ⟨shaped_enc hc hd l, shaped_enc hc hd m⟩, PyData.eqv, eqvAll_enc he]
theorem inF_enc (he : ∀ a b, PyData.eqv (enc a) (enc b) = decide (a = b)) (hc : ∀ a, (enc a).canLay0 = true) (hd : ∀ a, (enc a).depth ≤ 2) (x : A) (l : List A) : inF (enc x) (.list (l.map enc)) = some (decide (x ∈ l)) := by
  have hx : SeqAt.shaped (enc x) = true := by
    unfold SeqAt.shaped
    rw [Bool.and_eq_true]
    have := hd x
    exact ⟨hc x, decide_eq_true (by omega)⟩
  show (if SeqAt.shaped (enc x) = true ∧ SeqAt.shaped (.list (l.map enc)) = true then some ((l.map enc).any fun z => PyData.eqv z (enc x)) else none) = _
  rw [if_pos ⟨hx, shaped_enc hc hd l⟩]
  congr 1
  rw [List.any_map, Bool.eq_iff_iff, List.any_eq_true, decide_eq_true_iff]
  constructor
  · rintro ⟨a, ha, h⟩
    rw [Function.comp, he, decide_eq_true_iff] at h
    exact h ▸ ha
  · intro h
    exact ⟨x, h, by rw [Function.comp, he]; exact decide_eq_true rfl⟩
end
abbrev Sd := Int × Int × Int
abbrev Ld := Int × Int
def tri (p : Sd) : List Int := [p.1, p.2.1, p.2.2]
def eS (p : Sd) : D := .tuple [.int p.1, .int p.2.1, .int p.2.2]
def eP2 (p : Ld) : D := .tuple [.int p.1, .int p.2]
theorem tri_inj {p q : Sd} (h : tri p = tri q) : p = q := by
  obtain ⟨a, b, c⟩ := p
  obtain ⟨d, e, f⟩ := q
  simp [tri] at h
  obtain ⟨rfl, rfl, rfl⟩ := h
  rfl
theorem eS_eqv (p q : Sd) : PyData.eqv (eS p) (eS q) = decide (p = q) := by
  obtain ⟨a, b, c⟩ := p
  obtain ⟨d, e, f⟩ := q
  simp only [eS, PyData.eqv, PyData.eqvAll]
  by_cases h1 : a = d <;> by_cases h2 : b = e <;> by_cases h3 : c = f <;> simp [h1, h2, h3]
theorem eS_lay (p : Sd) : (eS p).canLay0 = true := by simp [eS, PyData.canLay0, PyData.canLayAll0]
theorem eS_dep (p : Sd) : (eS p).depth ≤ 2 := by simp [eS, PyData.depth, PyData.depthAll]
theorem eP2_eqv (p q : Ld) : PyData.eqv (eP2 p) (eP2 q) = decide (p = q) := by
  obtain ⟨a, b⟩ := p
  obtain ⟨d, e⟩ := q
  simp only [eP2, PyData.eqv, PyData.eqvAll]
  by_cases h1 : a = d <;> by_cases h2 : b = e <;> simp [h1, h2]
theorem eP2_lay (p : Ld) : (eP2 p).canLay0 = true := by simp [eP2, PyData.canLay0, PyData.canLayAll0]
theorem eP2_dep (p : Ld) : (eP2 p).depth ≤ 2 := by simp [eP2, PyData.depth, PyData.depthAll]
theorem inF_S (x : Sd) (l : List Sd) : inF (eS x) (.list (l.map eS)) = some (decide (x ∈ l)) := by rw [inF_enc eS_eqv eS_lay eS_dep x l]; congr
theorem inF_P (x : Ld) (l : List Ld) : inF (eP2 x) (.list (l.map eP2)) = some (decide (x ∈ l)) := by rw [inF_enc eP2_eqv eP2_lay eP2_dep x l]; congr
theorem eqF_SS (l m : List Sd) : eqF (.list (l.map eS)) (.list (m.map eS)) = some (decide (l = m)) := eqF_enc eS_eqv eS_lay eS_dep l m
theorem shaped_S (x : Sd) : SeqAt.shaped (eS x) = true := by
  unfold SeqAt.shaped
  rw [eS_lay]
  have := eS_dep x
  simp
  omega
theorem eqF_S (x y : Sd) : eqF (eS x) (eS y) = some (decide (x = y)) := by
  unfold eqF
  rw [if_pos ⟨shaped_S x, shaped_S y⟩, eS_eqv]
/-! ### the rules -/
def safeF (m : Int) (p : Ld) : Bool := decide (0 ≤ p.1) && decide (p.1 ≤ m) && (decide (0 ≤ p.2) && decide (p.2 ≤ m)) && !(decide (0 < p.1) && decide (p.1 < p.2)) && !(decide (0 < m - p.1) && decide (m - p.1 < m - p.2))
def loadsF (s : Nat) : List Ld := (List.range (s + 1)).flatMap fun (f : Nat) => ((List.range (s + 1 - f)).filter fun (k : Nat) => decide (0 < f + k) && !(decide (0 < f) && decide (f < k))).map fun (k : Nat) => ((f : Int), (k : Int))
def sgn (st : Sd) : Int := if st.2.2 = 0 then -1 else 1
def goF (st : Sd) (l : Ld) : Ld := (st.1 + sgn st * l.1, st.2.1 + sgn st * l.2)
def thereF (m : Int) (st : Sd) (l : Ld) : Option Sd := if safeF m (goF st l) = true then some ((goF st l).1, (goF st l).2, 1 - st.2.2) else none
def okS (m : Int) (st : Sd) : Bool := safeF m (st.1, st.2.1) && (decide (st.2.2 = 0) || decide (st.2.2 = 1))
theorem there_ok {m : Int} {st t : Sd} {l : Ld} (h : okS m st = true) (e : thereF m st l = some t) : okS m t = true := by
  unfold thereF at e
  split at e
  · rename_i hs
    cases e
    unfold okS at h ⊢
    rw [Bool.and_eq_true] at h ⊢
    refine ⟨hs, ?_⟩
    have := h.2
    simp at this ⊢
    omega
  · cases e
def nextF (m : Int) (s : Nat) (st : Sd) : List Sd := (loadsF s).filterMap (thereF m st)
abbrev Wy := List (Sd × List Ld)
def lkS (w : Wy) (k : Sd) : Option (List Ld) := (w.find? fun p => decide (p.1 = k)).map (·.2)
def addF (m : Int) (here : Sd) (a : Wy × List Sd) (l : Ld) : Wy × List Sd := match thereF m here l with
  | some t => if (lkS a.1 t).isNone = true then (a.1 ++ [(t, (lkS a.1 here).getD [] ++ [l])], a.2 ++ [t]) else a
  | none => a
def rndF (m : Int) (s : Nat) (here : Sd) (a : Wy × List Sd) : Wy × List Sd := (loadsF s).foldl (addF m here) a
def waysF (m : Int) (s : Nat) : Nat → Wy × List Sd → Option Wy
  | 0, _ => none
  | n + 1, (w, q) => match q with
    | [] => some w
    | here :: rest => waysF m s n (rndF m s here (w, rest))
def planF (m : Int) (s : Nat) : Nat → Nat → Wy × List Sd → Option (Option (List Ld))
  | 0, _, _ => none
  | n + 1, i, a => match a.2[i]? with
    | none => some none
    | some here => if here = (0, 0, 1) then some (lkS a.1 here) else planF m s n (i + 1) (rndF m s here a)
def reachF (m : Int) (s : Nat) : Nat → Nat → List Sd → Option (List Sd)
  | 0, _, _ => none
  | n + 1, i, q => match q[i]? with
    | none => some q
    | some here => reachF m s n (i + 1) (q ++ (nextF m s here).filter fun t => !decide (t ∈ q))
def start (m : Int) : Sd := (m, m, 0)
def goal : Sd := (0, 0, 1)
def init (m : Int) : Wy × List Sd := ([(start m, [])], [start m])
def waysT (m : Int) (s : Nat) : Wy := (waysF m s 64 (init m)).getD []
def dueT (m : Int) (s : Nat) : Option (List Ld) := lkS (waysT m s) goal
def leadF (m : Int) (s : Nat) : Sd → List Ld → Option Sd
  | here, [] => some here
  | here, l :: r => if l ∈ loadsF s then (thereF m here l).bind fun t => leadF m s t r else none
def cd (p : Sd) : Int := p.1 * 4096 + p.2.1 * 64 + p.2.2
def insS (x : Sd) : List Sd → List Sd
  | [] => [x]
  | y :: r => if cd x ≤ cd y then x :: y :: r else y :: insS x r
def srtS : List Sd → List Sd
  | [] => []
  | x :: r => insS x (srtS r)
def standsT (m : Int) (s : Nat) : List Sd := srtS ((waysT m s).map (·.1))
/-! ### what is so for all that the law draws -/
theorem fact_ways {m : Nat} (hm : m < 6) {s : Nat} (hs : s < 3) : waysF ((m : Int) + 1) (s + 2) 64 (init ((m : Int) + 1)) = some (waysT ((m : Int) + 1) (s + 2)) := by
  have k : ∀ m : Nat, m < 6 → ∀ s : Nat, s < 3 → (waysF ((m : Int) + 1) (s + 2) 64 (init ((m : Int) + 1))).isSome = true := by decide +kernel
  obtain ⟨w, e⟩ := Option.isSome_iff_exists.mp (k m hm s hs)
  rw [waysT, e]
  rfl
theorem fact_plan {m : Nat} (hm : m < 6) {s : Nat} (hs : s < 3) : planF ((m : Int) + 1) (s + 2) 64 0 (init ((m : Int) + 1)) = some (dueT ((m : Int) + 1) (s + 2)) := by
  have k : ∀ m : Nat, m < 6 → ∀ s : Nat, s < 3 → (match planF ((m : Int) + 1) (s + 2) 64 0 (init ((m : Int) + 1)) with
    | some r => decide (r = dueT ((m : Int) + 1) (s + 2))
    | none => false) = true := by decide +kernel
  have h := k m hm s hs
  split at h
  · rename_i r e
    rw [e, of_decide_eq_true h]
  · cases h
theorem fact_good : ∀ m : Nat, m < 6 → ∀ s : Nat, s < 3 → (dueT ((m : Int) + 1) (s + 2)).isSome = decide ((m : Int) + 1 ≤ [3, 5, 8][s]?.getD 0) := by decide +kernel
theorem fact_reach {m : Nat} (hm : m < 6) {s : Nat} (hs : s < 3) : ∃ r, reachF ((m : Int) + 1) (s + 2) 64 0 [start ((m : Int) + 1)] = some r ∧ srtS r = standsT ((m : Int) + 1) (s + 2) ∧ r.length ≤ 50 := by
  have k : ∀ m : Nat, m < 6 → ∀ s : Nat, s < 3 → (match reachF ((m : Int) + 1) (s + 2) 64 0 [start ((m : Int) + 1)] with
    | some r => decide (srtS r = standsT ((m : Int) + 1) (s + 2)) && decide (r.length ≤ 50)
    | none => false) = true := by decide +kernel
  have h := k m hm s hs
  split at h
  · rename_i r e
    rw [Bool.and_eq_true, decide_eq_true_iff, decide_eq_true_iff] at h
    exact ⟨r, e, h.1, h.2⟩
  · cases h
theorem fact_len : ∀ m : Nat, m < 6 → ∀ s : Nat, s < 3 → 2 ≤ (standsT ((m : Int) + 1) (s + 2)).length ∧ (standsT ((m : Int) + 1) (s + 2)).length ≤ 50 ∧ ∀ x ∈ standsT ((m : Int) + 1) (s + 2), okS ((m : Int) + 1) x = true := by decide +kernel
theorem fact_asc : ∀ m : Nat, m < 6 → ∀ s : Nat, s < 3 → (standsT ((m : Int) + 1) (s + 2)).Pairwise fun a b => cd a < cd b := by decide +kernel
theorem fact_due : ∀ m : Nat, m < 6 → ∀ s : Nat, s < 3 → ∀ p, dueT ((m : Int) + 1) (s + 2) = some p → p.length ≤ 40 ∧ (∀ l ∈ p, l ∈ loadsF (s + 2)) ∧ leadF ((m : Int) + 1) (s + 2) (start ((m : Int) + 1)) p = some goal := by
  have k : ∀ m : Nat, m < 6 → ∀ s : Nat, s < 3 → (match dueT ((m : Int) + 1) (s + 2) with
    | some p => decide (p.length ≤ 40) && p.all (fun l => decide (l ∈ loadsF (s + 2))) && decide (leadF ((m : Int) + 1) (s + 2) (start ((m : Int) + 1)) p = some goal)
    | none => true) = true := by decide +kernel
  intro m hm s hs p hp
  have := k m hm s hs
  rw [hp] at this
  simp at this
  exact ⟨this.1.1, fun l hl => this.1.2 l.1 l.2 hl, this.2⟩
theorem fact_sub : ∀ s : Nat, s < 3 → ∀ l ∈ loadsF (s + 2), l ∈ loadsF 8 := by decide +kernel
theorem fact_loads : ∀ s : Nat, s < 3 → (loadsF (s + 2)).length ≤ 50 := by decide +kernel
end MP

set_option linter.all false
set_option maxRecDepth 100000
set_option maxHeartbeats 400000
/-! rafts: the dict of ways, sorted stands, as data. -/
namespace MP
open PySem
def keyS (p : Sd) : List (Sum Int Str) := [.inl p.1, .inl p.2.1, .inl p.2.2]
theorem keyT_eS (p : Sd) : keyT (eS p) = some (keyS p) := rfl
theorem keyS_iff (p q : Sd) : keyT (eS p) = some (keyS q) ↔ p = q := by
  rw [keyT_eS, Option.some.injEq]
  constructor
  · intro h
    obtain ⟨a, b, c⟩ := p
    obtain ⟨d, e, f⟩ := q
    simp [keyS] at h
    obtain ⟨rfl, rfl, rfl⟩ := h
    rfl
  · rintro rfl; rfl
def eW1 (p : Sd × List Ld) : D × D := (eS p.1, .list (p.2.map eP2))
def eW (w : Wy) : List (D × D) := w.map eW1
theorem kindK_eW {w : Wy} (h : w ≠ []) : kindK (eW w) = false := by
  cases w with
  | nil => exact absurd rfl h
  | cons p w => rfl
theorem kindT_eW (w : Wy) : kindT (eW w) = true := by
  unfold kindT eW
  rw [List.all_map, List.all_eq_true]
  intro p _
  rfl
theorem dFindT_eW (k : Sd) : ∀ w : Wy, dFindT (eW w) (keyS k) = (lkS w k).map fun p => PyData.list (p.map eP2)
  | [] => rfl
  | p :: w => by
    have ih := dFindT_eW k w
    unfold dFindT lkS at ih ⊢
    show (((eW1 p :: eW w).find? fun p => decide (keyT p.1 = some (keyS k))).map (·.2)) = _
    rw [List.find?_cons, List.find?_cons]
    by_cases h : p.1 = k
    · have h2 : keyT (eW1 p).1 = some (keyS k) := (keyS_iff p.1 k).mpr h
      simp only [h, h2, decide_true]
      rfl
    · have h2 : ¬ keyT (eW1 p).1 = some (keyS k) := fun z => h ((keyS_iff p.1 k).mp z)
      simp only [h, h2, decide_false]
      exact ih
theorem dGet_eW {w : Wy} (h : w ≠ []) (k : Sd) : dGetF (eW w) (eS k) = some ((lkS w k).map fun p => PyData.list (p.map eP2)) := by
  unfold dGetF
  rw [if_neg (by rw [kindK_eW h]; exact Bool.false_ne_true), if_pos (kindT_eW w), keyT_eS, Option.map_some, dFindT_eW]
theorem lkS_none {w : Wy} {k : Sd} : lkS w k = none ↔ ∀ p ∈ w, p.1 ≠ k := by
  unfold lkS
  rw [Option.map_eq_none_iff, List.find?_eq_none]
  simp
theorem dPut_eW {w : Wy} {k : Sd} {p : List Ld} (h : w ≠ []) (hl : w.length < big) (hn : lkS w k = none) : dPutF (eW w) (eS k) (.list (p.map eP2)) = some (eW (w ++ [(k, p)])) := by
  have hlen : (eW w).length < big := by unfold eW; rw [List.length_map]; exact hl
  unfold dPutF
  rw [if_neg (fun z => by have := z.2; rw [kindK_eW h] at this; cases this), if_pos ⟨hlen, kindT_eW w⟩, keyT_eS, Option.map_some]
  unfold dPutT
  have ha : ((eW w).any fun p => decide (keyT p.1 = some (keyS k))) = false := by
    rw [Bool.eq_false_iff]
    intro z
    rw [List.any_eq_true] at z
    obtain ⟨x, hx, hk⟩ := z
    unfold eW at hx
    obtain ⟨q, hq, rfl⟩ := List.mem_map.mp hx
    exact lkS_none.mp hn q hq ((keyS_iff q.1 k).mp (of_decide_eq_true hk))
  rw [if_neg (by rw [ha]; exact Bool.false_ne_true)]
  congr 1
  unfold eW
  rw [List.map_append]
  rfl
theorem in_eW {w : Wy} (h : w ≠ []) (k : Sd) : cmpF .isin (eS k) (.dict (eW w)) = some (lkS w k).isSome := by
  show (dGetF (eW w) (eS k)).map (·.isSome) = _
  rw [dGet_eW h, Option.map_some, Option.isSome_map]
theorem notin_eW {w : Wy} (h : w ≠ []) (k : Sd) : cmpF .notin (eS k) (.dict (eW w)) = some (lkS w k).isNone := by
  show ((dGetF (eW w) (eS k)).map (·.isSome)).map (!·) = _
  rw [dGet_eW h, Option.map_some, Option.map_some, Option.isSome_map]
  cases lkS w k <;> rfl
/-! ### sorted -/
def Bnd (p : Sd) : Prop := (0 ≤ p.1 ∧ p.1 < 64) ∧ (0 ≤ p.2.1 ∧ p.2.1 < 64) ∧ 0 ≤ p.2.2 ∧ p.2.2 < 64
theorem cd_inj {p q : Sd} (hp : Bnd p) (hq : Bnd q) (h : cd p = cd q) : p = q := by
  obtain ⟨a, b, c⟩ := p
  obtain ⟨d, e, f⟩ := q
  simp only [Bnd, cd] at hp hq h
  have : a = d := by omega
  subst this
  have : b = e := by omega
  subst this
  have : c = f := by omega
  subst this
  rfl
theorem tri_le {p q : Sd} (hp : Bnd p) (hq : Bnd q) : tri p ≤ tri q ↔ cd p ≤ cd q := by
  obtain ⟨a, b, c⟩ := p
  obtain ⟨d, e, f⟩ := q
  simp only [Bnd] at hp hq
  rw [← List.not_lt]
  have e : (tri (d, e, f) < tri (a, b, c)) ↔ (d < a ∨ d = a ∧ (e < b ∨ e = b ∧ f < c)) := by
    simp [tri, List.cons_lt_cons_iff]
  rw [e]
  simp only [cd]
  omega
theorem insS_perm (x : Sd) : ∀ l : List Sd, (insS x l).Perm (x :: l)
  | [] => .refl _
  | y :: r => by
    rw [insS]
    split
    · exact .refl _
    · exact ((insS_perm x r).cons y).trans (.swap x y r)
theorem srtS_perm : ∀ l : List Sd, (srtS l).Perm l
  | [] => .refl _
  | x :: r => (insS_perm x _).trans ((srtS_perm r).cons x)
theorem insS_asc (x : Sd) : ∀ {l : List Sd}, l.Pairwise (fun a b => cd a ≤ cd b) → (insS x l).Pairwise fun a b => cd a ≤ cd b
  | [], _ => by simp [insS]
  | y :: r, h => by
    have hp := List.pairwise_cons.mp h
    rw [insS]
    split
    · rename_i hx
      refine List.pairwise_cons.mpr ⟨fun z hz => ?_, h⟩
      rcases List.mem_cons.mp hz with rfl | hz
      · exact hx
      · exact Int.le_trans hx (hp.1 z hz)
    · rename_i hx
      refine List.pairwise_cons.mpr ⟨fun z hz => ?_, insS_asc x hp.2⟩
      rcases List.mem_cons.mp ((insS_perm x r).mem_iff.mp hz) with rfl | hz
      · omega
      · exact hp.1 z hz
theorem srtS_asc : ∀ l : List Sd, (srtS l).Pairwise fun a b => cd a ≤ cd b
  | [] => .nil
  | x :: r => insS_asc x (srtS_asc r)
theorem asc_unique {l m : List Sd} (hb : ∀ x ∈ l, Bnd x) (hp : l.Perm m) (h1 : l.Pairwise fun a b => cd a ≤ cd b) (h2 : m.Pairwise fun a b => cd a ≤ cd b) : l = m :=
  List.Perm.eq_of_pairwise (le := fun a b => cd a ≤ cd b) (fun a b ha hb' h h' => cd_inj (hb a ha) (hb b (hp.mem_iff.mpr hb')) (Int.le_antisymm h h')) h1 h2 hp
theorem sortM_S {l : List Sd} (hb : ∀ x ∈ l, Bnd x) : (l.map eS).mergeSort (PySem.W.dataLe false id) = (srtS l).map eS := by
  have e : ∀ a ∈ l, ∀ b ∈ l, (fun (p q : Sd) => decide (cd p ≤ cd q)) a b = PySem.W.dataLe false id (eS a) (eS b) := fun a ha b hb' => by
    have := congrFun (congrFun (PySem.W.dataLe_rows (fun (x : Sd) => tri x)) a) b
    show decide (cd a ≤ cd b) = _
    rw [← decide_eq_decide.mpr (tri_le (hb a ha) (hb b hb')), ← this]
    rfl
  rw [← PySem.W.sort_maps eS e]
  congr 1
  have s := List.pairwise_mergeSort (le := fun (p q : Sd) => decide (cd p ≤ cd q)) (fun a b c h1 h2 => decide_eq_true (Int.le_trans (of_decide_eq_true h1) (of_decide_eq_true h2))) (fun a b => by
    rcases Int.le_total (cd a) (cd b) with h | h
    · rw [decide_eq_true h]; rfl
    · rw [decide_eq_true h, Bool.or_true]) l
  have pm := List.mergeSort_perm l fun (p q : Sd) => decide (cd p ≤ cd q)
  exact asc_unique (fun x hx => hb x (pm.mem_iff.mp hx)) (pm.trans (srtS_perm l).symm) (s.imp fun h => of_decide_eq_true h) (srtS_asc l)
theorem alike_S (a b : Sd) : PySem.W.alike (eS a) (eS b) = true := by
  unfold eS
  simp [PySem.W.alike, PySem.W.alikeAll]
theorem sortTF_S {l : List Sd} (hb : ∀ x ∈ l, Bnd x) (hl : l.length ≤ big) : sortTF (l.map eS) = some (.tmp (.lst ((srtS l).map eS))) := by
  have c1 : ((l.map eS).all fun d => SeqAt.shaped d) = true := by
    rw [List.all_map, List.all_eq_true]
    intro x _
    exact shaped_S x
  have c2 : alikeB (l.map eS) = true := by
    unfold alikeB
    rw [List.all_map, List.all_eq_true]
    intro x _
    show ((l.map eS).all fun b => PySem.W.alike (eS x) b) = true
    rw [List.all_map, List.all_eq_true]
    intro y _
    exact alike_S x y
  have c3 : (l.map eS).all tupB = true := by
    rw [List.all_map, List.all_eq_true]
    intro x _
    rfl
  unfold sortTF
  rw [if_pos ⟨c1, c2, c3, by rw [List.length_map]; exact hl⟩, sortM_S hb]
theorem sortD_S {l : List Sd} (hb : ∀ x ∈ l, Bnd x) (hl : l.length ≤ big) : libF .sortD [.list (l.map eS)] = some (.tmp (.lst ((srtS l).map eS))) := by
  show sortDF (l.map eS) = _
  have h := sortTF_S hb hl
  unfold sortTF at h
  unfold sortDF
  cases l with
  | nil => rfl
  | cons a r =>
    have e : intsF ((a :: r).map eS) = none := rfl
    rw [e]
    dsimp only
    split at h
    · rename_i hc
      rw [if_pos ⟨hc.1, hc.2.1, .inl hc.2.2.1, hc.2.2.2⟩]
      exact h
    · cases h
theorem sortK_W {w : Wy} (hw : w ≠ []) (hb : ∀ x ∈ w.map (·.1), Bnd x) (hl : w.length ≤ big) : libF .sortK [.dict (eW w)] = some (.tmp (.lst ((srtS (w.map (·.1))).map eS))) := by
  show (if kindT (eW w) = true ∧ eW w ≠ [] then sortTF ((eW w).map (·.1)) else none) = _
  rw [if_pos ⟨kindT_eW w, by unfold eW; simpa using hw⟩]
  have : (eW w).map (·.1) = (w.map (·.1)).map eS := by
    unfold eW
    rw [List.map_map, List.map_map]
    rfl
  rw [this]
  exact sortTF_S hb (by rw [List.length_map]; exact hl)
theorem dst_tri : ∀ l : List Sd, dst (l.map tri) = (dst l).map tri
  | [] => rfl
  | x :: r => by
    rw [List.map_cons, dst, dst, dst_tri r]
    by_cases h : x ∈ r
    · rw [if_pos h, if_pos (List.mem_map.mpr ⟨x, h, rfl⟩)]
    · rw [if_neg h, if_neg (fun z => h (by
        obtain ⟨y, hy, e⟩ := List.mem_map.mp z
        rw [← tri_inj e]
        exact hy)), List.map_cons]
theorem tupsL_S (l : List Sd) : tupsL (l.map eS) = l.map tri := by
  unfold tupsL
  rw [List.filterMap_map]
  induction l with
  | nil => rfl
  | cons x r ih => rw [List.filterMap_cons, List.map_cons, ← ih]; rfl
theorem ssortT_S {l : List Sd} (hb : ∀ x ∈ l, Bnd x) (hl : l.length ≤ 60) : libF .ssortT [.list (l.map eS)] = some (.tmp (.lst ((srtS (dst l)).map eS))) := by
  have hd := dst_len l
  have ha : ((l.map eS).all fun d => (tupD d).isSome) = true := by
    rw [List.all_map, List.all_eq_true]
    intro x _
    rfl
  have hbd : ∀ x ∈ dst l, Bnd x := fun x hx => hb x (dst_sub hx)
  have c4 : ((dst l).map tri).all smallT = true := by
    rw [List.all_map, List.all_eq_true]
    intro x hx
    have := hbd x hx
    simp only [Bnd] at this
    simp [smallT, tri, this.1.1, this.1.2, this.2.1.1, this.2.1.2, this.2.2.1, this.2.2.2]
  have e : ∀ a ∈ dst l, ∀ b ∈ dst l, (fun (p q : Sd) => decide (cd p ≤ cd q)) a b = (fun (p q : List Int) => decide (code3 p ≤ code3 q)) (tri a) (tri b) := fun a _ b _ => rfl
  have h1 : sortC ((dst l).map tri) = (srtS (dst l)).map tri := by
    unfold sortC
    rw [← PySem.W.sort_maps tri e]
    congr 1
    have s := List.pairwise_mergeSort (le := fun (p q : Sd) => decide (cd p ≤ cd q)) (fun a b c h1 h2 => decide_eq_true (Int.le_trans (of_decide_eq_true h1) (of_decide_eq_true h2))) (fun a b => by
      rcases Int.le_total (cd a) (cd b) with h | h
      · rw [decide_eq_true h]; rfl
      · rw [decide_eq_true h, Bool.or_true]) (dst l)
    have pm := List.mergeSort_perm (dst l) fun (p q : Sd) => decide (cd p ≤ cd q)
    exact asc_unique (fun x hx => hbd x (pm.mem_iff.mp hx)) (pm.trans (srtS_perm _).symm) (s.imp fun h => of_decide_eq_true h) (srtS_asc _)
  show (if _ then _ else _) = _
  rw [tupsL_S, dst_tri, if_pos ⟨⟨ha, by rw [List.length_map]; omega, by rw [List.length_map]; omega⟩, c4⟩, h1, List.map_map]
  rfl
/-- strictly ascending -/
def Asc (l : List Sd) : Prop := l.Pairwise fun a b => cd a < cd b
theorem asc_set {l : List Sd} (hb : ∀ x ∈ l, Bnd x) : l = srtS (dst l) ↔ Asc l := by
  constructor
  · intro h
    have nd : l.Nodup := by rw [h]; exact (srtS_perm _).nodup_iff.mpr (dst_nd l)
    have as : l.Pairwise fun a b => cd a ≤ cd b := by rw [h]; exact srtS_asc _
    have := List.Pairwise.and as nd
    exact this.imp_of_mem fun {a b} ha hb' h => by
      have : cd a ≠ cd b := fun z => h.2 (cd_inj (hb a ha) (hb b hb') z)
      have := h.1
      omega
  · intro h
    have nd : l.Nodup := h.imp fun h e => by rw [e] at h; omega
    rw [dst_id nd]
    exact asc_unique hb (srtS_perm l).symm (h.imp fun h => by omega) (srtS_asc l)
theorem asc_srt {l : List Sd} (hb : ∀ x ∈ l, Bnd x) : l = srtS l ↔ l.Pairwise fun a b => cd a ≤ cd b :=
  ⟨fun h => by rw [h]; exact srtS_asc _, fun h => asc_unique hb (srtS_perm l).symm h (srtS_asc l)⟩
theorem asc_two {l : List Sd} (hb : ∀ x ∈ l, Bnd x) : Asc l ↔ (l.Pairwise fun a b => cd a ≤ cd b) ∧ l.Nodup := by
  constructor
  · intro h
    exact ⟨h.imp fun h => by omega, h.imp fun h e => by rw [e] at h; omega⟩
  · rintro ⟨as, nd⟩
    exact (List.Pairwise.and as nd).imp_of_mem fun {a b} ha hb' h => by
      have : cd a ≠ cd b := fun z => h.2 (cd_inj (hb a ha) (hb b hb') z)
      have := h.1
      omega
end MP

set_option linter.all false
set_option maxRecDepth 100000
set_option maxHeartbeats 400000
namespace K66
open PySem MP
theorem m_18 : msgOk 1 8 = true := by decide +kernel
theorem m_28 : msgOk 2 8 = true := by decide +kernel
section
variable {n : Nat}
theorem chk1 (d : D) : run T wf sub (n + 2) 1 [.val d, .val (.int 1), .val (.int 8)] = if numF d 1 8 = true then .ok (.val d) none else .ex 1 .none none := chk_ok (jn := 0) (x := 1) rfl rfl m_18
theorem chk2 (d : D) : run T wf sub (n + 2) 1 [.val d, .val (.int 2), .val (.int 8)] = if numF d 2 8 = true then .ok (.val d) none else .ex 1 .none none := chk_ok (jn := 0) (x := 1) rfl rfl m_28
theorem num_18 {m : Int} (h1 : 1 ≤ m) (h8 : m ≤ 8) : numF (.int m) 1 8 = true := num_in h1 h8
theorem evCallX {Γ : Cfg} {s s1 s2 : MP.Env} {es : List MP.E} {j x : Nat} {p : D} {t : Bool} {ds : List D} {rs : List Res} {cs : List Cell} (h1 : evr Γ es s = .ok rs s1) (h2 : argCells s1 (Γ.pms j) (rs ++ ds.map .val) = some (cs, none, s2)) (h3 : Γ.run j cs = .ex x p none) : ev Γ t (.call j es ds) s = .ex x p s2 := by
  cases t <;> simp only [ev, fin, if_true, if_false, Bool.false_eq_true, h1, h2, h3, R.bind, backIO, truthR]
theorem expr_ex {Γ : Cfg} {e : MP.E} {x : Nat} {p : D} {s s1 : MP.Env} (h : ev Γ false e s = .ex x p s1) : ex1 Γ (.expr e) s = .ex x p s1 := by simp only [ex1, h, R.thenX]
theorem ends_ex {Γ : Cfg} {f : Fn} {c : MP.S} {q : List MP.S} {rc : RC} {x : Nat} {p : D} {s s1 : MP.Env} (h : ex1 Γ c s = .ex x p s1) (k : endF f (.ex x p s1) = rc) : endF f (exs Γ (c :: q) s) = rc := by
  rw [exs, h]
  simpa only [X.seq] using k
theorem evTupX1 {Γ : Cfg} {a : MP.E} {es : List MP.E} {x : Nat} {p : D} {s s1 : MP.Env} (h : ev Γ false a s = .ex x p s1) : ev Γ false (.tup (a :: es)) s = .ex x p s1 := by
  rw [ev, fin_false, evs, h]
  rfl
theorem evTupX2 {Γ : Cfg} {a b : MP.E} {es : List MP.E} {x : Nat} {p d : D} {s s1 s2 : MP.Env} (h : ev Γ false a s = .ok (.val d) s1) (h2 : ev Γ false b s1 = .ex x p s2) : ev Γ false (.tup (a :: b :: es)) s = .ex x p s2 := by
  rw [ev, fin_false, evs, h]
  simp only [R.bind, frz]
  rw [evs, h2]
  rfl
theorem retX {Γ : Cfg} {a : MP.E} {x : Nat} {p : D} {s s1 : MP.Env} (h : ev Γ false a s = .ex x p s1) : ex1 Γ (.ret a) s = .ex x p s1 := by simp only [ex1, h, R.thenX]
theorem trip_any (d e : D) : run T wf sub (n + 3) 2 [.val d, .val e] = if numF d 1 8 = true then (if numF e 2 8 = true then .ok (.val (.tuple [d, e])) none else .ex 1 .none none) else .ex 1 .none none := by
  have h1 := chk1 (n := n) d
  have h2 := chk2 (n := n) e
  rw [run_eq rfl rfl]
  show endF f2 (exs (Gm T wf sub (n + 2)) c2 [Vd d, Vd e]) = _
  by_cases c : numF d 1 8 = true
  · rw [if_pos c] at h1 ⊢
    have a1 : ev (Gm T wf sub (n + 2)) false (.call 1 [(.var 0), (.cst (.int 1)), (.cst (.int 8))] []) [Vd d, Vd e] = .ok (.val d) [Vd d, Vd e] := evCall (v := .val d) (ds := []) (evr1 (evV rfl) rfl (evr1 evCst rfl (evr1 evCst rfl evr0))) rfl h1
    by_cases c' : numF e 2 8 = true
    · rw [if_pos c'] at h2 ⊢
      have a2 : ev (Gm T wf sub (n + 2)) false (.call 1 [(.var 1), (.cst (.int 2)), (.cst (.int 8))] []) [Vd d, Vd e] = .ok (.val e) [Vd d, Vd e] := evCall (v := .val e) (ds := []) (evr1 (evV rfl) rfl (evr1 evCst rfl (evr1 evCst rfl evr0))) rfl h2
      exact ends_ret (retV (evTup2 a1 a2)) rfl
    · rw [if_neg c'] at h2 ⊢
      have a2 : ev (Gm T wf sub (n + 2)) false (.call 1 [(.var 1), (.cst (.int 2)), (.cst (.int 8))] []) [Vd d, Vd e] = .ex 1 .none [Vd d, Vd e] := evCallX (ds := []) (evr1 (evV rfl) rfl (evr1 evCst rfl (evr1 evCst rfl evr0))) rfl h2
      exact ends_ex (retX (evTupX2 a1 a2)) rfl
  · rw [if_neg c] at h1 ⊢
    have a1 : ev (Gm T wf sub (n + 2)) false (.call 1 [(.var 0), (.cst (.int 1)), (.cst (.int 8))] []) [Vd d, Vd e] = .ex 1 .none [Vd d, Vd e] := evCallX (ds := []) (evr1 (evV rfl) rfl (evr1 evCst rfl (evr1 evCst rfl evr0))) rfl h1
    exact ends_ex (retX (evTupX1 a1)) rfl
theorem trip_ok {m s : Int} (h1 : 1 ≤ m) (h8 : m ≤ 8) (s1 : 2 ≤ s) (s8 : s ≤ 8) : run T wf sub (n + 3) 2 [.val (.int m), .val (.int s)] = .ok (.val (.tuple [.int m, .int s])) none := by
  rw [trip_any, if_pos (num_18 h1 h8), if_pos (num_in s1 s8)]
theorem safe_ok {m a b : Int} (h1 : 1 ≤ m) (h8 : m ≤ 8) : run T wf sub (n + 3) 3 [.val (.int m), .val (.tuple [.int a, .int b])] = .ok (.val (.bool (safeF m (a, b)))) none := by
  have k0 := chk1 (n := n) (.int m)
  rw [if_pos (num_18 h1 h8)] at k0
  rw [run_eq rfl rfl]
  show endF f3 (exs (Gm T wf sub (n + 2)) c3 [Vi m, Vd (.tuple [.int a, .int b]), none, none, none]) = _
  rw [c3]
  refine ends_nx (s1 := [Vi m, Vd (.tuple [.int a, .int b]), none, none, none]) (expr_nx (evCall (ds := []) (evr1 (evV rfl) rfl (evr1 evCst rfl (evr1 evCst rfl evr0))) rfl k0)) ?_
  have k1 := compF (Γ := Gm T wf sub (n + 2)) (elt := E3_1) (c := E3_0) (k := .seq) (i := 4) (src := [(.var 1)]) (rs := [.val (.tuple [.int a, .int b])]) (ds := [.tuple [.int a, .int b]]) (s := [Vi m, Vd (.tuple [.int a, .int b]), none, none, none]) (s2 := [Vi m, Vd (.tuple [.int a, .int b]), none, none, none]) (o := none) PyData.int (fun x => !numF (.int x) 0 m) PyData.int [a, b] (evr1 (evV rfl) rfl evr0) rfl rfl rfl rfl .no (by show 2 ≤ big; decide) (fun x hx => by
    have e := num_ok (T := T) (wf := wf) (sub := sub) (n := n + 1) (j := 0) (d := .int x) (a := 0) (b := m) rfl
    exact evNot (evCallT (Γ := Gm T wf sub (n + 2)) (j := 0) (ds := []) (evr1 (evV rfl) rfl (evr1 evCst rfl (evr1 (evV rfl) rfl evr0))) rfl e)) (fun x hx h => evV rfl)
  have hh : ev (Gm T wf sub (n + 2)) true (.comp E3_1 (.name 4) .seq [(.var 1)] (some E3_0) [4]) [Vi m, Vd (.tuple [.int a, .int b]), none, none, none] = truthR (ev (Gm T wf sub (n + 2)) false (.comp E3_1 (.name 4) .seq [(.var 1)] (some E3_0) [4]) [Vi m, Vd (.tuple [.int a, .int b]), none, none, none]) := by
    simp only [ev, fin]
    rfl
  have i1 : ev (Gm T wf sub (n + 2)) true (.notE (.isi (.var 1) [.tuple])) [Vi m, Vd (.tuple [.int a, .int b]), none, none, none] = .ok (.val (.bool false)) [Vi m, Vd (.tuple [.int a, .int b]), none, none, none] := by simp [exs, ex1, ev, evs, evr, evo, fin, truthR, R.bind, R.thenX, R.opt, X.seq, hold, look, lookAll, Cell.d?, cmpF, eqF_int, boolR, truthF, bltF, binF, asgF, frz, retF, resOf, endF, outAt, inAt, argCells, backIO, entry, argEnv, isTy]
  have i2 : ev (Gm T wf sub (n + 2)) true (.cmp .ne (.blt .len [(.var 1)]) (.cst (.int 2))) [Vi m, Vd (.tuple [.int a, .int b]), none, none, none] = .ok (.val (.bool false)) [Vi m, Vd (.tuple [.int a, .int b]), none, none, none] := by simp [exs, ex1, ev, evs, evr, evo, fin, truthR, R.bind, R.thenX, R.opt, X.seq, hold, look, lookAll, Cell.d?, cmpF, eqF_int, boolR, truthF, bltF, binF, asgF, frz, retF, resOf, endF, outAt, inAt, argCells, backIO, entry, argEnv]
  by_cases c : numF (.int a) 0 m = true ∧ numF (.int b) 0 m = true
  · have hf : [a, b].filter (fun x => !numF (.int x) 0 m) = [] := by simp [c.1, c.2]
    rw [hf] at k1
    have a2 : ev (Gm T wf sub (n + 2)) true (.comp E3_1 (.name 4) .seq [(.var 1)] (some E3_0) [4]) [Vi m, Vd (.tuple [.int a, .int b]), none, none, none] = .ok (.val (.bool false)) [Vi m, Vd (.tuple [.int a, .int b]), none, none, none] := by
      rw [hh, k1]
      rfl
    refine ends_nx (s1 := [Vi m, Vd (.tuple [.int a, .int b]), none, none, none]) (ite_no (evOr i1 (evOr i2 a2))) ?_
    refine ends_nx (s1 := [Vi m, Vd (.tuple [.int a, .int b]), Vi a, Vi b, none]) (asgT2 (evV rfl) rfl) ?_
    obtain ⟨ca, cb⟩ := c
    simp [numF] at ca cb
    rw [q3_3, q3_4]
    by_cases x1 : 0 < a
    · by_cases x2 : a < b
      · simp [exs, ex1, ev, evs, evr, evo, fin, truthR, R.bind, R.thenX, R.opt, X.seq, hold, look, lookAll, Cell.d?, cmpF, eqF_int, boolR, truthF, bltF, binF, asgF, frz, retF, resOf, endF, outAt, inAt, argCells, backIO, entry, argEnv, f3, x1, x2, safeF, ca.1, ca.2, cb.1, cb.2]
      · have x2' : b ≤ a := by omega
        by_cases y1 : a < m
        · by_cases y2 : m - a < m - b
          · simp [exs, ex1, ev, evs, evr, evo, fin, truthR, R.bind, R.thenX, R.opt, X.seq, hold, look, lookAll, Cell.d?, cmpF, eqF_int, boolR, truthF, bltF, binF, asgF, frz, retF, resOf, endF, outAt, inAt, argCells, backIO, entry, argEnv, f3, x1, x2, x2', safeF, ca.1, ca.2, cb.1, cb.2, y1, y2]
          · simp [exs, ex1, ev, evs, evr, evo, fin, truthR, R.bind, R.thenX, R.opt, X.seq, hold, look, lookAll, Cell.d?, cmpF, eqF_int, boolR, truthF, bltF, binF, asgF, frz, retF, resOf, endF, outAt, inAt, argCells, backIO, entry, argEnv, f3, x1, x2, x2', safeF, ca.1, ca.2, cb.1, cb.2, y1, y2]
        · simp [exs, ex1, ev, evs, evr, evo, fin, truthR, R.bind, R.thenX, R.opt, X.seq, hold, look, lookAll, Cell.d?, cmpF, eqF_int, boolR, truthF, bltF, binF, asgF, frz, retF, resOf, endF, outAt, inAt, argCells, backIO, entry, argEnv, f3, x1, x2, x2', safeF, ca.1, ca.2, cb.1, cb.2, y1]
    · by_cases y1 : a < m
      · by_cases y2 : m - a < m - b
        · simp [exs, ex1, ev, evs, evr, evo, fin, truthR, R.bind, R.thenX, R.opt, X.seq, hold, look, lookAll, Cell.d?, cmpF, eqF_int, boolR, truthF, bltF, binF, asgF, frz, retF, resOf, endF, outAt, inAt, argCells, backIO, entry, argEnv, f3, x1, safeF, ca.1, ca.2, cb.1, cb.2, y1, y2]
        · simp [exs, ex1, ev, evs, evr, evo, fin, truthR, R.bind, R.thenX, R.opt, X.seq, hold, look, lookAll, Cell.d?, cmpF, eqF_int, boolR, truthF, bltF, binF, asgF, frz, retF, resOf, endF, outAt, inAt, argCells, backIO, entry, argEnv, f3, x1, safeF, ca.1, ca.2, cb.1, cb.2, y1, y2]
      · simp [exs, ex1, ev, evs, evr, evo, fin, truthR, R.bind, R.thenX, R.opt, X.seq, hold, look, lookAll, Cell.d?, cmpF, eqF_int, boolR, truthF, bltF, binF, asgF, frz, retF, resOf, endF, outAt, inAt, argCells, backIO, entry, argEnv, f3, x1, safeF, ca.1, ca.2, cb.1, cb.2, y1]
  · have hs : safeF m (a, b) = false := by
      rw [Bool.eq_false_iff]
      intro z
      apply c
      simp [safeF] at z
      simp [numF]
      omega
    have hf : ∃ x r, [a, b].filter (fun x => !numF (.int x) 0 m) = x :: r := by
      by_cases ca : numF (.int a) 0 m = true
      · have cb : numF (.int b) 0 m = false := by
          cases e : numF (.int b) 0 m with
          | false => rfl
          | true => exact absurd ⟨ca, e⟩ c
        exact ⟨b, [], by simp [ca, cb]⟩
      · have ca : numF (.int a) 0 m = false := by simpa using ca
        exact ⟨a, _, by simp [ca]; rfl⟩
    obtain ⟨x, r, hf⟩ := hf
    rw [hf] at k1
    have a2 : ev (Gm T wf sub (n + 2)) true (.comp E3_1 (.name 4) .seq [(.var 1)] (some E3_0) [4]) [Vi m, Vd (.tuple [.int a, .int b]), none, none, none] = .ok (.val (.bool true)) [Vi m, Vd (.tuple [.int a, .int b]), none, none, none] := by
      rw [hh, k1]
      rfl
    rw [hs]
    exact ends_ret (ite_yes (evOr i1 (evOr i2 a2)) (exs_ret (retV evCst))) rfl
/-! ### loads -/
theorem loads8 : run T wf sub (n + 3) 4 [.val (.int 8)] = .ok (.lst ((loadsF 8).map eP2)) none := by kernel_rfl
theorem loads2 : run T wf sub (n + 3) 4 [.val (.int 2)] = .ok (.lst ((loadsF 2).map eP2)) none := by kernel_rfl
theorem loads3 : run T wf sub (n + 3) 4 [.val (.int 3)] = .ok (.lst ((loadsF 3).map eP2)) none := by kernel_rfl
theorem loads4 : run T wf sub (n + 3) 4 [.val (.int 4)] = .ok (.lst ((loadsF 4).map eP2)) none := by kernel_rfl
theorem lloads2 : run T wf sub (n + 1) 21 [.val (.int 2)] = .ok (.lst ((loadsF 2).map eP2)) none := by kernel_rfl
theorem lloads3 : run T wf sub (n + 1) 21 [.val (.int 3)] = .ok (.lst ((loadsF 3).map eP2)) none := by kernel_rfl
theorem lloads4 : run T wf sub (n + 1) 21 [.val (.int 4)] = .ok (.lst ((loadsF 4).map eP2)) none := by kernel_rfl
theorem loads_ok {s : Nat} (h : s < 3) : run T wf sub (n + 3) 4 [.val (.int ((s + 2 : Nat) : Int))] = .ok (.lst ((loadsF (s + 2)).map eP2)) none := by
  match s, h with
  | 0, _ => exact loads2
  | 1, _ => exact loads3
  | 2, _ => exact loads4
theorem lloads_ok {s : Nat} (h : s < 3) : run T wf sub (n + 1) 21 [.val (.int ((s + 2 : Nat) : Int))] = .ok (.lst ((loadsF (s + 2)).map eP2)) none := by
  match s, h with
  | 0, _ => exact lloads2
  | 1, _ => exact lloads3
  | 2, _ => exact lloads4
/-! ### a stand, a move -/
theorem stand_ok {m : Int} {st : Sd} (h1 : 1 ≤ m) (h8 : m ≤ 8) (h : okS m st = true) : run T wf sub (n + 4) 5 [.val (.int m), .val (eS st)] = .ok (.val (eS st)) none := by
  obtain ⟨a, b, c⟩ := st
  unfold okS at h
  rw [Bool.and_eq_true] at h
  obtain ⟨hs, hc⟩ := h
  have k0 := chk1 (n := n + 1) (.int m)
  rw [if_pos (num_18 h1 h8)] at k0
  have k3 := safe_ok (n := n) (m := m) (a := a) (b := b) h1 h8
  rw [show safeF m (a, b) = true from hs] at k3
  rw [run_eq rfl rfl]
  show endF f5 (exs (Gm T wf sub (n + 3)) c5 [Vi m, Vd (.tuple [.int a, .int b, .int c])]) = _
  rw [c5]
  refine ends_nx (s1 := [Vi m, Vd (.tuple [.int a, .int b, .int c])]) (expr_nx (evCall (ds := []) (evr1 (evV rfl) rfl (evr1 evCst rfl (evr1 evCst rfl evr0))) rfl k0)) ?_
  have i1 : ev (Gm T wf sub (n + 3)) true (.notE (.isi (.var 1) [.tuple])) [Vi m, Vd (.tuple [.int a, .int b, .int c])] = .ok (.val (.bool false)) [Vi m, Vd (.tuple [.int a, .int b, .int c])] := by simp [exs, ex1, ev, evs, evr, evo, fin, truthR, R.bind, R.thenX, R.opt, X.seq, hold, look, lookAll, Cell.d?, cmpF, eqF_int, boolR, truthF, bltF, binF, asgF, frz, retF, resOf, endF, outAt, inAt, argCells, backIO, entry, argEnv, isTy]
  have i2 : ev (Gm T wf sub (n + 3)) true (.cmp .ne (.blt .len [(.var 1)]) (.cst (.int 3))) [Vi m, Vd (.tuple [.int a, .int b, .int c])] = .ok (.val (.bool false)) [Vi m, Vd (.tuple [.int a, .int b, .int c])] := by simp [exs, ex1, ev, evs, evr, evo, fin, truthR, R.bind, R.thenX, R.opt, X.seq, hold, look, lookAll, Cell.d?, cmpF, eqF_int, boolR, truthF, bltF, binF, asgF, frz, retF, resOf, endF, outAt, inAt, argCells, backIO, entry, argEnv]
  have i3 : ev (Gm T wf sub (n + 3)) true (.cmp .notin (.idx (.var 1) (.cst (.int 2))) (.tup [(.cst (.int 0)), (.cst (.int 1))])) [Vi m, Vd (.tuple [.int a, .int b, .int c])] = .ok (.val (.bool false)) [Vi m, Vd (.tuple [.int a, .int b, .int c])] := by
    have e : cmpF .notin (.int c) (.tuple [.int 0, .int 1]) = some false := by
      have hc : c = 0 ∨ c = 1 := by simpa using hc
      rcases hc with rfl | rfl <;> rfl
    exact evCmp (evIdx (evV rfl) rfl evCst rfl rfl rfl) (evTup2 evCst evCst) e
  have i4 : ev (Gm T wf sub (n + 3)) true (.notE (.call 3 [(.var 0), (.slc (.var 1) none (some (.cst (.int 2))))] [])) [Vi m, Vd (.tuple [.int a, .int b, .int c])] = .ok (.val (.bool false)) [Vi m, Vd (.tuple [.int a, .int b, .int c])] :=
    evNotT (evCallT (ds := []) (evr1 (evV rfl) rfl (evr1 (evSlc2 (evV rfl) rfl evCst rfl rfl) rfl evr0)) rfl k3)
  refine ends_nx (s1 := [Vi m, Vd (.tuple [.int a, .int b, .int c])]) (ite_no (evOr i1 (evOr i2 (evOr i3 i4)))) ?_
  exact ends_ret (retV (evV rfl)) rfl
end
end K66

set_option linter.all false
set_option maxRecDepth 100000
set_option maxHeartbeats 400000
namespace K66
open PySem MP
def oS : Option Sd → D
  | some t => eS t
  | none => .none
theorem evTup3 {Γ : Cfg} {s s1 s2 s3 : MP.Env} {a b c : MP.E} {x y z : D} (h1 : ev Γ false a s = .ok (.val x) s1) (h2 : ev Γ false b s1 = .ok (.val y) s2) (h3 : ev Γ false c s2 = .ok (.val z) s3) : ev Γ false (.tup [a, b, c]) s = .ok (.val (.tuple [x, y, z])) s3 := by
  rw [ev, fin_false]
  simp only [evs, h1, h2, h3, R.bind, frz]
theorem notin_P (x : Ld) (l : List Ld) : cmpF .notin (eP2 x) (.list (l.map eP2)) = some (!decide (x ∈ l)) := by
  show (inF (eP2 x) (.list (l.map eP2))).map (!·) = _
  rw [inF_P]
  rfl
theorem notin_S (x : Sd) (l : List Sd) : cmpF .notin (eS x) (.list (l.map eS)) = some (!decide (x ∈ l)) := by
  show (inF (eS x) (.list (l.map eS))).map (!·) = _
  rw [inF_S]
  rfl
section
variable {n : Nat} {Γ : Cfg} {s : MP.Env} {st : Sd} {l : Ld} {m1 m2 m3 m4 : Mode}
theorem idxS0 : idxF (eS st) (.int 0) = some (.int st.1) := rfl
theorem idxS1 : idxF (eS st) (.int 1) = some (.int st.2.1) := rfl
theorem idxS2 : idxF (eS st) (.int 2) = some (.int st.2.2) := rfl
theorem idxP0 : idxF (eP2 l) (.int 0) = some (.int l.1) := rfl
theorem idxP1 : idxF (eP2 l) (.int 1) = some (.int l.2) := rfl
theorem sign_ok (h : s[1]? = some (some (m1, .val (eS st)))) : ev Γ false (.ife (.cmp .eq (.idx (.var 1) (.cst (.int 2))) (.cst (.int 0))) (.neg (.cst (.int 1))) (.cst (.int 1))) s = .ok (.val (.int (sgn st))) s := by
  have e : ∀ t, ev Γ t (.cmp .eq (.idx (.var 1) (.cst (.int 2))) (.cst (.int 0))) s = .ok (.val (.bool (decide (st.2.2 = 0)))) s := fun t => evCmp (evIdx (evV h) rfl evCst rfl rfl idxS2) evCst (eqF_int _ _)
  unfold sgn
  by_cases c : st.2.2 = 0
  · rw [if_pos c]
    have e1 := e true
    rw [decide_eq_true c] at e1
    exact ifeT e1 (by simp [exs, ex1, ev, evs, evr, evo, fin, truthR, R.bind, R.thenX, R.opt, X.seq, hold, look, lookAll, Cell.d?, cmpF, eqF_int, boolR, truthF, bltF, binF, asgF, frz, retF, resOf, endF, outAt, inAt, argCells, backIO, entry, argEnv])
  · rw [if_neg c]
    have e1 := e true
    rw [decide_eq_false c] at e1
    exact ifeF e1 evCst
theorem mul_sg (b : Int) : binF .mul (.int (sgn st)) (.int b) = some (.val (.int (sgn st * b))) := by
  refine binMul ?_
  unfold sgn mulOk
  split <;> simp
theorem goE_ok (h1 : s[1]? = some (some (m1, .val (eS st)))) (h2 : s[2]? = some (some (m2, .val (eP2 l)))) (h3 : s[3]? = some (some (m3, .val (.int (sgn st))))) : ev Γ false (.tup [(.bin .add (.idx (.var 1) (.cst (.int 0))) (.bin .mul (.var 3) (.idx (.var 2) (.cst (.int 0))))), (.bin .add (.idx (.var 1) (.cst (.int 1))) (.bin .mul (.var 3) (.idx (.var 2) (.cst (.int 1)))))]) s = .ok (.val (eP2 (goF st l))) s :=
  evTup2 (evB (evIdx (evV h1) rfl evCst rfl rfl idxS0) (evB (evV h3) (evIdx (evV h2) rfl evCst rfl rfl idxP0) (mul_sg _)) rfl) (evB (evIdx (evV h1) rfl evCst rfl rfl idxS1) (evB (evV h3) (evIdx (evV h2) rfl evCst rfl rfl idxP1) (mul_sg _)) rfl)
theorem retE_ok (h1 : s[1]? = some (some (m1, .val (eS st)))) (h4 : s[4]? = some (some (m4, .val (eP2 l)))) : ev Γ false (.tup [(.idx (.var 4) (.cst (.int 0))), (.idx (.var 4) (.cst (.int 1))), (.bin .sub (.cst (.int 1)) (.idx (.var 1) (.cst (.int 2))))]) s = .ok (.val (eS (l.1, l.2, 1 - st.2.2))) s :=
  evTup3 (evIdx (evV h4) rfl evCst rfl rfl idxP0) (evIdx (evV h4) rfl evCst rfl rfl idxP1) (evB evCst (evIdx (evV h1) rfl evCst rfl rfl idxS2) rfl)
/-! ### the program's -/
theorem moved_ok {m : Int} (h1 : 1 ≤ m) (h8 : m ≤ 8) (hs : okS m st = true) : run T wf sub (n + 5) 6 [.val (.int m), .val (eS st), .val (eP2 l)] = if l ∈ loadsF 8 then (match thereF m st l with
    | some t => .ok (.val (eS t)) none
    | none => .ex 2 .none none) else .ex 2 .none none := by
  have k5 := stand_ok (n := n) h1 h8 hs
  have k4 := loads8 (n := n + 1)
  have k3 := safe_ok (n := n + 1) (m := m) (a := (goF st l).1) (b := (goF st l).2) h1 h8
  rw [run_eq rfl rfl]
  show endF f6 (exs (Gm T wf sub (n + 4)) c6 [Vi m, Vd (eS st), Vd (eP2 l), none, none]) = _
  rw [c6]
  refine ends_nx (s1 := [Vi m, Vd (eS st), Vd (eP2 l), none, none]) (expr_nx (evCall (v := .val (eS st)) (ds := []) (evr1 (evV rfl) rfl (evr1 (evV rfl) rfl evr0)) rfl k5)) ?_
  have e1 : ∀ t, ev (Gm T wf sub (n + 4)) t (.cmp .notin (.var 2) (.call 4 [(.cst (.int 8))] [])) [Vi m, Vd (eS st), Vd (eP2 l), none, none] = .ok (.val (.bool (!decide (l ∈ loadsF 8)))) [Vi m, Vd (eS st), Vd (eP2 l), none, none] := fun t =>
    evCmpR (evV rfl) rfl (evCall (v := .lst ((loadsF 8).map eP2)) (ds := []) (evr1 evCst rfl evr0) rfl k4) rfl rfl (notin_P l _)
  by_cases hl : l ∈ loadsF 8
  · rw [if_pos hl]
    have e1 := e1 true
    rw [decide_eq_true hl] at e1
    refine ends_nx (s1 := [Vi m, Vd (eS st), Vd (eP2 l), none, none]) (ite_no e1) ?_
    refine ends_nx (s1 := [Vi m, Vd (eS st), Vd (eP2 l), Vi (sgn st), none]) (asg_val (sign_ok rfl) rfl .no) ?_
    refine ends_nx (s1 := [Vi m, Vd (eS st), Vd (eP2 l), Vi (sgn st), Vd (eP2 (goF st l))]) (asg_val (goE_ok rfl rfl rfl) rfl .no) ?_
    have e3 : ev (Gm T wf sub (n + 4)) true (.call 3 [(.var 0), (.var 4)] []) [Vi m, Vd (eS st), Vd (eP2 l), Vi (sgn st), Vd (eP2 (goF st l))] = .ok (.val (.bool (safeF m (goF st l)))) [Vi m, Vd (eS st), Vd (eP2 l), Vi (sgn st), Vd (eP2 (goF st l))] := evCallT (ds := []) (evr1 (evV rfl) rfl (evr1 (evV rfl) rfl evr0)) rfl k3
    unfold thereF
    cases c : safeF m (goF st l) with
    | true =>
      rw [c] at e3
      rw [if_pos rfl]
      refine ends_nx (s1 := [Vi m, Vd (eS st), Vd (eP2 l), Vi (sgn st), Vd (eP2 (goF st l))]) (ite_no (evNotT e3)) ?_
      exact ends_ret (retV (retE_ok rfl rfl)) rfl
    | false =>
      rw [c] at e3
      rw [if_neg Bool.false_ne_true]
      exact ends_ex (s1 := [Vi m, Vd (eS st), Vd (eP2 l), Vi (sgn st), Vd (eP2 (goF st l))]) (x := 2) (p := .none) (ite_yes (evNotF e3) (by simp [exs, ex1, ev, evs, evr, evo, fin, truthR, R.bind, R.thenX, R.opt, X.seq, hold, look, lookAll, Cell.d?, cmpF, eqF_int, boolR, truthF, bltF, binF, asgF, frz, retF, resOf, endF, outAt, inAt, argCells, backIO, entry, argEnv])) rfl
  · rw [if_neg hl]
    have e1 := e1 true
    rw [decide_eq_false hl] at e1
    exact ends_ex (s1 := [Vi m, Vd (eS st), Vd (eP2 l), none, none]) (x := 2) (p := .none) (ite_yes e1 (by simp [exs, ex1, ev, evs, evr, evo, fin, truthR, R.bind, R.thenX, R.opt, X.seq, hold, look, lookAll, Cell.d?, cmpF, eqF_int, boolR, truthF, bltF, binF, asgF, frz, retF, resOf, endF, outAt, inAt, argCells, backIO, entry, argEnv])) rfl
theorem there_run {m : Int} (h1 : 1 ≤ m) (h8 : m ≤ 8) (hs : okS m st = true) (hl : l ∈ loadsF 8) : run T wf sub (n + 6) 10 [.val (.int m), .val (eS st), .val (eP2 l)] = .ok (.val (oS (thereF m st l))) none := by
  have k6 := moved_ok (n := n) (l := l) h1 h8 hs
  rw [if_pos hl] at k6
  rw [run_eq rfl rfl]
  show endF f10 (exs (Gm T wf sub (n + 5)) c10 [Vi m, Vd (eS st), Vd (eP2 l)]) = _
  rw [c10, q10_0]
  cases c : thereF m st l with
  | some t =>
    rw [c] at k6
    have e : ev (Gm T wf sub (n + 5)) false (.call 6 [(.var 0), (.var 1), (.var 2)] []) [Vi m, Vd (eS st), Vd (eP2 l)] = .ok (.val (eS t)) [Vi m, Vd (eS st), Vd (eP2 l)] := evCall (v := .val (eS t)) (ds := []) (evr1 (evV rfl) rfl (evr1 (evV rfl) rfl (evr1 (evV rfl) rfl evr0))) rfl k6
    refine ends_ret (v := .val (eS t)) (s1 := [Vi m, Vd (eS st), Vd (eP2 l)]) ?_ rfl
    rw [ex1, exs_ret (retV e)]
  | none =>
    rw [c] at k6
    have e : ev (Gm T wf sub (n + 5)) false (.call 6 [(.var 0), (.var 1), (.var 2)] []) [Vi m, Vd (eS st), Vd (eP2 l)] = .ex 2 .none [Vi m, Vd (eS st), Vd (eP2 l)] := evCallX (ds := []) (evr1 (evV rfl) rfl (evr1 (evV rfl) rfl (evr1 (evV rfl) rfl evr0))) rfl k6
    refine ends_ret (v := .val .none) (s1 := [Vi m, Vd (eS st), Vd (eP2 l)]) ?_ rfl
    rw [ex1]
    simp only [exs, retX e, X.seq]
    rfl
/-! ### the law's -/
theorem lsafe_ok {m a b : Int} : run T wf sub (n + 1) 20 [.val (.int m), .val (.tuple [.int a, .int b])] = .ok (.val (.bool (safeF m (a, b)))) none := by
  rw [run_eq rfl rfl]
  show endF f20 (exs (Gm T wf sub n) c20 [Vi m, Vd (.tuple [.int a, .int b]), none, none]) = _
  rw [c20]
  refine ends_nx (s1 := [Vi m, Vd (.tuple [.int a, .int b]), Vi a, Vi b]) (asgT2 (evV rfl) rfl) ?_
  rw [q20_1, q20_2]
  by_cases a0 : 0 ≤ a
  · by_cases a1 : a ≤ m
    · by_cases b0 : 0 ≤ b
      · by_cases b1 : b ≤ m
        · by_cases x1 : 0 < a
          · by_cases x2 : a < b
            · simp [exs, ex1, ev, evs, evr, evo, fin, truthR, R.bind, R.thenX, R.opt, X.seq, hold, look, lookAll, Cell.d?, cmpF, eqF_int, boolR, truthF, bltF, binF, asgF, frz, retF, resOf, endF, outAt, inAt, argCells, backIO, entry, argEnv, f20, a0, a1, b0, b1, x1, x2, safeF]
            · have x2' : b ≤ a := by omega
              by_cases y1 : a < m
              · by_cases y2 : m - a < m - b
                · simp [exs, ex1, ev, evs, evr, evo, fin, truthR, R.bind, R.thenX, R.opt, X.seq, hold, look, lookAll, Cell.d?, cmpF, eqF_int, boolR, truthF, bltF, binF, asgF, frz, retF, resOf, endF, outAt, inAt, argCells, backIO, entry, argEnv, f20, a0, a1, b0, b1, x1, x2, x2', y1, y2, safeF]
                · simp [exs, ex1, ev, evs, evr, evo, fin, truthR, R.bind, R.thenX, R.opt, X.seq, hold, look, lookAll, Cell.d?, cmpF, eqF_int, boolR, truthF, bltF, binF, asgF, frz, retF, resOf, endF, outAt, inAt, argCells, backIO, entry, argEnv, f20, a0, a1, b0, b1, x1, x2, x2', y1, y2, safeF]
              · simp [exs, ex1, ev, evs, evr, evo, fin, truthR, R.bind, R.thenX, R.opt, X.seq, hold, look, lookAll, Cell.d?, cmpF, eqF_int, boolR, truthF, bltF, binF, asgF, frz, retF, resOf, endF, outAt, inAt, argCells, backIO, entry, argEnv, f20, a0, a1, b0, b1, x1, x2, x2', y1, safeF]
          · by_cases y1 : a < m
            · by_cases y2 : m - a < m - b
              · simp [exs, ex1, ev, evs, evr, evo, fin, truthR, R.bind, R.thenX, R.opt, X.seq, hold, look, lookAll, Cell.d?, cmpF, eqF_int, boolR, truthF, bltF, binF, asgF, frz, retF, resOf, endF, outAt, inAt, argCells, backIO, entry, argEnv, f20, a0, a1, b0, b1, x1, y1, y2, safeF]
              · simp [exs, ex1, ev, evs, evr, evo, fin, truthR, R.bind, R.thenX, R.opt, X.seq, hold, look, lookAll, Cell.d?, cmpF, eqF_int, boolR, truthF, bltF, binF, asgF, frz, retF, resOf, endF, outAt, inAt, argCells, backIO, entry, argEnv, f20, a0, a1, b0, b1, x1, y1, y2, safeF]
            · simp [exs, ex1, ev, evs, evr, evo, fin, truthR, R.bind, R.thenX, R.opt, X.seq, hold, look, lookAll, Cell.d?, cmpF, eqF_int, boolR, truthF, bltF, binF, asgF, frz, retF, resOf, endF, outAt, inAt, argCells, backIO, entry, argEnv, f20, a0, a1, b0, b1, x1, y1, safeF]
        · simp [exs, ex1, ev, evs, evr, evo, fin, truthR, R.bind, R.thenX, R.opt, X.seq, hold, look, lookAll, Cell.d?, cmpF, eqF_int, boolR, truthF, bltF, binF, asgF, frz, retF, resOf, endF, outAt, inAt, argCells, backIO, entry, argEnv, f20, a0, a1, b0, b1, safeF]
      · simp [exs, ex1, ev, evs, evr, evo, fin, truthR, R.bind, R.thenX, R.opt, X.seq, hold, look, lookAll, Cell.d?, cmpF, eqF_int, boolR, truthF, bltF, binF, asgF, frz, retF, resOf, endF, outAt, inAt, argCells, backIO, entry, argEnv, f20, a0, a1, b0, safeF]
    · simp [exs, ex1, ev, evs, evr, evo, fin, truthR, R.bind, R.thenX, R.opt, X.seq, hold, look, lookAll, Cell.d?, cmpF, eqF_int, boolR, truthF, bltF, binF, asgF, frz, retF, resOf, endF, outAt, inAt, argCells, backIO, entry, argEnv, f20, a0, a1, safeF]
  · simp [exs, ex1, ev, evs, evr, evo, fin, truthR, R.bind, R.thenX, R.opt, X.seq, hold, look, lookAll, Cell.d?, cmpF, eqF_int, boolR, truthF, bltF, binF, asgF, frz, retF, resOf, endF, outAt, inAt, argCells, backIO, entry, argEnv, f20, a0, safeF]
theorem lthere_ok {m : Int} : run T wf sub (n + 2) 22 [.val (.int m), .val (eS st), .val (eP2 l)] = .ok (.val (oS (thereF m st l))) none := by
  have k3 := lsafe_ok (n := n) (m := m) (a := (goF st l).1) (b := (goF st l).2)
  rw [run_eq rfl rfl]
  show endF f22 (exs (Gm T wf sub (n + 1)) c22 [Vi m, Vd (eS st), Vd (eP2 l), none, none]) = _
  rw [c22]
  refine ends_nx (s1 := [Vi m, Vd (eS st), Vd (eP2 l), Vi (sgn st), none]) (asg_val (sign_ok rfl) rfl .no) ?_
  refine ends_nx (s1 := [Vi m, Vd (eS st), Vd (eP2 l), Vi (sgn st), Vd (eP2 (goF st l))]) (asg_val (goE_ok rfl rfl rfl) rfl .no) ?_
  have e3 : ev (Gm T wf sub (n + 1)) true (.call 20 [(.var 0), (.var 4)] []) [Vi m, Vd (eS st), Vd (eP2 l), Vi (sgn st), Vd (eP2 (goF st l))] = .ok (.val (.bool (safeF m (goF st l)))) [Vi m, Vd (eS st), Vd (eP2 l), Vi (sgn st), Vd (eP2 (goF st l))] := evCallT (ds := []) (evr1 (evV rfl) rfl (evr1 (evV rfl) rfl evr0)) rfl k3
  unfold thereF
  cases c : safeF m (goF st l) with
  | true =>
    rw [c] at e3
    rw [if_pos rfl]
    exact ends_ret (retV (ifeT e3 (retE_ok rfl rfl))) rfl
  | false =>
    rw [c] at e3
    rw [if_neg Bool.false_ne_true]
    exact ends_ret (retV (ifeF e3 evCst)) rfl
/-! ### next_stands -/
theorem isNone_oS (o : Option Sd) : isNone (oS o) = o.isNone := by cases o <;> rfl
theorem oS_filter : ∀ (os : List (Option Sd)), (os.filter fun o => o.isSome).map oS = (os.filterMap id).map eS
  | [] => rfl
  | none :: os => by
    rw [List.filter_cons, if_neg (by simp), List.filterMap_cons]
    exact oS_filter os
  | some t :: os => by
    rw [List.filter_cons, if_pos (show (some t).isSome = true from rfl), List.filterMap_cons, List.map_cons, oS_filter os]
    rfl
theorem loads_len {s : Nat} (h : s < 3) : (loadsF (s + 2)).length ≤ big := Nat.le_trans (fact_loads s h) (by decide)
theorem next_ok {m : Int} {s : Nat} (h1 : 1 ≤ m) (h8 : m ≤ 8) (hs3 : s < 3) (hs : okS m st = true) : run T wf sub (n + 7) 7 [.val (.int m), .val (.int ((s + 2 : Nat) : Int)), .val (eS st)] = .ok (.lst ((nextF m (s + 2) st).map eS)) none := by
  have k2 := trip_ok (n := n + 3) (m := m) (s := ((s + 2 : Nat) : Int)) h1 h8 (by omega) (by omega)
  have k5 := stand_ok (n := n + 2) h1 h8 hs
  have k4 := loads_ok (n := n + 3) hs3
  rw [run_eq rfl rfl]
  show endF f7 (exs (Gm T wf sub (n + 6)) c7 [Vi m, Vi ((s + 2 : Nat) : Int), Vd (eS st), none, none, none]) = _
  rw [c7]
  refine ends_nx (s1 := [Vi m, Vi ((s + 2 : Nat) : Int), Vd (eS st), none, none, none]) (expr_nx (evCall (v := .val (.tuple [.int m, .int ((s + 2 : Nat) : Int)])) (ds := []) (evr1 (evV rfl) rfl (evr1 (evV rfl) rfl evr0)) rfl k2)) ?_
  refine ends_nx (s1 := [Vi m, Vi ((s + 2 : Nat) : Int), Vd (eS st), none, none, none]) (expr_nx (evCall (v := .val (eS st)) (ds := []) (evr1 (evV rfl) rfl (evr1 (evV rfl) rfl evr0)) rfl k5)) ?_
  refine ends_nx (s1 := [Vi m, Vi ((s + 2 : Nat) : Int), Vd (eS st), Od (((loadsF (s + 2)).map (thereF m st)).map oS), none, none]) ?_ ?_
  · rw [List.map_map]
    refine asg_tmp (compM (rs := [.val (.list ((loadsF (s + 2)).map eP2))]) (ds := [.list ((loadsF (s + 2)).map eP2)]) (s1 := [Vi m, Vi ((s + 2 : Nat) : Int), Vd (eS st), none, none, none]) (s2 := [Vi m, Vi ((s + 2 : Nat) : Int), Vd (eS st), none, none, none]) (o := none) eP2 (fun x => oS (thereF m st x)) (loadsF (s + 2)) (evr1 (evCall (v := .lst ((loadsF (s + 2)).map eP2)) (ds := []) (evr1 (evV rfl) rfl evr0) rfl k4) rfl evr0) rfl rfl rfl rfl .no (loads_len hs3) (fun x hx => ?_)) rfl .no
    exact evCall (v := .val (oS (thereF m st x))) (ds := []) (evr1 (evV rfl) rfl (evr1 (evV rfl) rfl (evr1 (evV rfl) rfl evr0))) rfl (there_run (n := n) h1 h8 hs (fact_sub s hs3 x hx))
  have k : ev (Gm T wf sub (n + 6)) false (.comp E7_2 (.name 5) .seq [(.var 3)] (some E7_1) [5]) [Vi m, Vi ((s + 2 : Nat) : Int), Vd (eS st), Od (((loadsF (s + 2)).map (thereF m st)).map oS), none, none] = .ok (.tmp (.lst ((nextF m (s + 2) st).map eS))) [Vi m, Vi ((s + 2 : Nat) : Int), Vd (eS st), Vd (.list (((loadsF (s + 2)).map (thereF m st)).map oS)), none, none] := by
    have h := compF (Γ := Gm T wf sub (n + 6)) (elt := E7_2) (c := E7_1) (k := .seq) (i := 5) (src := [(.var 3)]) (rs := [.bor 3]) (ds := [.list (((loadsF (s + 2)).map (thereF m st)).map oS)]) (s := [Vi m, Vi ((s + 2 : Nat) : Int), Vd (eS st), Od (((loadsF (s + 2)).map (thereF m st)).map oS), none, none]) (s2 := [Vi m, Vi ((s + 2 : Nat) : Int), Vd (eS st), Vd (.list (((loadsF (s + 2)).map (thereF m st)).map oS)), none, none]) (o := none) oS (fun o => o.isSome) oS ((loadsF (s + 2)).map (thereF m st)) (evr1 (evBor rfl) rfl evr0) rfl rfl rfl rfl .no (by rw [List.length_map]; exact loads_len hs3) (fun x hx => evIsN' (evV rfl) rfl (by
      show (!isNone (oS x)) = x.isSome
      rw [isNone_oS]
      cases x <;> rfl)) (fun x hx h => evV rfl)
    rw [oS_filter, List.filterMap_map] at h
    exact h
  exact ends_ret (retT k) rfl
end
end K66

set_option linter.all false
set_option maxRecDepth 100000
set_option maxHeartbeats 400000
namespace K66
open PySem MP
abbrev Dw (w : Wy) : Option (Mode × Cell) := some (.fr, .dic (eW w))
theorem lkS_app {w v : Wy} {k : Sd} {p : List Ld} (h : lkS w k = some p) : lkS (w ++ v) k = some p := by
  unfold lkS at h ⊢
  rw [List.find?_append]
  cases e : w.find? fun p => decide (p.1 = k) with
  | none => rw [e] at h; cases h
  | some x => rw [e] at h; exact h
theorem lkS_new {w : Wy} {k : Sd} {p : List Ld} (h : lkS w k = none) : lkS (w ++ [(k, p)]) k = some p := by
  unfold lkS at h ⊢
  rw [Option.map_eq_none_iff] at h
  rw [List.find?_append, h]
  simp
structure Iv (m : Int) (d : Nat) (a : Wy × List Sd) : Prop where
  ne : a.1 ≠ []
  ok : ∀ p ∈ a.1, okS m p.1 = true ∧ p.2.length ≤ d
  q : ∀ x ∈ a.2, (lkS a.1 x).isSome = true
theorem lkS_mem {w : Wy} {k : Sd} {p : List Ld} (h : lkS w k = some p) : (k, p) ∈ w := by
  unfold lkS at h
  rw [Option.map_eq_some_iff] at h
  obtain ⟨x, hx, rfl⟩ := h
  have h1 := List.mem_of_find?_eq_some hx
  have h2 := List.find?_some hx
  have h2 : x.1 = k := by simpa using h2
  rw [← h2]
  exact h1
theorem Iv.got {m : Int} {d : Nat} {a : Wy × List Sd} (I : Iv m d a) {x : Sd} (hx : x ∈ a.2) : ∃ p, lkS a.1 x = some p ∧ okS m x = true ∧ p.length ≤ d := by
  obtain ⟨p, e⟩ := Option.isSome_iff_exists.mp (I.q x hx)
  have := I.ok _ (lkS_mem e)
  exact ⟨p, e, this.1, this.2⟩
theorem Iv.add {m : Int} {d : Nat} {a : Wy × List Sd} (I : Iv m d a) {here : Sd} {hp : List Ld} (h : lkS a.1 here = some hp) (hl : hp.length + 1 ≤ d) (ho : okS m here = true) (l : Ld) : Iv m d (addF m here a l) ∧ lkS (addF m here a l).1 here = some hp ∧ (addF m here a l).1.length ≤ a.1.length + 1 ∧ (addF m here a l).2.length ≤ a.2.length + 1 := by
  unfold addF
  cases e : thereF m here l with
  | none => exact ⟨I, h, by simp, by simp⟩
  | some t =>
    dsimp only
    split
    · rename_i hn
      have hn := Option.isNone_iff_eq_none.mp hn
      refine ⟨⟨by simp, fun p hm => ?_, fun x hx => ?_⟩, lkS_app h, by simp, by simp⟩
      · rcases List.mem_append.mp hm with hm | hm
        · exact I.ok p hm
        · rw [List.mem_singleton.mp hm]
          refine ⟨there_ok ho e, ?_⟩
          rw [h, List.length_append]
          exact hl
      · rcases List.mem_append.mp hx with hx | hx
        · obtain ⟨p, e⟩ := Option.isSome_iff_exists.mp (I.q x hx)
          rw [lkS_app e]
          rfl
        · rw [List.mem_singleton.mp hx, lkS_new hn]
          rfl
    · exact ⟨I, h, by simp, by simp⟩
theorem Iv.fold {m : Int} {d : Nat} {here : Sd} {hp : List Ld} (hl : hp.length + 1 ≤ d) (ho : okS m here = true) : ∀ (ls : List Ld) {a : Wy × List Sd}, Iv m d a → lkS a.1 here = some hp → Iv m d (ls.foldl (addF m here) a) ∧ lkS (ls.foldl (addF m here) a).1 here = some hp ∧ (ls.foldl (addF m here) a).1.length ≤ a.1.length + ls.length ∧ (ls.foldl (addF m here) a).2.length ≤ a.2.length + ls.length
  | [], a, I, h => ⟨I, h, by simp, by simp⟩
  | l :: ls, a, I, h => by
    obtain ⟨I1, h1, g1, g2⟩ := I.add h hl ho l
    obtain ⟨I2, h2, g3, g4⟩ := Iv.fold hl ho ls I1 h1
    refine ⟨I2, h2, ?_, ?_⟩
    · rw [List.foldl_cons, List.length_cons]; omega
    · rw [List.foldl_cons, List.length_cons]; omega
theorem Iv.mono {m : Int} {d e : Nat} {a : Wy × List Sd} (I : Iv m d a) (h : d ≤ e) : Iv m e a := ⟨I.ne, fun p hp => ⟨(I.ok p hp).1, Nat.le_trans (I.ok p hp).2 h⟩, I.q⟩
abbrev e9 (m : Int) (s : Nat) (w : Wy) (q : List Sd) (i : Nat) (o6 o7 o8 : Option (Mode × Cell)) : MP.Env := [Vi m, Vi ((s + 2 : Nat) : Int), Vd (eS (start m)), Dw w, Od (q.map eS), Vi (i : Nat), o6, o7, o8]
abbrev e23 (m : Int) (s : Nat) (w : Wy) (q : List Sd) (i : Nat) (o6 o7 o8 : Option (Mode × Cell)) : MP.Env := [Vi m, Vi ((s + 2 : Nat) : Int), Dw w, Od (q.map eS), o6, o7, o8]
section
variable {n : Nat}
theorem body9 {m : Int} {s i : Nat} {a : Wy × List Sd} {d : Nat} {here : Sd} {hp : List Ld} {l : Ld} {o8 : Option (Mode × Cell)} (h1 : 1 ≤ m) (h8 : m ≤ 8) (hs3 : s < 3) (I : Iv m d a) (h : lkS a.1 here = some hp) (hd : d ≤ 100) (ho : okS m here = true) (hl : l ∈ loadsF (s + 2)) (l1 : a.1.length < big) (l2 : a.2.length < big) (hpd : hp.length ≤ d) (f8 : Fr o8) :
    exs (Gm T wf sub (n + 7)) L9_0 (e9 m s a.1 a.2 i (Vd (eS here)) (Vd (eP2 l)) o8) = .nx (e9 m s (addF m here a l).1 (addF m here a l).2 i (Vd (eS here)) (Vd (eP2 l)) (Vd (oS (thereF m here l)))) := by
  rw [L9_0]
  have k := there_run (n := n + 1) (l := l) h1 h8 ho (fact_sub s hs3 l hl)
  refine ex_nx (s1 := e9 m s a.1 a.2 i (Vd (eS here)) (Vd (eP2 l)) (Vd (oS (thereF m here l)))) (asg_val (s1 := e9 m s a.1 a.2 i (Vd (eS here)) (Vd (eP2 l)) o8) (o := o8) (evCall (v := .val (oS (thereF m here l))) (ds := []) (evr1 (evV rfl) rfl (evr1 (evV rfl) rfl (evr1 (evV rfl) rfl evr0))) rfl k) rfl f8.c) ?_
  unfold addF
  cases e : thereF m here l with
  | none => exact ex_nx (ite_no (evAndF (evIsN' (x := .none) (k := true) (evV rfl) rfl rfl))) rfl
  | some t =>
    have e1 : ev (Gm T wf sub (n + 7)) true (.isN (.var 8) true) (e9 m s a.1 a.2 i (Vd (eS here)) (Vd (eP2 l)) (Vd (eS t))) = .ok (.val (.bool true)) (e9 m s a.1 a.2 i (Vd (eS here)) (Vd (eP2 l)) (Vd (eS t))) := evIsN' (x := eS t) (k := true) (evV rfl) rfl rfl
    have e2 : ev (Gm T wf sub (n + 7)) true (.cmp .notin (.var 8) (.var 3)) (e9 m s a.1 a.2 i (Vd (eS here)) (Vd (eP2 l)) (Vd (eS t))) = .ok (.val (.bool (lkS a.1 t).isNone)) (e9 m s a.1 a.2 i (Vd (eS here)) (Vd (eP2 l)) (Vd (eS t))) := evCmpR (x := eS t) (y := .dict (eW a.1)) (evV rfl) rfl (evVarD rfl) rfl rfl (notin_eW I.ne t)
    dsimp only
    by_cases c : (lkS a.1 t).isNone = true
    · rw [if_pos c]
      rw [c] at e2
      refine ex_nx (s1 := e9 m s (a.1 ++ [(t, (lkS a.1 here).getD [] ++ [l])]) (a.2 ++ [t]) i (Vd (eS here)) (Vd (eP2 l)) (Vd (eS t))) (ite_yes (evAnd e1 e2) ?_) rfl
      have g1 : ev (Gm T wf sub (n + 7)) false (.dget 3 (.var 6)) (e9 m s a.1 a.2 i (Vd (eS here)) (Vd (eP2 l)) (Vd (eS t))) = .ok (.val (.list (hp.map eP2))) (e9 m s a.1 a.2 i (Vd (eS here)) (Vd (eP2 l)) (Vd (eS t))) := evDget (kk := eS here) (kvs0 := eW a.1) (kvs := eW a.1) rfl (evV rfl) rfl rfl (by rw [dGet_eW I.ne, h]; rfl)
      have g2 : ev (Gm T wf sub (n + 7)) false (.list [(.var 7)]) (e9 m s a.1 a.2 i (Vd (eS here)) (Vd (eP2 l)) (Vd (eS t))) = .ok (.tmp (.lst ([l].map eP2))) (e9 m s a.1 a.2 i (Vd (eS here)) (Vd (eP2 l)) (Vd (eS t))) := by
        rw [ev, fin_false]
        have : ev (Gm T wf sub (n + 7)) false (.var 7) (e9 m s a.1 a.2 i (Vd (eS here)) (Vd (eP2 l)) (Vd (eS t))) = .ok (.val (eP2 l)) (e9 m s a.1 a.2 i (Vd (eS here)) (Vd (eP2 l)) (Vd (eS t))) := evV rfl
        simp only [evs, this, R.bind, frz]
        rfl
      have g3 := evBR (r1 := .val (.list (hp.map eP2))) (op := .add) g1 rfl g2 rfl rfl (addM eP2 (by show hp.length + 1 ≤ big; unfold big; omega))
      have hn := Option.isNone_iff_eq_none.mp c
      rw [h]
      refine ex_nx (s1 := e9 m s (a.1 ++ [(t, hp ++ [l])]) a.2 i (Vd (eS here)) (Vd (eP2 l)) (Vd (eS t))) (asgD_nx (i := 3) (kvs0 := eW a.1) (kk := eS t) g3 rfl rfl (evV rfl) rfl rfl (by decide) (dPut_eW I.ne l1 hn)) ?_
      have hm : (a.2 ++ [t]).map eS = a.2.map eS ++ [eS t] := by rw [List.map_append]; rfl
      refine ex_nx (s1 := e9 m s (a.1 ++ [(t, hp ++ [l])]) (a.2 ++ [t]) i (Vd (eS here)) (Vd (eP2 l)) (Vd (eS t))) ?_ rfl
      show _ = X.nx (List.set (e9 m s (a.1 ++ [(t, hp ++ [l])]) a.2 i (Vd (eS here)) (Vd (eP2 l)) (Vd (eS t))) 4 (some (.fr, .lst ((a.2 ++ [t]).map eS))))
      rw [hm]
      exact app_nx (i := 4) (md0 := .fr) (xs0 := a.2.map eS) (d := eS t) rfl (evV rfl) rfl rfl (by decide) (by rw [List.length_map]; exact l2)
    · have c : (lkS a.1 t).isNone = false := Bool.eq_false_iff.mpr c
      rw [c] at e2 ⊢
      rw [if_neg Bool.false_ne_true]
      exact ex_nx (ite_no (evAnd e1 e2)) rfl
theorem round9 {m : Int} {s i : Nat} {a : Wy × List Sd} {d : Nat} {here : Sd} {hp : List Ld} {o7 o8 : Option (Mode × Cell)} (h1 : 1 ≤ m) (h8 : m ≤ 8) (hs3 : s < 3) (I : Iv m d a) (h : lkS a.1 here = some hp) (hd : d < 100) (ho : okS m here = true) (l1 : a.1.length ≤ 1000000) (l2 : a.2.length ≤ 1000000) (hpd : hp.length ≤ d) (f7 : Fr o7) (f8 : Fr o8) :
    ∃ o7' o8', Fr o7' ∧ Fr o8' ∧ ex1 (Gm T wf sub (n + 7)) (.for_ (.name 7) .seq [(.call 4 [(.var 1)] [])] L9_0) (e9 m s a.1 a.2 i (Vd (eS here)) o7 o8) = .nx (e9 m s (rndF m (s + 2) here a).1 (rndF m (s + 2) here a).2 i (Vd (eS here)) o7' o8') := by
  have I1 := I.mono (show d ≤ d + 1 by omega)
  have kl := loads_ok (n := n + 4) hs3
  have hb := fact_loads s hs3
  obtain ⟨s', lp, p7, p8, g7, g8, rfl⟩ := loopX_ex (t := .name 7) (body := fun se => exs (Gm T wf sub (n + 7)) L9_0 se) (items := (loadsF (s + 2)).map eP2) (s := e9 m s a.1 a.2 i (Vd (eS here)) o7 o8) (fun j st => ∃ o7 o8, Fr o7 ∧ Fr o8 ∧ st = e9 m s (((loadsF (s + 2)).take j).foldl (addF m here) a).1 (((loadsF (s + 2)).take j).foldl (addF m here) a).2 i (Vd (eS here)) o7 o8) ⟨o7, o8, f7, f8, rfl⟩ (by
    rintro j hj st ⟨p7, p8, g7, g8, rfl⟩
    have hj' : j < (loadsF (s + 2)).length := by rw [List.length_map] at hj; exact hj
    obtain ⟨J, hh, n1, n2⟩ := Iv.fold (d := d + 1) (by omega) ho ((loadsF (s + 2)).take j) I1 h
    rw [List.length_take] at n1 n2
    refine ⟨g7.free rfl, e9 m s (((loadsF (s + 2)).take j).foldl (addF m here) a).1 (((loadsF (s + 2)).take j).foldl (addF m here) a).2 i (Vd (eS here)) (Vd (eP2 ((loadsF (s + 2))[j]))) p8, by rw [List.getElem_map]; rfl, _, body9 h1 h8 hs3 J hh (by omega) ho (List.getElem_mem hj') (by unfold big; omega) (by unfold big; omega) (by omega) g8, Vd (eP2 ((loadsF (s + 2))[j])), Vd (oS (thereF m here ((loadsF (s + 2))[j]))), .v _, .v _, ?_⟩
    rw [List.take_succ_eq_append_getElem hj', List.foldl_append]
    rfl)
  rw [List.length_map, List.take_length] at lp
  exact ⟨p7, p8, g7, g8, for_nx (evr1 (evCall (v := .lst ((loadsF (s + 2)).map eP2)) (ds := []) (evr1 (evV rfl) rfl evr0) rfl kl) rfl evr0) rfl rfl rfl lp⟩
theorem body23 {m : Int} {s i : Nat} {a : Wy × List Sd} {d : Nat} {here : Sd} {hp : List Ld} {l : Ld} {o8 : Option (Mode × Cell)} (_h : True) (I : Iv m d a) (h : lkS a.1 here = some hp) (hd : d ≤ 100) (ho : okS m here = true) (hl : l ∈ loadsF (s + 2)) (l1 : a.1.length < big) (l2 : a.2.length < big) (hpd : hp.length ≤ d) (f8 : Fr o8) :
    exs (Gm T wf sub (n + 2)) L23_0 (e23 m s a.1 a.2 i (Vd (eS here)) (Vd (eP2 l)) o8) = .nx (e23 m s (addF m here a l).1 (addF m here a l).2 i (Vd (eS here)) (Vd (eP2 l)) (Vd (oS (thereF m here l)))) := by
  rw [L23_0]
  have k := lthere_ok (n := n) (m := m) (st := here) (l := l)
  refine ex_nx (s1 := e23 m s a.1 a.2 i (Vd (eS here)) (Vd (eP2 l)) (Vd (oS (thereF m here l)))) (asg_val (s1 := e23 m s a.1 a.2 i (Vd (eS here)) (Vd (eP2 l)) o8) (o := o8) (evCall (v := .val (oS (thereF m here l))) (ds := []) (evr1 (evV rfl) rfl (evr1 (evV rfl) rfl (evr1 (evV rfl) rfl evr0))) rfl k) rfl f8.c) ?_
  unfold addF
  cases e : thereF m here l with
  | none => exact ex_nx (ite_no (evAndF (evIsN' (x := .none) (k := true) (evV rfl) rfl rfl))) rfl
  | some t =>
    have e1 : ev (Gm T wf sub (n + 2)) true (.isN (.var 6) true) (e23 m s a.1 a.2 i (Vd (eS here)) (Vd (eP2 l)) (Vd (eS t))) = .ok (.val (.bool true)) (e23 m s a.1 a.2 i (Vd (eS here)) (Vd (eP2 l)) (Vd (eS t))) := evIsN' (x := eS t) (k := true) (evV rfl) rfl rfl
    have e2 : ev (Gm T wf sub (n + 2)) true (.cmp .notin (.var 6) (.var 2)) (e23 m s a.1 a.2 i (Vd (eS here)) (Vd (eP2 l)) (Vd (eS t))) = .ok (.val (.bool (lkS a.1 t).isNone)) (e23 m s a.1 a.2 i (Vd (eS here)) (Vd (eP2 l)) (Vd (eS t))) := evCmpR (x := eS t) (y := .dict (eW a.1)) (evV rfl) rfl (evVarD rfl) rfl rfl (notin_eW I.ne t)
    dsimp only
    by_cases c : (lkS a.1 t).isNone = true
    · rw [if_pos c]
      rw [c] at e2
      refine ex_nx (s1 := e23 m s (a.1 ++ [(t, (lkS a.1 here).getD [] ++ [l])]) (a.2 ++ [t]) i (Vd (eS here)) (Vd (eP2 l)) (Vd (eS t))) (ite_yes (evAnd e1 e2) ?_) rfl
      have g1 : ev (Gm T wf sub (n + 2)) false (.dget 2 (.var 4)) (e23 m s a.1 a.2 i (Vd (eS here)) (Vd (eP2 l)) (Vd (eS t))) = .ok (.val (.list (hp.map eP2))) (e23 m s a.1 a.2 i (Vd (eS here)) (Vd (eP2 l)) (Vd (eS t))) := evDget (kk := eS here) (kvs0 := eW a.1) (kvs := eW a.1) rfl (evV rfl) rfl rfl (by rw [dGet_eW I.ne, h]; rfl)
      have g2 : ev (Gm T wf sub (n + 2)) false (.list [(.var 5)]) (e23 m s a.1 a.2 i (Vd (eS here)) (Vd (eP2 l)) (Vd (eS t))) = .ok (.tmp (.lst ([l].map eP2))) (e23 m s a.1 a.2 i (Vd (eS here)) (Vd (eP2 l)) (Vd (eS t))) := by
        rw [ev, fin_false]
        have : ev (Gm T wf sub (n + 2)) false (.var 5) (e23 m s a.1 a.2 i (Vd (eS here)) (Vd (eP2 l)) (Vd (eS t))) = .ok (.val (eP2 l)) (e23 m s a.1 a.2 i (Vd (eS here)) (Vd (eP2 l)) (Vd (eS t))) := evV rfl
        simp only [evs, this, R.bind, frz]
        rfl
      have g3 := evBR (r1 := .val (.list (hp.map eP2))) (op := .add) g1 rfl g2 rfl rfl (addM eP2 (by show hp.length + 1 ≤ big; unfold big; omega))
      have hn := Option.isNone_iff_eq_none.mp c
      rw [h]
      refine ex_nx (s1 := e23 m s (a.1 ++ [(t, hp ++ [l])]) a.2 i (Vd (eS here)) (Vd (eP2 l)) (Vd (eS t))) (asgD_nx (i := 2) (kvs0 := eW a.1) (kk := eS t) g3 rfl rfl (evV rfl) rfl rfl (by decide) (dPut_eW I.ne l1 hn)) ?_
      have hm : (a.2 ++ [t]).map eS = a.2.map eS ++ [eS t] := by rw [List.map_append]; rfl
      refine ex_nx (s1 := e23 m s (a.1 ++ [(t, hp ++ [l])]) (a.2 ++ [t]) i (Vd (eS here)) (Vd (eP2 l)) (Vd (eS t))) ?_ rfl
      show _ = X.nx (List.set (e23 m s (a.1 ++ [(t, hp ++ [l])]) a.2 i (Vd (eS here)) (Vd (eP2 l)) (Vd (eS t))) 3 (some (.fr, .lst ((a.2 ++ [t]).map eS))))
      rw [hm]
      exact app_nx (i := 3) (md0 := .fr) (xs0 := a.2.map eS) (d := eS t) rfl (evV rfl) rfl rfl (by decide) (by rw [List.length_map]; exact l2)
    · have c : (lkS a.1 t).isNone = false := Bool.eq_false_iff.mpr c
      rw [c] at e2 ⊢
      rw [if_neg Bool.false_ne_true]
      exact ex_nx (ite_no (evAnd e1 e2)) rfl
theorem round23 {m : Int} {s i : Nat} {a : Wy × List Sd} {d : Nat} {here : Sd} {hp : List Ld} {o7 o8 : Option (Mode × Cell)} (_h : True) (hs3 : s < 3) (I : Iv m d a) (h : lkS a.1 here = some hp) (hd : d < 100) (ho : okS m here = true) (l1 : a.1.length ≤ 1000000) (l2 : a.2.length ≤ 1000000) (hpd : hp.length ≤ d) (f7 : Fr o7) (f8 : Fr o8) :
    ∃ o7' o8', Fr o7' ∧ Fr o8' ∧ ex1 (Gm T wf sub (n + 2)) (.for_ (.name 5) .seq [(.call 21 [(.var 1)] [])] L23_0) (e23 m s a.1 a.2 i (Vd (eS here)) o7 o8) = .nx (e23 m s (rndF m (s + 2) here a).1 (rndF m (s + 2) here a).2 i (Vd (eS here)) o7' o8') := by
  have I1 := I.mono (show d ≤ d + 1 by omega)
  have kl := lloads_ok (n := n + 1) hs3
  have hb := fact_loads s hs3
  obtain ⟨s', lp, p7, p8, g7, g8, rfl⟩ := loopX_ex (t := .name 5) (body := fun se => exs (Gm T wf sub (n + 2)) L23_0 se) (items := (loadsF (s + 2)).map eP2) (s := e23 m s a.1 a.2 i (Vd (eS here)) o7 o8) (fun j st => ∃ o7 o8, Fr o7 ∧ Fr o8 ∧ st = e23 m s (((loadsF (s + 2)).take j).foldl (addF m here) a).1 (((loadsF (s + 2)).take j).foldl (addF m here) a).2 i (Vd (eS here)) o7 o8) ⟨o7, o8, f7, f8, rfl⟩ (by
    rintro j hj st ⟨p7, p8, g7, g8, rfl⟩
    have hj' : j < (loadsF (s + 2)).length := by rw [List.length_map] at hj; exact hj
    obtain ⟨J, hh, n1, n2⟩ := Iv.fold (d := d + 1) (by omega) ho ((loadsF (s + 2)).take j) I1 h
    rw [List.length_take] at n1 n2
    refine ⟨g7.free rfl, e23 m s (((loadsF (s + 2)).take j).foldl (addF m here) a).1 (((loadsF (s + 2)).take j).foldl (addF m here) a).2 i (Vd (eS here)) (Vd (eP2 ((loadsF (s + 2))[j]))) p8, by rw [List.getElem_map]; rfl, _, body23 True.intro J hh (by omega) ho (List.getElem_mem hj') (by unfold big; omega) (by unfold big; omega) (by omega) g8, Vd (eP2 ((loadsF (s + 2))[j])), Vd (oS (thereF m here ((loadsF (s + 2))[j]))), .v _, .v _, ?_⟩
    rw [List.take_succ_eq_append_getElem hj', List.foldl_append]
    rfl)
  rw [List.length_map, List.take_length] at lp
  exact ⟨p7, p8, g7, g8, for_nx (evr1 (evCall (v := .lst ((loadsF (s + 2)).map eP2)) (ds := []) (evr1 (evV rfl) rfl evr0) rfl kl) rfl evr0) rfl rfl rfl lp⟩
end
end K66

set_option linter.all false
set_option maxRecDepth 100000
set_option maxHeartbeats 400000
namespace K66
open PySem MP
theorem evDicE {Γ : Cfg} {s s1 s2 s3 : MP.Env} {k v : MP.E} {rk rv : Res} {d dk : D} {z : List (Sum Int Str)} (hk : ev Γ false k s = .ok rk s1) (ht : isTmp rk = false) (hv : ev Γ false v s1 = .ok rv s2) (hf : frz s2 rv = some (d, s3)) (hl : look s3 rk = some dk) (hz : keyT dk = some z) : ev Γ false (.dicE k v) s = .ok (.tmp (.dic [(dk, d)])) s3 := by
  rw [ev, fin_false, hk]
  simp only [R.bind, ht, Bool.false_eq_true, if_false, hv, hf, hl, Option.bind_some, hz, Option.map_some, R.opt]
theorem okS_bnd {m : Int} {x : Sd} (h8 : m ≤ 8) (h : okS m x = true) : Bnd x := by
  unfold okS safeF at h
  simp at h
  unfold Bnd
  omega
theorem ok_start {m : Int} (h1 : 1 ≤ m) : okS m (start m) = true := by
  unfold okS safeF MP.start
  simp
  omega
theorem iv_init {m : Int} (h1 : 1 ≤ m) (d : Nat) : Iv m d (init m) := by
  refine ⟨by simp [init], fun p hp => ?_, fun x hx => ?_⟩
  · have : p = (start m, []) := by simpa [init] using hp
    rw [this]
    exact ⟨ok_start h1, Nat.zero_le _⟩
  · have : x = start m := by simpa [init] using hx
    rw [this]
    simp [init, lkS]
theorem Iv.rnd {m : Int} {d s : Nat} {a : Wy × List Sd} (hs3 : s < 3) (I : Iv m d a) {here : Sd} {hp : List Ld} (h : lkS a.1 here = some hp) (ho : okS m here = true) (hl : hp.length ≤ d) : Iv m (d + 1) (rndF m (s + 2) here a) ∧ (rndF m (s + 2) here a).1.length ≤ a.1.length + 50 ∧ (rndF m (s + 2) here a).2.length ≤ a.2.length + 50 := by
  have hb := fact_loads s hs3
  obtain ⟨J, _, n1, n2⟩ := Iv.fold (d := d + 1) (by omega) ho (loadsF (s + 2)) (I.mono (show d ≤ d + 1 by omega)) h
  exact ⟨J, by unfold rndF; omega, by unfold rndF; omega⟩
theorem evTupS {Γ : Cfg} {s : MP.Env} {a b : MP.E} {m : Int} {z : Int} (h1 : ev Γ false a s = .ok (.val (.int m)) s) (h2 : ev Γ false b s = .ok (.val (.int z)) s) : ev Γ false (.tup [a, a, b]) s = .ok (.val (eS (m, m, z))) s := evTup3 h1 h1 h2
section
variable {n : Nat}
theorem ltN (a b : Nat) : cmpF .lt (.int (a : Nat)) (.int (b : Nat)) = some (decide (a < b)) := by
  show some (decide ((a : Int) < (b : Int))) = _
  congr 1
  exact decide_eq_decide.mpr Int.ofNat_lt
theorem while9 {m : Int} {s : Nat} (h1 : 1 ≤ m) (h8 : m ≤ 8) (hs3 : s < 3) {r : Option (List Ld)} : ∀ (k f i : Nat) (a : Wy × List Sd) (o6 o7 o8 : Option (Mode × Cell)), k ≤ f → k ≤ 64 → Iv m (64 - k) a → a.1.length + 50 * k ≤ 5000 → a.2.length + 50 * k ≤ 5000 → Fr o6 → Fr o7 → Fr o8 → planF m (s + 2) k i a = some r →
    ∃ s', whileX (fun se => ev (Gm T wf sub (n + 7)) true E9_0 se) (fun se => exs (Gm T wf sub (n + 7)) L9_1 se) f (e9 m s a.1 a.2 i o6 o7 o8) = (match r with
      | none => X.nx s'
      | some p => X.ret (.val (.list (p.map eP2))) s')
  | 0, _, _, _, _, _, _, _, _, _, _, _, _, _, _, h => by simp [planF] at h
  | k + 1, 0, _, _, _, _, _, hf, _, _, _, _, _, _, _, _ => by omega
  | k + 1, f + 1, i, a, o6, o7, o8, hf, hk, I, l1, l2, f6, f7, f8, h => by
    have et : ev (Gm T wf sub (n + 7)) true E9_0 (e9 m s a.1 a.2 i o6 o7 o8) = .ok (.val (.bool (decide (i < a.2.length)))) (e9 m s a.1 a.2 i o6 o7 o8) := evCmpR (r1 := .val (.int (i : Nat))) (evV rfl) rfl (evBlt1 (x := .list (a.2.map eS)) (evBor rfl) rfl rfl (lenM eS a.2)) rfl rfl (ltN i a.2.length)
    unfold whileX
    simp only [et, R.thenX, boolR]
    unfold planF at h
    cases hg : a.2[i]? with
    | none =>
      rw [hg] at h
      cases h
      rw [decide_eq_false (by have := List.getElem?_eq_none_iff.mp hg; omega)]
      exact ⟨_, rfl⟩
    | some here =>
      rw [hg] at h
      have hi : i < a.2.length := (List.getElem?_eq_some_iff.mp hg).1
      obtain ⟨hp, e1, e2, e3⟩ := I.got (List.mem_of_getElem? hg)
      rw [decide_eq_true hi]
      dsimp only at h ⊢
      have b1 : ex1 (Gm T wf sub (n + 7)) (.asg 6 (.idx (.var 4) (.var 5))) (e9 m s a.1 a.2 i o6 o7 o8) = .nx (e9 m s a.1 a.2 i (Vd (eS here)) o7 o8) := asg_val (s1 := e9 m s a.1 a.2 i o6 o7 o8) (o := o6) (evIdx (x := .list (a.2.map eS)) (y := .int (i : Nat)) (evBor rfl) rfl (evV rfl) rfl rfl (idxM eS a.2 hg)) rfl f6.c
      have b2 : ev (Gm T wf sub (n + 7)) true (.cmp .eq (.var 6) (.tup [(.cst (.int 0)), (.cst (.int 0)), (.cst (.int 1))])) (e9 m s a.1 a.2 i (Vd (eS here)) o7 o8) = .ok (.val (.bool (decide (here = (0, 0, 1))))) (e9 m s a.1 a.2 i (Vd (eS here)) o7 o8) := evCmp (x := eS here) (y := eS (0, 0, 1)) (evV rfl) (evTup3 evCst evCst evCst) (eqF_S _ _)
      by_cases c : here = (0, 0, 1)
      · rw [if_pos c] at h
        cases h
        rw [decide_eq_true c] at b2
        have b3 : ev (Gm T wf sub (n + 7)) false (.dget 3 (.var 6)) (e9 m s a.1 a.2 i (Vd (eS here)) o7 o8) = .ok (.val (.list (hp.map eP2))) (e9 m s a.1 a.2 i (Vd (eS here)) o7 o8) := evDget (kk := eS here) (kvs0 := eW a.1) (kvs := eW a.1) rfl (evV rfl) rfl rfl (by rw [dGet_eW I.ne, e1]; rfl)
        refine ⟨e9 m s a.1 a.2 i (Vd (eS here)) o7 o8, ?_⟩
        rw [e1, L9_1, ex_nx b1 (exs_ret (ite_yes b2 (exs_ret (retV b3))))]
        rfl
      · rw [if_neg c] at h
        rw [decide_eq_false c] at b2
        obtain ⟨p7, p8, g7, g8, b3⟩ := round9 (n := n) (i := i) h1 h8 hs3 I e1 (by omega) e2 (by omega) (by omega) e3 f7 f8
        obtain ⟨I2, m1, m2⟩ := I.rnd hs3 e1 e2 e3
        have b4 : ex1 (Gm T wf sub (n + 7)) (.asg 5 (.bin .add (.var 5) (.cst (.int 1)))) (e9 m s (rndF m (s + 2) here a).1 (rndF m (s + 2) here a).2 i (Vd (eS here)) p7 p8) = .nx (e9 m s (rndF m (s + 2) here a).1 (rndF m (s + 2) here a).2 (i + 1) (Vd (eS here)) p7 p8) := asg_val (s1 := e9 m s (rndF m (s + 2) here a).1 (rndF m (s + 2) here a).2 i (Vd (eS here)) p7 p8) (o := Vi (i : Nat)) (d := .int ((i + 1 : Nat) : Int)) (evB (x := .int (i : Nat)) (y := .int 1) (evV rfl) evCst rfl) rfl (.c _)
        obtain ⟨s', e⟩ := while9 h1 h8 hs3 k f (i + 1) (rndF m (s + 2) here a) (Vd (eS here)) p7 p8 (by omega) (by omega) (by rw [show 64 - k = 64 - (k + 1) + 1 by omega]; exact I2) (by omega) (by omega) (.v _) g7 g8 h
        refine ⟨s', ?_⟩
        rw [L9_1, ex_nx b1 (ex_nx (ite_no b2) (ex_nx b3 (ex_nx b4 rfl)))]
        simp only [exs, X.seq]
        exact e
theorem plan_ok {m : Int} {s : Nat} (h1 : 1 ≤ m) (h8 : m ≤ 8) (hs3 : s < 3) {r : Option (List Ld)} (hr : planF m (s + 2) 64 0 (init m) = some r) : run T wf sub (n + 8) 9 [.val (.int m), .val (.int ((s + 2 : Nat) : Int))] = .ok (.val (match r with
    | none => .none
    | some p => .list (p.map eP2))) none := by
  have k2 := trip_ok (n := n + 4) (m := m) (s := ((s + 2 : Nat) : Int)) h1 h8 (by omega) (by omega)
  rw [run_eq rfl rfl]
  show endF f9 (exs (Gm T wf sub (n + 7)) c9 [Vi m, Vi ((s + 2 : Nat) : Int), none, none, none, none, none, none, none]) = _
  rw [c9]
  refine ends_nx (s1 := [Vi m, Vi ((s + 2 : Nat) : Int), none, none, none, none, none, none, none]) (expr_nx (evCall (v := .val (.tuple [.int m, .int ((s + 2 : Nat) : Int)])) (ds := []) (evr1 (evV rfl) rfl (evr1 (evV rfl) rfl evr0)) rfl k2)) ?_
  refine ends_nx (s1 := [Vi m, Vi ((s + 2 : Nat) : Int), Vd (eS (start m)), none, none, none, none, none, none]) (asg_val (evTupS (evV rfl) evCst) rfl .no) ?_
  have g2 : ∀ σ, ev (Gm T wf sub (n + 7)) false (.list []) σ = .ok (.tmp (.lst [])) σ := fun σ => by simp [exs, ex1, ev, evs, evr, evo, fin, truthR, R.bind, R.thenX, R.opt, X.seq, hold, look, lookAll, Cell.d?, cmpF, eqF_int, boolR, truthF, bltF, binF, asgF, frz, retF, resOf, endF, outAt, inAt, argCells, backIO, entry, argEnv]
  refine ends_nx (s1 := [Vi m, Vi ((s + 2 : Nat) : Int), Vd (eS (start m)), Dw (init m).1, none, none, none, none, none]) (asg_tmp (c := .dic (eW (init m).1)) (evDicE (dk := eS (start m)) (z := keyS (start m)) (evV rfl) rfl (g2 _) rfl rfl rfl) rfl .no) ?_
  have g3 : ev (Gm T wf sub (n + 7)) false (.list [(.var 2)]) [Vi m, Vi ((s + 2 : Nat) : Int), Vd (eS (start m)), Dw (init m).1, none, none, none, none, none] = .ok (.tmp (.lst ([start m].map eS))) [Vi m, Vi ((s + 2 : Nat) : Int), Vd (eS (start m)), Dw (init m).1, none, none, none, none, none] := by simp [exs, ex1, ev, evs, evr, evo, fin, truthR, R.bind, R.thenX, R.opt, X.seq, hold, look, lookAll, Cell.d?, cmpF, eqF_int, boolR, truthF, bltF, binF, asgF, frz, retF, resOf, endF, outAt, inAt, argCells, backIO, entry, argEnv]
  refine ends_nx (s1 := [Vi m, Vi ((s + 2 : Nat) : Int), Vd (eS (start m)), Dw (init m).1, Od ([start m].map eS), none, none, none, none]) (asg_tmp g3 rfl .no) ?_
  refine ends_nx (s1 := e9 m s (init m).1 (init m).2 0 none none none) (asg_val evCst rfl .no) ?_
  obtain ⟨s', e⟩ := while9 (n := n) h1 h8 hs3 64 wf 0 (init m) none none none (by unfold wf; decide) (by decide) (iv_init h1 _) (by simp [init]) (by simp [init]) .no .no .no hr
  cases r with
  | none => exact ends_nx (s1 := s') e (ends_ret (retV evCst) rfl)
  | some p => exact ends_ret e rfl
/-! ### the law's -/
theorem while23 {m : Int} {s : Nat} (h1 : 1 ≤ m) (h8 : m ≤ 8) (hs3 : s < 3) {r : Wy} : ∀ (k f : Nat) (w : Wy) (q : List Sd) (o6 o7 o8 : Option (Mode × Cell)), k ≤ f → k ≤ 64 → Iv m (64 - k) (w, q) → w.length + 50 * k ≤ 5000 → q.length + 50 * k ≤ 5000 → Fr o6 → Fr o7 → Fr o8 → waysF m (s + 2) k (w, q) = some r →
    ∃ q6 q7 q8, whileX (fun se => ev (Gm T wf sub (n + 2)) true E23_0 se) (fun se => exs (Gm T wf sub (n + 2)) L23_1 se) f (e23 m s w q 0 o6 o7 o8) = X.nx (e23 m s r [] 0 q6 q7 q8)
  | 0, _, _, _, _, _, _, _, _, _, _, _, _, _, _, h => by simp [waysF] at h
  | k + 1, 0, _, _, _, _, _, hf, _, _, _, _, _, _, _, _ => by omega
  | k + 1, f + 1, w, q, o6, o7, o8, hf, hk, I, l1, l2, f6, f7, f8, h => by
    have et : ev (Gm T wf sub (n + 2)) true E23_0 (e23 m s w q 0 o6 o7 o8) = .ok (.val (.bool (decide (0 < q.length)))) (e23 m s w q 0 o6 o7 o8) := evCmpR (r1 := .val (.int (q.length : Nat))) (evBlt1 (x := .list (q.map eS)) (evBor rfl) rfl rfl (lenM eS q)) rfl evCst rfl rfl (by
      show some (decide ((0 : Int) < (q.length : Nat))) = _
      congr 1
      exact decide_eq_decide.mpr (by omega))
    unfold whileX
    simp only [et, R.thenX, boolR]
    unfold waysF at h
    cases q with
    | nil =>
      cases h
      exact ⟨o6, o7, o8, rfl⟩
    | cons here rest =>
      obtain ⟨hp, e1, e2, e3⟩ := I.got (x := here) (by simp)
      rw [decide_eq_true (show 0 < (here :: rest).length by simp)]
      dsimp only at h ⊢
      have J : Iv m (64 - (k + 1)) (w, rest) := ⟨I.ne, I.ok, fun x hx => I.q x (List.mem_cons_of_mem _ hx)⟩
      have lr : rest.length + 1 = (here :: rest).length := rfl
      have b1 : ex1 (Gm T wf sub (n + 2)) (.asg 4 (.idx (.var 3) (.cst (.int 0)))) (e23 m s w (here :: rest) 0 o6 o7 o8) = .nx (e23 m s w (here :: rest) 0 (Vd (eS here)) o7 o8) := asg_val (s1 := e23 m s w (here :: rest) 0 o6 o7 o8) (o := o6) (evIdx (x := .list ((here :: rest).map eS)) (y := .int ((0 : Nat) : Int)) (evBor rfl) rfl evCst rfl rfl (idxM eS (here :: rest) rfl)) rfl f6.c
      have b2 : ex1 (Gm T wf sub (n + 2)) (.asg 3 (.slc (.var 3) (some (.cst (.int 1))) none)) (e23 m s w (here :: rest) 0 (Vd (eS here)) o7 o8) = .nx (e23 m s w rest 0 (Vd (eS here)) o7 o8) := asg_tmp (s1 := e23 m s w (here :: rest) 0 (Vd (eS here)) o7 o8) (o := Od ((here :: rest).map eS)) (c := .lst (rest.map eS)) (evSlc1 (x := .list ((here :: rest).map eS)) (evBor rfl) rfl evCst rfl (slcD eS (here :: rest) 1)) rfl (.c _)
      obtain ⟨p7, p8, g7, g8, b3⟩ := round23 (n := n) (i := 0) True.intro hs3 J e1 (by omega) e2 (by dsimp only; omega) (by dsimp only; omega) e3 f7 f8
      obtain ⟨I2, m1, m2⟩ := J.rnd hs3 e1 e2 e3
      dsimp only at m1 m2
      obtain ⟨q6, q7, q8, e⟩ := while23 h1 h8 hs3 k f (rndF m (s + 2) here (w, rest)).1 (rndF m (s + 2) here (w, rest)).2 (Vd (eS here)) p7 p8 (by omega) (by omega) (by rw [show 64 - k = 64 - (k + 1) + 1 by omega]; exact I2) (by omega) (by omega) (.v _) g7 g8 h
      refine ⟨q6, q7, q8, ?_⟩
      rw [L23_1, ex_nx b1 (ex_nx b2 (ex_nx b3 rfl))]
      simp only [exs, X.seq]
      exact e
theorem ways_ok {m : Int} {s : Nat} (h1 : 1 ≤ m) (h8 : m ≤ 8) (hs3 : s < 3) {r : Wy} (hr : waysF m (s + 2) 64 (init m) = some r) : run T wf sub (n + 3) 23 [.val (.int m), .val (.int ((s + 2 : Nat) : Int))] = .ok (.dic (eW r)) none := by
  rw [run_eq rfl rfl]
  show endF f23 (exs (Gm T wf sub (n + 2)) c23 [Vi m, Vi ((s + 2 : Nat) : Int), none, none, none, none, none]) = _
  rw [c23]
  have g2 : ∀ σ, ev (Gm T wf sub (n + 2)) false (.list []) σ = .ok (.tmp (.lst [])) σ := fun σ => by simp [exs, ex1, ev, evs, evr, evo, fin, truthR, R.bind, R.thenX, R.opt, X.seq, hold, look, lookAll, Cell.d?, cmpF, eqF_int, boolR, truthF, bltF, binF, asgF, frz, retF, resOf, endF, outAt, inAt, argCells, backIO, entry, argEnv]
  refine ends_nx (s1 := [Vi m, Vi ((s + 2 : Nat) : Int), Dw (init m).1, none, none, none, none]) (asg_tmp (c := .dic (eW (init m).1)) (evDicE (dk := eS (MP.start m)) (z := keyS (MP.start m)) (evTupS (evV rfl) evCst) rfl (g2 _) rfl rfl rfl) rfl .no) ?_
  have g3 : ev (Gm T wf sub (n + 2)) false (.list [(.tup [(.var 0), (.var 0), (.cst (.int 0))])]) [Vi m, Vi ((s + 2 : Nat) : Int), Dw (init m).1, none, none, none, none] = .ok (.tmp (.lst ([MP.start m].map eS))) [Vi m, Vi ((s + 2 : Nat) : Int), Dw (init m).1, none, none, none, none] := by
    have e := evTupS (Γ := Gm T wf sub (n + 2)) (s := [Vi m, Vi ((s + 2 : Nat) : Int), Dw (init m).1, none, none, none, none]) (a := .var 0) (b := .cst (.int 0)) (m := m) (z := 0) (evV rfl) evCst
    rw [ev, fin_false]
    simp only [evs, e, R.bind, frz]
    rfl
  refine ends_nx (s1 := e23 m s (init m).1 (init m).2 0 none none none) (asg_tmp g3 rfl .no) ?_
  obtain ⟨q6, q7, q8, e⟩ := while23 (n := n) h1 h8 hs3 64 wf (init m).1 (init m).2 none none none (by unfold wf; decide) (by decide) (iv_init h1 _) (by simp [init]) (by simp [init]) .no .no .no hr
  refine ends_nx (s1 := e23 m s r [] 0 q6 q7 q8) e ?_
  refine ends_ret (v := .dic (eW r)) (s1 := e23 m s r [] 0 q6 q7 q8) ?_ rfl
  show ex1 _ (.ret (.var 2)) _ = _
  rw [ex1, evVarD (kvs := eW r) (m := .fr) rfl]
  rfl
/-! ### behind, the law's lead -/
theorem behind_loop {m : Int} {s : Nat} {dt : D} (h1 : 1 ≤ m) (h8 : m ≤ 8) (hs3 : s < 3) : ∀ (ls : List Ld) (here : Sd) (o4 : Option (Mode × Cell)), okS m here = true → Fr o4 → ∃ s', loopX (fun se => exs (Gm T wf sub (n + 7)) L8_0 se) (.name 4) (ls.map eP2) [Vi m, Vi ((s + 2 : Nat) : Int), Vd dt, Vd (eS here), o4] = (match leadF m (s + 2) here ls with
    | some t => X.nx s'
    | none => X.ex 2 .none s') ∧ ∀ t, leadF m (s + 2) here ls = some t → okS m t = true ∧ ∃ o4, s' = [Vi m, Vi ((s + 2 : Nat) : Int), Vd dt, Vd (eS t), o4]
  | [], here, o4, ho, f4 => ⟨_, rfl, fun t ht => by cases ht; exact ⟨ho, o4, rfl⟩⟩
  | l :: ls, here, o4, ho, f4 => by
    have kl := loads_ok (n := n + 4) hs3
    have e1 : ev (Gm T wf sub (n + 7)) true (.cmp .notin (.var 4) (.call 4 [(.var 1)] [])) [Vi m, Vi ((s + 2 : Nat) : Int), Vd dt, Vd (eS here), Vd (eP2 l)] = .ok (.val (.bool (!decide (l ∈ loadsF (s + 2))))) [Vi m, Vi ((s + 2 : Nat) : Int), Vd dt, Vd (eS here), Vd (eP2 l)] :=
      evCmpR (x := eP2 l) (evV rfl) rfl (evCall (v := .lst ((loadsF (s + 2)).map eP2)) (ds := []) (evr1 (evV rfl) rfl evr0) rfl kl) rfl rfl (notin_P l _)
    rw [List.map_cons]
    by_cases hl : l ∈ loadsF (s + 2)
    · rw [decide_eq_true hl] at e1
      have k6 := moved_ok (n := n + 2) (l := l) h1 h8 ho
      rw [if_pos (fact_sub s hs3 l hl)] at k6
      cases ht : thereF m here l with
      | some t =>
        rw [ht] at k6
        have lf : leadF m (s + 2) here (l :: ls) = leadF m (s + 2) t ls := by rw [leadF, if_pos hl, ht]; rfl
        rw [lf]
        obtain ⟨s', e, q⟩ := behind_loop (dt := dt) h1 h8 hs3 ls t (Vd (eP2 l)) (there_ok ho ht) (.v _)
        refine ⟨s', ?_, q⟩
        rw [loopX_step (s1 := [Vi m, Vi ((s + 2 : Nat) : Int), Vd dt, Vd (eS here), Vd (eP2 l)]) (s2 := [Vi m, Vi ((s + 2 : Nat) : Int), Vd dt, Vd (eS t), Vd (eP2 l)]) (f4.free rfl) rfl ?_]
        · exact e
        · rw [L8_0]
          exact ex_nx (ite_no e1) (ex_nx (asg_val (o := Vd (eS here)) (evCall (v := .val (eS t)) (ds := []) (evr1 (evV rfl) rfl (evr1 (evV rfl) rfl (evr1 (evV rfl) rfl evr0))) rfl k6) rfl (.c _)) rfl)
      | none =>
        rw [ht] at k6
        have lf : leadF m (s + 2) here (l :: ls) = none := by rw [leadF, if_pos hl, ht]; rfl
        rw [lf]
        refine ⟨[Vi m, Vi ((s + 2 : Nat) : Int), Vd dt, Vd (eS here), Vd (eP2 l)], ?_, fun t ht => by cases ht⟩
        refine loopX_exc (s1 := [Vi m, Vi ((s + 2 : Nat) : Int), Vd dt, Vd (eS here), Vd (eP2 l)]) (f4.free rfl) rfl ?_
        rw [L8_0, ex_nx (ite_no e1) rfl]
        have : ev (Gm T wf sub (n + 7)) false (.call 6 [(.var 0), (.var 3), (.var 4)] []) [Vi m, Vi ((s + 2 : Nat) : Int), Vd dt, Vd (eS here), Vd (eP2 l)] = .ex 2 .none [Vi m, Vi ((s + 2 : Nat) : Int), Vd dt, Vd (eS here), Vd (eP2 l)] := evCallX (ds := []) (evr1 (evV rfl) rfl (evr1 (evV rfl) rfl (evr1 (evV rfl) rfl evr0))) rfl k6
        simp only [exs, ex1, this, R.thenX, X.seq]
    · rw [decide_eq_false hl] at e1
      have lf : leadF m (s + 2) here (l :: ls) = none := by rw [leadF, if_neg hl]
      rw [lf]
      refine ⟨[Vi m, Vi ((s + 2 : Nat) : Int), Vd dt, Vd (eS here), Vd (eP2 l)], ?_, fun t ht => by cases ht⟩
      refine loopX_exc (s1 := [Vi m, Vi ((s + 2 : Nat) : Int), Vd dt, Vd (eS here), Vd (eP2 l)]) (f4.free rfl) rfl ?_
      have : ex1 (Gm T wf sub (n + 7)) (.ite (.cmp .notin (.var 4) (.call 4 [(.var 1)] [])) [.raise 2 (.cst (.str "no load"))] []) [Vi m, Vi ((s + 2 : Nat) : Int), Vd dt, Vd (eS here), Vd (eP2 l)] = .ex 2 .none [Vi m, Vi ((s + 2 : Nat) : Int), Vd dt, Vd (eS here), Vd (eP2 l)] := ite_yes e1 (by simp [exs, ex1, ev, evs, evr, evo, fin, truthR, R.bind, R.thenX, R.opt, X.seq, hold, look, lookAll, Cell.d?, cmpF, eqF_int, boolR, truthF, bltF, binF, asgF, frz, retF, resOf, endF, outAt, inAt, argCells, backIO, entry, argEnv])
      rw [L8_0, exs, this]
      rfl
theorem behind_ok {m : Int} {s : Nat} (h1 : 1 ≤ m) (h8 : m ≤ 8) (hs3 : s < 3) (ls : List Ld) : run T wf sub (n + 8) 8 [.val (.int m), .val (.int ((s + 2 : Nat) : Int)), .val (.list (ls.map eP2))] = (match leadF m (s + 2) (MP.start m) ls with
    | some t => .ok (.val (eS t)) none
    | none => .ex 2 .none none) := by
  have k2 := trip_ok (n := n + 4) (m := m) (s := ((s + 2 : Nat) : Int)) h1 h8 (by omega) (by omega)
  rw [run_eq rfl rfl]
  show endF f8 (exs (Gm T wf sub (n + 7)) c8 [Vi m, Vi ((s + 2 : Nat) : Int), Vd (.list (ls.map eP2)), none, none]) = _
  rw [c8]
  refine ends_nx (s1 := [Vi m, Vi ((s + 2 : Nat) : Int), Vd (.list (ls.map eP2)), none, none]) (expr_nx (evCall (v := .val (.tuple [.int m, .int ((s + 2 : Nat) : Int)])) (ds := []) (evr1 (evV rfl) rfl (evr1 (evV rfl) rfl evr0)) rfl k2)) ?_
  refine ends_nx (s1 := [Vi m, Vi ((s + 2 : Nat) : Int), Vd (.list (ls.map eP2)), Vd (eS (MP.start m)), none]) (asg_val (evTupS (evV rfl) evCst) rfl .no) ?_
  obtain ⟨s', e, q⟩ := behind_loop (n := n) (dt := .list (ls.map eP2)) h1 h8 hs3 ls (MP.start m) none (ok_start h1) .no
  have lp := for_any (Γ := Gm T wf sub (n + 7)) (k := .seq) (src := [(.var 2)]) (b := L8_0) (t := .name 4) (evr1 (evV rfl) rfl evr0) rfl rfl rfl e
  cases hl : leadF m (s + 2) (MP.start m) ls with
  | some t =>
    rw [hl] at lp
    obtain ⟨_, o4, rfl⟩ := q t hl
    exact ends_nx (s1 := [Vi m, Vi ((s + 2 : Nat) : Int), Vd (.list (ls.map eP2)), Vd (eS t), o4]) lp (ends_ret (retV (evV rfl)) rfl)
  | none =>
    rw [hl] at lp
    exact ends_ex lp rfl
theorem lead_loop {m : Int} {s : Nat} {dt : D} (hs3 : s < 3) : ∀ (ls : List Ld) (here : Sd) (o4 : Option (Mode × Cell)), Fr o4 → ∃ s', loopX (fun se => exs (Gm T wf sub (n + 2)) L24_0 se) (.name 4) (ls.map eP2) [Vi m, Vi ((s + 2 : Nat) : Int), Vd dt, Vd (eS here), o4] = (match leadF m (s + 2) here ls with
    | some t => X.nx s'
    | none => X.ret (.val .none) s') ∧ ∀ t, leadF m (s + 2) here ls = some t → ∃ o4, s' = [Vi m, Vi ((s + 2 : Nat) : Int), Vd dt, Vd (eS t), o4]
  | [], here, o4, f4 => ⟨_, rfl, fun t ht => by cases ht; exact ⟨o4, rfl⟩⟩
  | l :: ls, here, o4, f4 => by
    have kl := lloads_ok (n := n + 1) hs3
    have e1 : ev (Gm T wf sub (n + 2)) true (.cmp .isin (.var 4) (.call 21 [(.var 1)] [])) [Vi m, Vi ((s + 2 : Nat) : Int), Vd dt, Vd (eS here), Vd (eP2 l)] = .ok (.val (.bool (decide (l ∈ loadsF (s + 2))))) [Vi m, Vi ((s + 2 : Nat) : Int), Vd dt, Vd (eS here), Vd (eP2 l)] :=
      evCmpR (x := eP2 l) (evV rfl) rfl (evCall (v := .lst ((loadsF (s + 2)).map eP2)) (ds := []) (evr1 (evV rfl) rfl evr0) rfl kl) rfl rfl (inF_P l _)
    rw [List.map_cons]
    -- the body: the next stand, or None told
    have body : ∀ o : Option Sd, ev (Gm T wf sub (n + 2)) false (.ife (.cmp .isin (.var 4) (.call 21 [(.var 1)] [])) (.call 22 [(.var 0), (.var 3), (.var 4)] []) (.cst .none)) [Vi m, Vi ((s + 2 : Nat) : Int), Vd dt, Vd (eS here), Vd (eP2 l)] = .ok (.val (oS o)) [Vi m, Vi ((s + 2 : Nat) : Int), Vd dt, Vd (eS here), Vd (eP2 l)] →
        exs (Gm T wf sub (n + 2)) L24_0 [Vi m, Vi ((s + 2 : Nat) : Int), Vd dt, Vd (eS here), Vd (eP2 l)] = (match o with
          | some t => X.nx [Vi m, Vi ((s + 2 : Nat) : Int), Vd dt, Vd (eS t), Vd (eP2 l)]
          | none => X.ret (.val .none) [Vi m, Vi ((s + 2 : Nat) : Int), Vd dt, Vd .none, Vd (eP2 l)]) := fun o eo => by
      rw [L24_0]
      cases o with
      | some t => exact ex_nx (asg_val (o := Vd (eS here)) eo rfl (.c _)) (ex_nx (ite_no (evIsN' (x := eS t) (k := false) (evV rfl) rfl rfl)) rfl)
      | none => exact ex_nx (asg_val (o := Vd (eS here)) eo rfl (.c _)) (exs_ret (ite_yes (evIsN' (x := .none) (k := false) (evV rfl) rfl rfl) (exs_ret (retV evCst))))
    by_cases hl : l ∈ loadsF (s + 2)
    · rw [decide_eq_true hl] at e1
      have k6 := lthere_ok (n := n) (m := m) (st := here) (l := l)
      have b := body (thereF m here l) (ifeT e1 (evCall (v := .val (oS (thereF m here l))) (ds := []) (evr1 (evV rfl) rfl (evr1 (evV rfl) rfl (evr1 (evV rfl) rfl evr0))) rfl k6))
      cases ht : thereF m here l with
      | some t =>
        rw [ht] at b
        have lf : leadF m (s + 2) here (l :: ls) = leadF m (s + 2) t ls := by rw [leadF, if_pos hl, ht]; rfl
        rw [lf]
        obtain ⟨s', e, q⟩ := lead_loop (dt := dt) hs3 ls t (Vd (eP2 l)) (.v _)
        refine ⟨s', ?_, q⟩
        rw [loopX_step (s1 := [Vi m, Vi ((s + 2 : Nat) : Int), Vd dt, Vd (eS here), Vd (eP2 l)]) (s2 := [Vi m, Vi ((s + 2 : Nat) : Int), Vd dt, Vd (eS t), Vd (eP2 l)]) (f4.free rfl) rfl b]
        exact e
      | none =>
        rw [ht] at b
        have lf : leadF m (s + 2) here (l :: ls) = none := by rw [leadF, if_pos hl, ht]; rfl
        rw [lf]
        exact ⟨_, loopX_ret (s1 := [Vi m, Vi ((s + 2 : Nat) : Int), Vd dt, Vd (eS here), Vd (eP2 l)]) (f4.free rfl) rfl b, fun t ht => by cases ht⟩
    · rw [decide_eq_false hl] at e1
      have lf : leadF m (s + 2) here (l :: ls) = none := by rw [leadF, if_neg hl]
      rw [lf]
      have b := body none (ifeF e1 evCst)
      exact ⟨_, loopX_ret (s1 := [Vi m, Vi ((s + 2 : Nat) : Int), Vd dt, Vd (eS here), Vd (eP2 l)]) (f4.free rfl) rfl b, fun t ht => by cases ht⟩
theorem lead_ok {m : Int} {s : Nat} (hs3 : s < 3) (ls : List Ld) : run T wf sub (n + 3) 24 [.val (.int m), .val (.int ((s + 2 : Nat) : Int)), .val (.list (ls.map eP2))] = .ok (.val (oS (leadF m (s + 2) (MP.start m) ls))) none := by
  rw [run_eq rfl rfl]
  show endF f24 (exs (Gm T wf sub (n + 2)) c24 [Vi m, Vi ((s + 2 : Nat) : Int), Vd (.list (ls.map eP2)), none, none]) = _
  rw [c24]
  refine ends_nx (s1 := [Vi m, Vi ((s + 2 : Nat) : Int), Vd (.list (ls.map eP2)), Vd (eS (MP.start m)), none]) (asg_val (evTupS (evV rfl) evCst) rfl .no) ?_
  obtain ⟨s', e, q⟩ := lead_loop (n := n) (m := m) (dt := .list (ls.map eP2)) hs3 ls (MP.start m) none .no
  have lp := for_any (Γ := Gm T wf sub (n + 2)) (k := .seq) (src := [(.var 2)]) (b := L24_0) (t := .name 4) (evr1 (evV rfl) rfl evr0) rfl rfl rfl e
  cases hl : leadF m (s + 2) (MP.start m) ls with
  | some t =>
    rw [hl] at lp
    obtain ⟨o4, rfl⟩ := q t hl
    exact ends_nx (s1 := [Vi m, Vi ((s + 2 : Nat) : Int), Vd (.list (ls.map eP2)), Vd (eS t), o4]) lp (ends_ret (retV (evV rfl)) rfl)
  | none =>
    rw [hl] at lp
    exact ends_ret lp rfl
end
end K66

set_option linter.all false
set_option maxRecDepth 100000
set_option maxHeartbeats 400000
namespace K66
open PySem MP
theorem next_len {m : Int} {s : Nat} (hs3 : s < 3) (st : Sd) : (nextF m (s + 2) st).length ≤ 50 := Nat.le_trans (List.length_filterMap_le _ _) (fact_loads s hs3)
theorem next_okS {m : Int} {s : Nat} {st t : Sd} (h : okS m st = true) (ht : t ∈ nextF m s st) : okS m t = true := by
  obtain ⟨l, _, e⟩ := List.mem_filterMap.mp ht
  exact there_ok h e
abbrev e14 (m : Int) (s : Nat) (q : List Sd) (i : Nat) : MP.Env := [Vi m, Vi ((s + 2 : Nat) : Int), Od (q.map eS), Vi (i : Nat), none]
section
variable {n : Nat}
theorem while14 {m : Int} {s : Nat} (h1 : 1 ≤ m) (h8 : m ≤ 8) (hs3 : s < 3) {r : List Sd} : ∀ (k f i : Nat) (q : List Sd), k ≤ f → (∀ x ∈ q, okS m x = true) → q.length + 50 * k ≤ 5000 → reachF m (s + 2) k i q = some r →
    ∃ i', whileX (fun se => ev (Gm T wf sub (n + 8)) true E14_2 se) (fun se => exs (Gm T wf sub (n + 8)) L14_0 se) f (e14 m s q i) = .nx (e14 m s r i') ∧ ∀ x ∈ r, okS m x = true
  | 0, _, _, _, _, _, _, h => by simp [reachF] at h
  | k + 1, 0, _, _, hf, _, _, _ => by omega
  | k + 1, f + 1, i, q, hf, hq, hl, h => by
    have et : ev (Gm T wf sub (n + 8)) true E14_2 (e14 m s q i) = .ok (.val (.bool (decide (i < q.length)))) (e14 m s q i) := evCmpR (r1 := .val (.int (i : Nat))) (evV rfl) rfl (evBlt1 (x := .list (q.map eS)) (evBor rfl) rfl rfl (lenM eS q)) rfl rfl (ltN i q.length)
    unfold whileX
    simp only [et, R.thenX, boolR]
    unfold reachF at h
    cases hg : q[i]? with
    | none =>
      rw [hg] at h
      cases h
      rw [decide_eq_false (by have := List.getElem?_eq_none_iff.mp hg; omega)]
      exact ⟨i, rfl, hq⟩
    | some here =>
      rw [hg] at h
      have hi : i < q.length := (List.getElem?_eq_some_iff.mp hg).1
      have ho := hq here (List.mem_of_getElem? hg)
      rw [decide_eq_true hi]
      dsimp only at h ⊢
      have k7 := next_ok (n := n + 1) (st := here) h1 h8 hs3 ho
      have hn := next_len (m := m) hs3 here
      have c1 : ev (Gm T wf sub (n + 8)) false (.comp E14_1 (.name 4) .seq [(.call 7 [(.var 0), (.var 1), (.idx (.var 2) (.var 3))] [])] (some E14_0) [4]) (e14 m s q i) = .ok (.tmp (.lst (((nextF m (s + 2) here).filter fun t => !decide (t ∈ q)).map eS))) (e14 m s q i) :=
        compF (rs := [.val (.list ((nextF m (s + 2) here).map eS))]) (ds := [.list ((nextF m (s + 2) here).map eS)]) (s1 := e14 m s q i) (s2 := e14 m s q i) (o := none) eS (fun t => !decide (t ∈ q)) eS (nextF m (s + 2) here) (evr1 (evCall (v := .lst ((nextF m (s + 2) here).map eS)) (ds := []) (evr1 (evV rfl) rfl (evr1 (evV rfl) rfl (evr1 (evIdx (x := .list (q.map eS)) (y := .int (i : Nat)) (evBor rfl) rfl (evV rfl) rfl rfl (idxM eS q hg)) rfl evr0))) rfl k7) rfl evr0) rfl rfl rfl rfl .no (by unfold big; omega) (fun x hx => evCmpR (x := eS x) (y := .list (q.map eS)) (evV rfl) rfl (evBor rfl) rfl rfl (notin_S x q)) (fun x hx h => evV rfl)
      have fl : ((nextF m (s + 2) here).filter fun t => !decide (t ∈ q)).length ≤ 50 := Nat.le_trans (List.length_filter_le _ _) hn
      have b1 : ex1 (Gm T wf sub (n + 8)) (.expr (.mut .extend 2 [(.comp E14_1 (.name 4) .seq [(.call 7 [(.var 0), (.var 1), (.idx (.var 2) (.var 3))] [])] (some E14_0) [4])])) (e14 m s q i) = .nx (e14 m s (q ++ (nextF m (s + 2) here).filter fun t => !decide (t ∈ q)) i) := by
        have e := ext_nx (d := .none) (i := 2) (md0 := .fr) (md := .fr) (xs0 := q.map eS) (xs := q.map eS) (s := e14 m s q i) (s1 := e14 m s q i) (s2 := e14 m s q i) (ys := ((nextF m (s + 2) here).filter fun t => !decide (t ∈ q)).map eS) rfl c1 rfl rfl (by decide) (by rw [List.length_map, List.length_map]; unfold big; omega)
        rw [e, ← List.map_append]
        rfl
      have b2 : ex1 (Gm T wf sub (n + 8)) (.asg 3 (.bin .add (.var 3) (.cst (.int 1)))) (e14 m s (q ++ (nextF m (s + 2) here).filter fun t => !decide (t ∈ q)) i) = .nx (e14 m s (q ++ (nextF m (s + 2) here).filter fun t => !decide (t ∈ q)) (i + 1)) := asg_val (s1 := e14 m s (q ++ (nextF m (s + 2) here).filter fun t => !decide (t ∈ q)) i) (o := Vi (i : Nat)) (d := .int ((i + 1 : Nat) : Int)) (evB (x := .int (i : Nat)) (y := .int 1) (evV rfl) evCst rfl) rfl (.c _)
      obtain ⟨i', e, hr⟩ := while14 h1 h8 hs3 k f (i + 1) (q ++ (nextF m (s + 2) here).filter fun t => !decide (t ∈ q)) (by omega) (fun x hx => by
        rcases List.mem_append.mp hx with hx | hx
        · exact hq x hx
        · exact next_okS ho (List.mem_filter.mp hx).1) (by rw [List.length_append]; omega) h
      refine ⟨i', ?_, hr⟩
      rw [L14_0, ex_nx b1 (ex_nx b2 rfl)]
      simp only [exs, X.seq]
      exact e
theorem reached_ok {m : Int} {s : Nat} (h1 : 1 ≤ m) (h8 : m ≤ 8) (hs3 : s < 3) {r : List Sd} (hr : reachF m (s + 2) 64 0 [MP.start m] = some r) (hl : r.length ≤ 1000) : run T wf sub (n + 9) 14 [.val (.int m), .val (.int ((s + 2 : Nat) : Int))] = .ok (.lst ((srtS r).map eS)) none := by
  have k2 := trip_ok (n := n + 5) (m := m) (s := ((s + 2 : Nat) : Int)) h1 h8 (by omega) (by omega)
  rw [run_eq rfl rfl]
  show endF f14 (exs (Gm T wf sub (n + 8)) c14 [Vi m, Vi ((s + 2 : Nat) : Int), none, none, none]) = _
  rw [c14]
  refine ends_nx (s1 := [Vi m, Vi ((s + 2 : Nat) : Int), none, none, none]) (expr_nx (evCall (v := .val (.tuple [.int m, .int ((s + 2 : Nat) : Int)])) (ds := []) (evr1 (evV rfl) rfl (evr1 (evV rfl) rfl evr0)) rfl k2)) ?_
  have g3 : ev (Gm T wf sub (n + 8)) false (.list [(.tup [(.var 0), (.var 0), (.cst (.int 0))])]) [Vi m, Vi ((s + 2 : Nat) : Int), none, none, none] = .ok (.tmp (.lst ([MP.start m].map eS))) [Vi m, Vi ((s + 2 : Nat) : Int), none, none, none] := by
    have e := evTupS (Γ := Gm T wf sub (n + 8)) (s := [Vi m, Vi ((s + 2 : Nat) : Int), none, none, none]) (a := .var 0) (b := .cst (.int 0)) (m := m) (z := 0) (evV rfl) evCst
    rw [ev, fin_false]
    simp only [evs, e, R.bind, frz]
    rfl
  refine ends_nx (s1 := [Vi m, Vi ((s + 2 : Nat) : Int), Od ([MP.start m].map eS), none, none]) (asg_tmp g3 rfl .no) ?_
  refine ends_nx (s1 := e14 m s [MP.start m] 0) (asg_val evCst rfl .no) ?_
  obtain ⟨i', e, ho⟩ := while14 (n := n) h1 h8 hs3 64 wf 0 [MP.start m] (by unfold wf; decide) (fun x hx => by rw [List.mem_singleton.mp hx]; exact ok_start h1) (by simp) hr
  refine ends_nx (s1 := e14 m s r i') e ?_
  exact ends_ret (s1 := e14 m s r i') (retT (evLib1 (x := .list (r.map eS)) (evBor rfl) rfl rfl (sortD_S (fun x hx => okS_bnd h8 (ho x hx)) (Nat.le_trans hl (by decide))))) rfl
theorem can_ok {m : Int} {s : Nat} (h1 : 1 ≤ m) (h8 : m ≤ 8) (hs3 : s < 3) : run T wf sub (n + 4) 11 [.val (.int m), .val (.int ((s + 2 : Nat) : Int))] = .ok (.val (.bool (decide (m ≤ [3, 5, 8][s]?.getD 0)))) none := by
  have k2 := trip_ok (n := n) (m := m) (s := ((s + 2 : Nat) : Int)) h1 h8 (by omega) (by omega)
  rw [run_eq rfl rfl]
  show endF f11 (exs (Gm T wf sub (n + 3)) c11 [Vi m, Vi ((s + 2 : Nat) : Int)]) = _
  rw [c11]
  refine ends_nx (s1 := [Vi m, Vi ((s + 2 : Nat) : Int)]) (expr_nx (evCall (v := .val (.tuple [.int m, .int ((s + 2 : Nat) : Int)])) (ds := []) (evr1 (evV rfl) rfl (evr1 (evV rfl) rfl evr0)) rfl k2)) ?_
  have e : ev (Gm T wf sub (n + 3)) false (.cmp .le (.var 0) (.idx (.list [(.cst (.int 3)), (.cst (.int 5)), (.cst (.int 8))]) (.bin .sub (.blt .min [(.var 1), (.cst (.int 4))]) (.cst (.int 2))))) [Vi m, Vi ((s + 2 : Nat) : Int)] = .ok (.val (.bool (decide (m ≤ [3, 5, 8][s]?.getD 0)))) [Vi m, Vi ((s + 2 : Nat) : Int)] := by
    match s, hs3 with
    | 0, _ => rfl
    | 1, _ => rfl
    | 2, _ => rfl
  exact ends_ret (retV e) rfl
def oL : Option (List Ld) → D
  | none => .none
  | some p => .list (p.map eP2)
theorem plan_ok' {m : Int} {s : Nat} (h1 : 1 ≤ m) (h8 : m ≤ 8) (hs3 : s < 3) {r : Option (List Ld)} (hr : planF m (s + 2) 64 0 (init m) = some r) : run T wf sub (n + 8) 9 [.val (.int m), .val (.int ((s + 2 : Nat) : Int))] = .ok (.val (oL r)) none := by
  rw [plan_ok h1 h8 hs3 hr]
  cases r <;> rfl
def oN : Option (List Ld) → D
  | none => .none
  | some p => .int (p.length : Nat)
theorem fewest_ok {m : Int} {s : Nat} (h1 : 1 ≤ m) (h8 : m ≤ 8) (hs3 : s < 3) {r : Option (List Ld)} (hr : planF m (s + 2) 64 0 (init m) = some r) : run T wf sub (n + 9) 15 [.val (.int m), .val (.int ((s + 2 : Nat) : Int))] = .ok (.val (oN r)) none := by
  have k := plan_ok' (n := n) h1 h8 hs3 hr
  rw [run_eq rfl rfl]
  show endF f15 (exs (Gm T wf sub (n + 8)) c15 [Vi m, Vi ((s + 2 : Nat) : Int), none]) = _
  rw [c15]
  refine ends_nx (s1 := [Vi m, Vi ((s + 2 : Nat) : Int), Vd (oL r)]) (asg_val (i := 2) (s1 := [Vi m, Vi ((s + 2 : Nat) : Int), none]) (evCall (v := .val (oL r)) (ds := []) (evr1 (evV rfl) rfl (evr1 (evV rfl) rfl evr0)) rfl k) rfl .no) ?_
  cases r with
  | none => exact ends_ret (retV (ifeT (evIsN' (x := .none) (k := false) (evV rfl) rfl rfl) evCst)) rfl
  | some p => exact ends_ret (retV (ifeF (evIsN' (x := .list (p.map eP2)) (k := false) (evV rfl) rfl rfl) (evBlt1 (evV rfl) rfl rfl (lenM eP2 p)))) rfl
def judF (m : Int) (s : Nat) (r : Option (List Ld)) (ls : List Ld) : Bool := match r with
  | none => false
  | some p => decide (leadF m s (MP.start m) ls = some (0, 0, 1)) && decide (ls.length = p.length)
theorem eqN (a b : Nat) : cmpF .eq (.int (a : Nat)) (.int (b : Nat)) = some (decide (a = b)) := by
  show eqF (.int (a : Int)) (.int (b : Int)) = _
  rw [eqF_int]
  congr 1
  exact decide_eq_decide.mpr Int.ofNat_inj
theorem judge_ok {m : Int} {s : Nat} (h1 : 1 ≤ m) (h8 : m ≤ 8) (hs3 : s < 3) {r : Option (List Ld)} (hr : planF m (s + 2) 64 0 (init m) = some r) (ls : List Ld) : run T wf sub (n + 9) 12 [.val (.int m), .val (.int ((s + 2 : Nat) : Int)), .val (.list (ls.map eP2))] = .ok (.val (.bool (judF m (s + 2) r ls))) none := by
  have k := plan_ok' (n := n) h1 h8 hs3 hr
  have k8 := behind_ok (n := n) h1 h8 hs3 ls
  rw [run_eq rfl rfl]
  show endF f12 (exs (Gm T wf sub (n + 8)) c12 [Vi m, Vi ((s + 2 : Nat) : Int), Vd (.list (ls.map eP2)), none]) = _
  rw [c12]
  refine ends_nx (s1 := [Vi m, Vi ((s + 2 : Nat) : Int), Vd (.list (ls.map eP2)), Vd (oL r)]) (asg_val (i := 3) (s1 := [Vi m, Vi ((s + 2 : Nat) : Int), Vd (.list (ls.map eP2)), none]) (evCall (v := .val (oL r)) (ds := []) (evr1 (evV rfl) rfl (evr1 (evV rfl) rfl evr0)) rfl k) rfl .no) ?_
  rw [q12_1]
  cases r with
  | none =>
    refine ends_ret (v := .val (.bool false)) (s1 := [Vi m, Vi ((s + 2 : Nat) : Int), Vd (.list (ls.map eP2)), Vd (oL none)]) ?_ rfl
    rw [ex1, exs_ret (retV (evAndF (evIsN' (x := .none) (k := true) (evV rfl) rfl rfl)))]
  | some p =>
    have e1 : ev (Gm T wf sub (n + 8)) false (.isN (.var 3) true) [Vi m, Vi ((s + 2 : Nat) : Int), Vd (.list (ls.map eP2)), Vd (oL (some p))] = .ok (.val (.bool true)) [Vi m, Vi ((s + 2 : Nat) : Int), Vd (.list (ls.map eP2)), Vd (oL (some p))] := evIsN' (x := .list (p.map eP2)) (k := true) (evV rfl) rfl rfl
    have e3 : ev (Gm T wf sub (n + 8)) false (.cmp .eq (.blt .len [(.var 2)]) (.blt .len [(.var 3)])) [Vi m, Vi ((s + 2 : Nat) : Int), Vd (.list (ls.map eP2)), Vd (oL (some p))] = .ok (.val (.bool (decide (ls.length = p.length)))) [Vi m, Vi ((s + 2 : Nat) : Int), Vd (.list (ls.map eP2)), Vd (oL (some p))] := evCmp (evBlt1 (evV rfl) rfl rfl (lenM eP2 ls)) (evBlt1 (evV rfl) rfl rfl (lenM eP2 p)) (eqN _ _)
    cases hl : leadF m (s + 2) (MP.start m) ls with
    | some t =>
      rw [hl] at k8
      have e2 : ev (Gm T wf sub (n + 8)) false (.cmp .eq (.call 8 [(.var 0), (.var 1), (.var 2)] []) (.tup [(.cst (.int 0)), (.cst (.int 0)), (.cst (.int 1))])) [Vi m, Vi ((s + 2 : Nat) : Int), Vd (.list (ls.map eP2)), Vd (oL (some p))] = .ok (.val (.bool (decide (t = (0, 0, 1))))) [Vi m, Vi ((s + 2 : Nat) : Int), Vd (.list (ls.map eP2)), Vd (oL (some p))] := evCmp (x := eS t) (y := eS (0, 0, 1)) (evCall (v := .val (eS t)) (ds := []) (evr1 (evV rfl) rfl (evr1 (evV rfl) rfl (evr1 (evV rfl) rfl evr0))) rfl k8) (evTup3 evCst evCst evCst) (eqF_S _ _)
      refine ends_ret (v := .val (.bool (judF m (s + 2) (some p) ls))) (s1 := [Vi m, Vi ((s + 2 : Nat) : Int), Vd (.list (ls.map eP2)), Vd (oL (some p))]) ?_ rfl
      by_cases c : t = (0, 0, 1)
      · rw [decide_eq_true c] at e2
        have hj : judF m (s + 2) (some p) ls = decide (ls.length = p.length) := by simp [judF, hl, c]
        rw [hj, ex1, exs_ret (retV (evAnd e1 (evAnd e2 e3)))]
      · rw [decide_eq_false c] at e2
        have hj : judF m (s + 2) (some p) ls = false := by simp [judF, hl, c]
        rw [hj, ex1, exs_ret (retV (evAnd e1 (evAndF e2)))]
    | none =>
      rw [hl] at k8
      have e2 : ev (Gm T wf sub (n + 8)) false (.cmp .eq (.call 8 [(.var 0), (.var 1), (.var 2)] []) (.tup [(.cst (.int 0)), (.cst (.int 0)), (.cst (.int 1))])) [Vi m, Vi ((s + 2 : Nat) : Int), Vd (.list (ls.map eP2)), Vd (oL (some p))] = .ex 2 .none [Vi m, Vi ((s + 2 : Nat) : Int), Vd (.list (ls.map eP2)), Vd (oL (some p))] := by
        have : ev (Gm T wf sub (n + 8)) false (.call 8 [(.var 0), (.var 1), (.var 2)] []) [Vi m, Vi ((s + 2 : Nat) : Int), Vd (.list (ls.map eP2)), Vd (oL (some p))] = .ex 2 .none [Vi m, Vi ((s + 2 : Nat) : Int), Vd (.list (ls.map eP2)), Vd (oL (some p))] := evCallX (ds := []) (evr1 (evV rfl) rfl (evr1 (evV rfl) rfl (evr1 (evV rfl) rfl evr0))) rfl k8
        rw [ev, this]
        rfl
      have e4 : ev (Gm T wf sub (n + 8)) false (.andE (.isN (.var 3) true) (.andE (.cmp .eq (.call 8 [(.var 0), (.var 1), (.var 2)] []) (.tup [(.cst (.int 0)), (.cst (.int 0)), (.cst (.int 1))])) (.cmp .eq (.blt .len [(.var 2)]) (.blt .len [(.var 3)])))) [Vi m, Vi ((s + 2 : Nat) : Int), Vd (.list (ls.map eP2)), Vd (oL (some p))] = .ex 2 .none [Vi m, Vi ((s + 2 : Nat) : Int), Vd (.list (ls.map eP2)), Vd (oL (some p))] := by
        refine evAnd e1 ?_
        rw [ev]
        simp only [e2, R.bind]
      refine ends_ret (v := .val (.bool false)) (s1 := [Vi m, Vi ((s + 2 : Nat) : Int), Vd (.list (ls.map eP2)), Vd (oL (some p))]) ?_ ?_
      · rw [ex1]
        simp only [exs, retX e4, X.seq]
        rfl
      · unfold judF
        rw [hl]
        rfl
end
end K66

set_option linter.all false
set_option maxRecDepth 100000
set_option maxHeartbeats 400000
namespace K66
open PySem MP
theorem ne_SS (l m : List Sd) : cmpF .ne (.list (l.map eS)) (.list (m.map eS)) = some (!decide (l = m)) := by
  show (eqF (.list (l.map eS)) (.list (m.map eS))).map (!·) = _
  rw [eqF_SS]
  rfl
/-- the stands show that all cannot come over -/
def fineF (m : Int) (s : Nat) (ls : List Sd) (x : Sd) : Bool := safeF m (x.1, x.2.1) && (nextF m s x).all fun t => decide (t ∈ ls)
def Shown (m : Int) (s : Nat) (ls : List Sd) : Prop := Asc ls ∧ MP.start m ∈ ls ∧ (0, 0, 1) ∉ ls ∧ ∀ x ∈ ls, fineF m s ls x = true
structure Told (ls : List Sd) : Prop where
  b : ∀ x ∈ ls, Bnd x
  t : ∀ x ∈ ls, x.2.2 = 0 ∨ x.2.2 = 1
  l : ls.length ≤ 60
section
variable {n : Nat}
theorem fine_body {m : Int} {s : Nat} {x : Sd} {ls : List Sd} {o2 : Option (Mode × Cell)} (h1 : 1 ≤ m) (h8 : m ≤ 8) (hs3 : s < 3) (ht : x.2.2 = 0 ∨ x.2.2 = 1) : (fineF m (s + 2) ls x = true ∧ exs (Gm T wf sub (n + 8)) L13_0 [Vi m, Vi ((s + 2 : Nat) : Int), o2, Vd (.list (ls.map eS)), Vd (eS x), none] = .nx [Vi m, Vi ((s + 2 : Nat) : Int), o2, Vd (.list (ls.map eS)), Vd (eS x), none]) ∨
    (fineF m (s + 2) ls x = false ∧ ∃ s', exs (Gm T wf sub (n + 8)) L13_0 [Vi m, Vi ((s + 2 : Nat) : Int), o2, Vd (.list (ls.map eS)), Vd (eS x), none] = .ret (.val (.bool false)) s') := by
  rw [L13_0]
  have k3 := safe_ok (n := n + 5) (m := m) (a := x.1) (b := x.2.1) h1 h8
  have i1 : ev (Gm T wf sub (n + 8)) true (.notE (.isi (.var 4) [.tuple])) [Vi m, Vi ((s + 2 : Nat) : Int), o2, Vd (.list (ls.map eS)), Vd (eS x), none] = .ok (.val (.bool false)) [Vi m, Vi ((s + 2 : Nat) : Int), o2, Vd (.list (ls.map eS)), Vd (eS x), none] := by simp [exs, ex1, ev, evs, evr, evo, fin, truthR, R.bind, R.thenX, R.opt, X.seq, hold, look, lookAll, Cell.d?, cmpF, eqF_int, boolR, truthF, bltF, binF, asgF, frz, retF, resOf, endF, outAt, inAt, argCells, backIO, entry, argEnv, isTy, eS]
  have i2 : ev (Gm T wf sub (n + 8)) true (.cmp .ne (.blt .len [(.var 4)]) (.cst (.int 3))) [Vi m, Vi ((s + 2 : Nat) : Int), o2, Vd (.list (ls.map eS)), Vd (eS x), none] = .ok (.val (.bool false)) [Vi m, Vi ((s + 2 : Nat) : Int), o2, Vd (.list (ls.map eS)), Vd (eS x), none] := by simp [exs, ex1, ev, evs, evr, evo, fin, truthR, R.bind, R.thenX, R.opt, X.seq, hold, look, lookAll, Cell.d?, cmpF, eqF_int, boolR, truthF, bltF, binF, asgF, frz, retF, resOf, endF, outAt, inAt, argCells, backIO, entry, argEnv, eS]
  have i3 : ev (Gm T wf sub (n + 8)) true (.cmp .notin (.idx (.var 4) (.cst (.int 2))) (.tup [(.cst (.int 0)), (.cst (.int 1))])) [Vi m, Vi ((s + 2 : Nat) : Int), o2, Vd (.list (ls.map eS)), Vd (eS x), none] = .ok (.val (.bool false)) [Vi m, Vi ((s + 2 : Nat) : Int), o2, Vd (.list (ls.map eS)), Vd (eS x), none] := by
    have e : cmpF .notin (.int x.2.2) (.tuple [.int 0, .int 1]) = some false := by
      rcases ht with h | h <;> rw [h] <;> rfl
    exact evCmp (evIdx (evV rfl) rfl evCst rfl rfl idxS2) (evTup2 evCst evCst) e
  have i4 : ev (Gm T wf sub (n + 8)) true (.notE (.call 3 [(.var 0), (.slc (.var 4) none (some (.cst (.int 2))))] [])) [Vi m, Vi ((s + 2 : Nat) : Int), o2, Vd (.list (ls.map eS)), Vd (eS x), none] = .ok (.val (.bool (!safeF m (x.1, x.2.1)))) [Vi m, Vi ((s + 2 : Nat) : Int), o2, Vd (.list (ls.map eS)), Vd (eS x), none] :=
    evNot (evCallT (ds := []) (evr1 (evV rfl) rfl (evr1 (evSlc2 (x := eS x) (r := .val (.tuple [.int x.1, .int x.2.1])) (evV rfl) rfl evCst rfl rfl) rfl evr0)) rfl k3)
  cases hsf : safeF m (x.1, x.2.1) with
  | false =>
    rw [hsf] at i4
    refine .inr ⟨by simp [fineF, hsf], _, exs_ret (ite_yes (evOr i1 (evOr i2 (evOr i3 i4))) (exs_ret (retV evCst)))⟩
  | true =>
    rw [hsf] at i4
    have ho : okS m x = true := by
      unfold okS
      rw [hsf]
      simp
      exact ht
    have k7 := next_ok (n := n + 1) (st := x) h1 h8 hs3 ho
    have hn := next_len (m := m) hs3 x
    have c1 : ev (Gm T wf sub (n + 8)) false (.comp E13_2 (.name 5) .seq [(.call 7 [(.var 0), (.var 1), (.var 4)] [])] (some E13_1) [5]) [Vi m, Vi ((s + 2 : Nat) : Int), o2, Vd (.list (ls.map eS)), Vd (eS x), none] = .ok (.tmp (.lst (((nextF m (s + 2) x).filter fun t => !decide (t ∈ ls)).map eS))) [Vi m, Vi ((s + 2 : Nat) : Int), o2, Vd (.list (ls.map eS)), Vd (eS x), none] :=
      compF (rs := [.val (.list ((nextF m (s + 2) x).map eS))]) (ds := [.list ((nextF m (s + 2) x).map eS)]) (s1 := [Vi m, Vi ((s + 2 : Nat) : Int), o2, Vd (.list (ls.map eS)), Vd (eS x), none]) (s2 := [Vi m, Vi ((s + 2 : Nat) : Int), o2, Vd (.list (ls.map eS)), Vd (eS x), none]) (o := none) eS (fun t => !decide (t ∈ ls)) eS (nextF m (s + 2) x) (evr1 (evCall (v := .lst ((nextF m (s + 2) x).map eS)) (ds := []) (evr1 (evV rfl) rfl (evr1 (evV rfl) rfl (evr1 (evV rfl) rfl evr0))) rfl k7) rfl evr0) rfl rfl rfl rfl .no (by unfold big; omega) (fun y hy => evCmp (x := eS y) (y := .list (ls.map eS)) (evV rfl) (evV rfl) (notin_S y ls)) (fun x hx h => evV rfl)
    have hh : ev (Gm T wf sub (n + 8)) true (.comp E13_2 (.name 5) .seq [(.call 7 [(.var 0), (.var 1), (.var 4)] [])] (some E13_1) [5]) [Vi m, Vi ((s + 2 : Nat) : Int), o2, Vd (.list (ls.map eS)), Vd (eS x), none] = truthR (ev (Gm T wf sub (n + 8)) false (.comp E13_2 (.name 5) .seq [(.call 7 [(.var 0), (.var 1), (.var 4)] [])] (some E13_1) [5]) [Vi m, Vi ((s + 2 : Nat) : Int), o2, Vd (.list (ls.map eS)), Vd (eS x), none]) := by
      simp only [ev, fin]
      rfl
    by_cases hall : ((nextF m (s + 2) x).all fun t => decide (t ∈ ls)) = true
    · have hf : (nextF m (s + 2) x).filter (fun t => !decide (t ∈ ls)) = [] := by
        rw [List.filter_eq_nil_iff]
        intro t ht
        have := List.all_eq_true.mp hall t ht
        rw [this]
        simp
      rw [hf] at c1
      refine .inl ⟨by rw [fineF, hsf, hall]; rfl, ?_⟩
      refine ex_nx (ite_no (evOr i1 (evOr i2 (evOr i3 i4)))) (ex_nx (ite_no ?_) rfl)
      rw [hh, c1]
      rfl
    · obtain ⟨y, r, hf⟩ : ∃ y r, (nextF m (s + 2) x).filter (fun t => !decide (t ∈ ls)) = y :: r := by
        cases e : (nextF m (s + 2) x).filter (fun t => !decide (t ∈ ls)) with
        | cons y r => exact ⟨y, r, rfl⟩
        | nil =>
          exfalso
          apply hall
          rw [List.all_eq_true]
          intro t ht
          have := List.filter_eq_nil_iff.mp e t ht
          simpa using this
      rw [hf] at c1
      have c5 : ev (Gm T wf sub (n + 8)) true (.comp E13_2 (.name 5) .seq [(.call 7 [(.var 0), (.var 1), (.var 4)] [])] (some E13_1) [5]) [Vi m, Vi ((s + 2 : Nat) : Int), o2, Vd (.list (ls.map eS)), Vd (eS x), none] = .ok (.val (.bool true)) [Vi m, Vi ((s + 2 : Nat) : Int), o2, Vd (.list (ls.map eS)), Vd (eS x), none] := by
        rw [hh, c1]
        rfl
      exact .inr ⟨by rw [fineF, hsf, Bool.eq_false_iff.mpr hall]; rfl, _, ex_nx (ite_no (evOr i1 (evOr i2 (evOr i3 i4)))) (exs_ret (ite_yes c5 (exs_ret (retV evCst))))⟩
theorem jnot_ok {m : Int} {s : Nat} {ls : List Sd} (h1 : 1 ≤ m) (h8 : m ≤ 8) (hs3 : s < 3) (P : Told ls) : ∃ b, run T wf sub (n + 9) 13 [.val (.int m), .val (.int ((s + 2 : Nat) : Int)), .val (.list (ls.map eS))] = .ok (.val (.bool b)) none ∧ (b = true ↔ Shown m (s + 2) ls) := by
  have k2 := trip_ok (n := n + 5) (m := m) (s := ((s + 2 : Nat) : Int)) h1 h8 (by omega) (by omega)
  rw [run_eq rfl rfl]
  show ∃ b, endF f13 (exs (Gm T wf sub (n + 8)) c13 [Vi m, Vi ((s + 2 : Nat) : Int), Vd (.list (ls.map eS)), none, none, none]) = _ ∧ _
  rw [c13]
  have z1 : ex1 (Gm T wf sub (n + 8)) q13_0 [Vi m, Vi ((s + 2 : Nat) : Int), Vd (.list (ls.map eS)), none, none, none] = .nx [Vi m, Vi ((s + 2 : Nat) : Int), Vd (.list (ls.map eS)), none, none, none] := expr_nx (evCall (v := .val (.tuple [.int m, .int ((s + 2 : Nat) : Int)])) (ds := []) (evr1 (evV rfl) rfl (evr1 (evV rfl) rfl evr0)) rfl k2)
  have z2 : ex1 (Gm T wf sub (n + 8)) q13_1 [Vi m, Vi ((s + 2 : Nat) : Int), Vd (.list (ls.map eS)), none, none, none] = .nx [Vi m, Vi ((s + 2 : Nat) : Int), Vd (.list (ls.map eS)), Od (ls.map eS), none, none] := asg_tmp (i := 3) (s1 := [Vi m, Vi ((s + 2 : Nat) : Int), Vd (.list (ls.map eS)), none, none, none]) (c := .lst (ls.map eS)) (evBlt1 (evV rfl) rfl rfl rfl) rfl .no
  have c1 : ev (Gm T wf sub (n + 8)) false (.comp E13_0 (.name 4) .seq [(.var 3)] none [4]) [Vi m, Vi ((s + 2 : Nat) : Int), Vd (.list (ls.map eS)), Od (ls.map eS), none, none] = .ok (.tmp (.lst (ls.map eS))) [Vi m, Vi ((s + 2 : Nat) : Int), Vd (.list (ls.map eS)), Vd (.list (ls.map eS)), none, none] :=
    compM (rs := [.bor 3]) (ds := [.list (ls.map eS)]) (s1 := [Vi m, Vi ((s + 2 : Nat) : Int), Vd (.list (ls.map eS)), Od (ls.map eS), none, none]) (s2 := [Vi m, Vi ((s + 2 : Nat) : Int), Vd (.list (ls.map eS)), Vd (.list (ls.map eS)), none, none]) (o := none) eS eS ls (evr1 (evBor rfl) rfl evr0) rfl rfl rfl rfl .no (by have := P.l; unfold big; omega) (fun x hx => evV rfl)
  have c2 : ∀ t, ev (Gm T wf sub (n + 8)) t (.cmp .ne (.var 3) (.lib .ssortT [(.comp E13_0 (.name 4) .seq [(.var 3)] none [4])])) [Vi m, Vi ((s + 2 : Nat) : Int), Vd (.list (ls.map eS)), Od (ls.map eS), none, none] = .ok (.val (.bool (!decide (ls = srtS (dst ls))))) [Vi m, Vi ((s + 2 : Nat) : Int), Vd (.list (ls.map eS)), Vd (.list (ls.map eS)), none, none] := fun t =>
    evCmpR (r1 := .bor 3) (x := .list (ls.map eS)) (y := .list ((srtS (dst ls)).map eS)) (evBor rfl) rfl (evLib1 c1 rfl rfl (ssortT_S P.b P.l)) rfl rfl (ne_SS _ _)
  have c3 : ev (Gm T wf sub (n + 8)) true (.cmp .notin (.tup [(.var 0), (.var 0), (.cst (.int 0))]) (.var 3)) [Vi m, Vi ((s + 2 : Nat) : Int), Vd (.list (ls.map eS)), Vd (.list (ls.map eS)), none, none] = .ok (.val (.bool (!decide (MP.start m ∈ ls)))) [Vi m, Vi ((s + 2 : Nat) : Int), Vd (.list (ls.map eS)), Vd (.list (ls.map eS)), none, none] := evCmp (x := eS (MP.start m)) (evTupS (evV rfl) evCst) (evV rfl) (notin_S _ ls)
  have c4 : ev (Gm T wf sub (n + 8)) true (.cmp .isin (.tup [(.cst (.int 0)), (.cst (.int 0)), (.cst (.int 1))]) (.var 3)) [Vi m, Vi ((s + 2 : Nat) : Int), Vd (.list (ls.map eS)), Vd (.list (ls.map eS)), none, none] = .ok (.val (.bool (decide ((0, 0, 1) ∈ ls)))) [Vi m, Vi ((s + 2 : Nat) : Int), Vd (.list (ls.map eS)), Vd (.list (ls.map eS)), none, none] := evCmp (x := eS (0, 0, 1)) (evTup3 evCst evCst evCst) (evV rfl) (inF_S _ ls)
  have c2 := c2 true
  by_cases ha : Asc ls
  · rw [decide_eq_true ((asc_set P.b).mpr ha)] at c2
    by_cases hst : MP.start m ∈ ls
    · rw [decide_eq_true hst] at c3
      by_cases hg : (0, 0, 1) ∈ ls
      · rw [decide_eq_true hg] at c4
        exact ⟨false, ends_nx z1 (ends_nx z2 (ends_ret (ite_yes (evOr c2 (evOr c3 c4)) (exs_ret (retV evCst))) rfl)), by simp [Shown, hg]⟩
      · rw [decide_eq_false hg] at c4
        rcases loop_find (body := fun se => exs (Gm T wf sub (n + 8)) L13_0 se) (t := .name 4) eS (fun st => ∃ o4, Fr o4 ∧ st = [Vi m, Vi ((s + 2 : Nat) : Int), Vd (.list (ls.map eS)), Vd (.list (ls.map eS)), o4, none]) (fun x => !fineF m (s + 2) ls x) (fun _ => .val (.bool false)) (by rintro st ⟨o4, f4, rfl⟩; exact f4.free rfl) ls [Vi m, Vi ((s + 2 : Nat) : Int), Vd (.list (ls.map eS)), Vd (.list (ls.map eS)), none, none] (by
          rintro x st hx ⟨o4, f4, rfl⟩
          refine ⟨[Vi m, Vi ((s + 2 : Nat) : Int), Vd (.list (ls.map eS)), Vd (.list (ls.map eS)), Vd (eS x), none], rfl, ?_⟩
          rcases fine_body (n := n) (ls := ls) (o2 := Vd (.list (ls.map eS))) h1 h8 hs3 (P.t x hx) with ⟨hf, e⟩ | ⟨hf, s', e⟩
          · exact .inl ⟨by rw [hf]; rfl, _, e, _, .v _, rfl⟩
          · exact .inr ⟨by rw [hf]; rfl, s', e⟩) ⟨none, .no, rfl⟩ with ⟨hn, s', e, o4, f4, rfl⟩ | ⟨x, s', hx, e⟩
        · refine ⟨true, ends_nx z1 (ends_nx z2 (ends_nx (ite_no (evOr c2 (evOr c3 c4))) (ends_nx (for_nx (evr1 (evV rfl) rfl evr0) rfl rfl rfl e) (ends_ret (retV evCst) rfl)))), ?_⟩
          refine ⟨fun _ => ⟨ha, hst, hg, fun x hx => ?_⟩, fun _ => rfl⟩
          have := List.find?_eq_none.mp hn x hx
          simpa using this
        · refine ⟨false, ends_nx z1 (ends_nx z2 (ends_nx (ite_no (evOr c2 (evOr c3 c4))) (ends_ret (for_any (evr1 (evV rfl) rfl evr0) rfl rfl rfl e) rfl))), Iff.intro (fun h => by cases h) (fun h => ?_)⟩
          have h2 := List.find?_some hx
          have h3 := h.2.2.2 x (List.mem_of_find?_eq_some hx)
          rw [h3] at h2
          cases h2
    · rw [decide_eq_false hst] at c3
      exact ⟨false, ends_nx z1 (ends_nx z2 (ends_ret (ite_yes (evOr c2 (evOrT c3)) (exs_ret (retV evCst))) rfl)), by simp [Shown, hst]⟩
  · rw [decide_eq_false (fun z => ha ((asc_set P.b).mp z))] at c2
    exact ⟨false, ends_nx z1 (ends_nx z2 (ends_ret (ite_yes (evOrT c2) (exs_ret (retV evCst))) rfl)), by simp [Shown, ha]⟩
end
end K66

set_option linter.all false
set_option maxRecDepth 100000
set_option maxHeartbeats 400000
namespace K66
open PySem MP
theorem nodup_take {A : Type} (d : A) : ∀ {l : List A}, (∀ k, k < l.length → l[k]?.getD d ∉ l.take k) ↔ l.Nodup := by
  intro l
  constructor
  · intro h
    rw [List.Nodup, List.pairwise_iff_getElem]
    intro i j hi hj hij e
    apply h j hj
    rw [List.getElem?_eq_getElem hj, Option.getD_some, ← e]
    rw [List.mem_take_iff_getElem]
    exact ⟨i, by omega, rfl⟩
  · intro h k hk hm
    rw [List.getElem?_eq_getElem hk, Option.getD_some, List.mem_take_iff_getElem] at hm
    obtain ⟨i, hi, e⟩ := hm
    rw [List.Nodup, List.pairwise_iff_getElem] at h
    exact h i k (by omega) hk (by omega) e
theorem shown_closed {m : Int} {s : Nat} {ls : List Sd} (h : Shown m s ls) : ∀ (p : List Ld) (here t : Sd), here ∈ ls → leadF m s here p = some t → t ∈ ls
  | [], here, t, hm, e => by cases e; exact hm
  | l :: p, here, t, hm, e => by
    unfold leadF at e
    split at e
    · rename_i hl
      cases ht : thereF m here l with
      | none => rw [ht] at e; cases e
      | some y =>
        rw [ht] at e
        have hy : y ∈ ls := by
          have := h.2.2.2 here hm
          unfold fineF at this
          rw [Bool.and_eq_true] at this
          exact of_decide_eq_true (List.all_eq_true.mp this.2 y (List.mem_filterMap.mpr ⟨l, hl, ht⟩))
        exact shown_closed h p y t hy e
    · cases e
def badL (m : Int) (ls : List Sd) (x : Sd) (l : Ld) : Bool := match thereF m x l with
  | some t => !decide (t ∈ ls)
  | none => false
theorem badL_iff {m : Int} {s : Nat} {ls : List Sd} {x : Sd} : (loadsF s).find? (badL m ls x) = none ↔ ((nextF m s x).all fun t => decide (t ∈ ls)) = true := by
  rw [List.find?_eq_none, List.all_eq_true]
  constructor
  · intro h t ht
    obtain ⟨l, hl, e⟩ := List.mem_filterMap.mp ht
    have := h l hl
    unfold badL at this
    rw [e] at this
    simpa using this
  · intro h l hl
    unfold badL
    cases e : thereF m x l with
    | none => simp
    | some t =>
      have := h t (List.mem_filterMap.mpr ⟨l, hl, e⟩)
      simp [of_decide_eq_true this]
section
variable {n : Nat}
abbrev e25 (m : Int) (s : Nat) (ls : List Sd) (o3 o4 o5 : Option (Mode × Cell)) : MP.Env := [Vi m, Vi ((s + 2 : Nat) : Int), Vd (.list (ls.map eS)), o3, o4, o5]
theorem shows_inner {m : Int} {s k : Nat} {ls : List Sd} {x : Sd} {o4 o5 : Option (Mode × Cell)} (hs3 : s < 3) (hx : ls[k]? = some x) (f4 : Fr o4) (f5 : Fr o5) : (((nextF m (s + 2) x).all fun t => decide (t ∈ ls)) = true ∧ ∃ q4 q5, Fr q4 ∧ Fr q5 ∧ ex1 (Gm T wf sub (n + 3)) (.for_ (.name 4) .seq [(.call 21 [(.var 1)] [])] L25_0) (e25 m s ls (Vi (k : Nat)) o4 o5) = .nx (e25 m s ls (Vi (k : Nat)) q4 q5)) ∨
    (((nextF m (s + 2) x).all fun t => decide (t ∈ ls)) = false ∧ ∃ s', ex1 (Gm T wf sub (n + 3)) (.for_ (.name 4) .seq [(.call 21 [(.var 1)] [])] L25_0) (e25 m s ls (Vi (k : Nat)) o4 o5) = .ret (.val (.bool false)) s') := by
  have kl := lloads_ok (n := n + 2) hs3
  have r1 : evr (Gm T wf sub (n + 3)) [(.call 21 [(.var 1)] [])] (e25 m s ls (Vi (k : Nat)) o4 o5) = .ok [.val (.list ((loadsF (s + 2)).map eP2))] (e25 m s ls (Vi (k : Nat)) o4 o5) := evr1 (evCall (v := .lst ((loadsF (s + 2)).map eP2)) (ds := []) (evr1 (evV rfl) rfl evr0) rfl kl) rfl evr0
  rcases loop_find (body := fun se => exs (Gm T wf sub (n + 3)) L25_0 se) (t := .name 4) eP2 (fun st => ∃ o4 o5, Fr o4 ∧ Fr o5 ∧ st = e25 m s ls (Vi (k : Nat)) o4 o5) (badL m ls x) (fun _ => .val (.bool false)) (by rintro st ⟨o4, o5, f4, f5, rfl⟩; exact f4.free rfl) (loadsF (s + 2)) (e25 m s ls (Vi (k : Nat)) o4 o5) (by
    rintro l st hl ⟨o4, o5, f4, f5, rfl⟩
    refine ⟨e25 m s ls (Vi (k : Nat)) (Vd (eP2 l)) o5, rfl, ?_⟩
    have k6 := lthere_ok (n := n + 1) (m := m) (st := x) (l := l)
    have b1 : ex1 (Gm T wf sub (n + 3)) (.asg 5 (.call 22 [(.var 0), (.idx (.var 2) (.var 3)), (.var 4)] [])) (e25 m s ls (Vi (k : Nat)) (Vd (eP2 l)) o5) = .nx (e25 m s ls (Vi (k : Nat)) (Vd (eP2 l)) (Vd (oS (thereF m x l)))) := asg_val (s1 := e25 m s ls (Vi (k : Nat)) (Vd (eP2 l)) o5) (o := o5) (evCall (v := .val (oS (thereF m x l))) (ds := []) (evr1 (evV rfl) rfl (evr1 (evIdx (x := .list (ls.map eS)) (y := .int (k : Nat)) (evV rfl) rfl (evV rfl) rfl rfl (idxM eS ls hx)) rfl (evr1 (evV rfl) rfl evr0))) rfl k6) rfl f5.c
    rw [L25_0]
    unfold badL
    cases ht : thereF m x l with
    | none =>
      rw [ht] at b1
      exact .inl ⟨rfl, _, ex_nx b1 (ex_nx (ite_no (evAndF (evIsN' (x := .none) (k := true) (evV rfl) rfl rfl))) rfl), _, _, .v _, .v _, rfl⟩
    | some t =>
      rw [ht] at b1
      have e1 : ev (Gm T wf sub (n + 3)) true (.isN (.var 5) true) (e25 m s ls (Vi (k : Nat)) (Vd (eP2 l)) (Vd (eS t))) = .ok (.val (.bool true)) (e25 m s ls (Vi (k : Nat)) (Vd (eP2 l)) (Vd (eS t))) := evIsN' (x := eS t) (k := true) (evV rfl) rfl rfl
      have e2 : ev (Gm T wf sub (n + 3)) true (.cmp .notin (.var 5) (.var 2)) (e25 m s ls (Vi (k : Nat)) (Vd (eP2 l)) (Vd (eS t))) = .ok (.val (.bool (!decide (t ∈ ls)))) (e25 m s ls (Vi (k : Nat)) (Vd (eP2 l)) (Vd (eS t))) := evCmp (x := eS t) (y := .list (ls.map eS)) (evV rfl) (evV rfl) (notin_S t ls)
      by_cases c : t ∈ ls
      · rw [decide_eq_true c] at e2
        exact .inl ⟨by simp [c], _, ex_nx b1 (ex_nx (ite_no (evAnd e1 e2)) rfl), _, _, .v _, .v _, rfl⟩
      · rw [decide_eq_false c] at e2
        exact .inr ⟨by simp [c], _, ex_nx b1 (exs_ret (ite_yes (evAnd e1 e2) (exs_ret (retV evCst))))⟩) ⟨o4, o5, f4, f5, rfl⟩ with ⟨hn, s', e, p4, p5, g4, g5, rfl⟩ | ⟨l, s', hl, e⟩
  · exact .inl ⟨badL_iff.mp hn, p4, p5, g4, g5, for_nx r1 rfl rfl rfl e⟩
  · refine .inr ⟨Bool.eq_false_iff.mpr fun z => ?_, s', for_any r1 rfl rfl rfl e⟩
    rw [badL_iff.mpr z] at hl
    cases hl
def firstBad (m : Int) (s : Nat) (ls : List Sd) (k : Nat) : Bool := !(decide (ls[k]?.getD (0, 0, 0) ∉ ls.take k) && fineF m s ls (ls[k]?.getD (0, 0, 0)))
theorem shows_ok {m : Int} {s : Nat} {ls : List Sd} (hs3 : s < 3) (P : Told ls) : ∃ b, run T wf sub (n + 4) 25 [.val (.int m), .val (.int ((s + 2 : Nat) : Int)), .val (.list (ls.map eS))] = .ok (.val (.bool b)) none ∧ (b = true ↔ Shown m (s + 2) ls) := by
  have hlen := P.l
  rw [run_eq rfl rfl]
  show ∃ b, endF f25 (exs (Gm T wf sub (n + 3)) c25 (e25 m s ls none none none)) = _ ∧ _
  rw [c25]
  have c3 : ev (Gm T wf sub (n + 3)) true (.cmp .notin (.tup [(.var 0), (.var 0), (.cst (.int 0))]) (.var 2)) (e25 m s ls none none none) = .ok (.val (.bool (!decide (MP.start m ∈ ls)))) (e25 m s ls none none none) := evCmp (x := eS (MP.start m)) (evTupS (evV rfl) evCst) (evV rfl) (notin_S _ ls)
  have c4 : ev (Gm T wf sub (n + 3)) true (.cmp .isin (.tup [(.cst (.int 0)), (.cst (.int 0)), (.cst (.int 1))]) (.var 2)) (e25 m s ls none none none) = .ok (.val (.bool (decide ((0, 0, 1) ∈ ls)))) (e25 m s ls none none none) := evCmp (x := eS (0, 0, 1)) (evTup3 evCst evCst evCst) (evV rfl) (inF_S _ ls)
  have c5 : ev (Gm T wf sub (n + 3)) true (.cmp .ne (.var 2) (.lib .sortD [(.var 2)])) (e25 m s ls none none none) = .ok (.val (.bool (!decide (ls = srtS ls)))) (e25 m s ls none none none) := evCmpR (x := .list (ls.map eS)) (y := .list ((srtS ls).map eS)) (evV rfl) rfl (evLib1 (evV rfl) rfl rfl (sortD_S P.b (by unfold big; omega))) rfl rfl (ne_SS _ _)
  by_cases hst : MP.start m ∈ ls
  · rw [decide_eq_true hst] at c3
    by_cases hg : (0, 0, 1) ∈ ls
    · rw [decide_eq_true hg] at c4
      exact ⟨false, ends_ret (ite_yes (evOr c3 (evOrT c4)) (exs_ret (retV evCst))) rfl, by simp [Shown, hg]⟩
    · rw [decide_eq_false hg] at c4
      by_cases ha : ls = srtS ls
      · rw [decide_eq_true ha] at c5
        have hpw := (asc_srt P.b).mp ha
        have r1 : evr (Gm T wf sub (n + 3)) [(.blt .len [(.var 2)])] (e25 m s ls none none none) = .ok [.val (.int (ls.length : Nat))] (e25 m s ls none none none) := evr1 (evBlt1 (evV rfl) rfl rfl (lenM eS ls)) rfl evr0
        rcases loop_find (body := fun se => exs (Gm T wf sub (n + 3)) L25_1 se) (t := .name 3) (fun (k : Nat) => PyData.int k) (fun st => ∃ o3 o4 o5, Fr o3 ∧ Fr o4 ∧ Fr o5 ∧ st = e25 m s ls o3 o4 o5) (firstBad m (s + 2) ls) (fun _ => .val (.bool false)) (by rintro st ⟨o3, o4, o5, f3, f4, f5, rfl⟩; exact f3.free rfl) (List.range ls.length) (e25 m s ls none none none) (by
          rintro k st hk ⟨o3, o4, o5, f3, f4, f5, rfl⟩
          have hk := List.mem_range.mp hk
          obtain ⟨x, hx⟩ : ∃ x, ls[k]? = some x := ⟨_, List.getElem?_eq_getElem hk⟩
          refine ⟨e25 m s ls (Vi (k : Nat)) o4 o5, rfl, ?_⟩
          have i0 : ev (Gm T wf sub (n + 3)) false (.idx (.var 2) (.var 3)) (e25 m s ls (Vi (k : Nat)) o4 o5) = .ok (.val (eS x)) (e25 m s ls (Vi (k : Nat)) o4 o5) := evIdx (x := .list (ls.map eS)) (y := .int (k : Nat)) (evV rfl) rfl (evV rfl) rfl rfl (idxM eS ls hx)
          have i1 : ev (Gm T wf sub (n + 3)) true (.cmp .isin (.idx (.var 2) (.var 3)) (.slc (.var 2) none (some (.var 3)))) (e25 m s ls (Vi (k : Nat)) o4 o5) = .ok (.val (.bool (decide (x ∈ ls.take k)))) (e25 m s ls (Vi (k : Nat)) o4 o5) := evCmpR (x := eS x) (y := .list ((ls.take k).map eS)) i0 rfl (evSlc2 (x := .list (ls.map eS)) (z := (k : Nat)) (evV rfl) rfl (evV rfl) rfl (slcT eS ls k)) rfl rfl (inF_S x _)
          have k3 := lsafe_ok (n := n + 2) (m := m) (a := x.1) (b := x.2.1)
          have i2 : ev (Gm T wf sub (n + 3)) true (.notE (.call 20 [(.var 0), (.slc (.idx (.var 2) (.var 3)) none (some (.cst (.int 2))))] [])) (e25 m s ls (Vi (k : Nat)) o4 o5) = .ok (.val (.bool (!safeF m (x.1, x.2.1)))) (e25 m s ls (Vi (k : Nat)) o4 o5) :=
            evNot (evCallT (ds := []) (evr1 (evV rfl) rfl (evr1 (evSlc2 (x := eS x) (r := .val (.tuple [.int x.1, .int x.2.1])) i0 rfl evCst rfl rfl) rfl evr0)) rfl k3)
          rw [L25_1]
          unfold firstBad
          rw [hx, Option.getD_some]
          by_cases d1 : x ∈ ls.take k
          · rw [decide_eq_true d1] at i1
            exact .inr ⟨by simp [d1], _, exs_ret (ite_yes (evOrT i1) (exs_ret (retV evCst)))⟩
          · rw [decide_eq_false d1] at i1
            cases d2 : safeF m (x.1, x.2.1) with
            | false =>
              rw [d2] at i2
              exact .inr ⟨by simp [fineF, d2], _, exs_ret (ite_yes (evOr i1 i2) (exs_ret (retV evCst)))⟩
            | true =>
              rw [d2] at i2
              rcases shows_inner (n := n) (m := m) (s := s) (k := k) hs3 hx f4 f5 with ⟨ha, p4, p5, g4, g5, e⟩ | ⟨ha, s', e⟩
              · exact .inl ⟨by rw [fineF, d2, ha]; simp [d1], _, ex_nx (ite_no (evOr i1 i2)) (ex_nx e rfl), _, _, _, .v _, g4, g5, rfl⟩
              · exact .inr ⟨by rw [fineF, d2, ha]; simp, s', ex_nx (ite_no (evOr i1 i2)) (exs_ret e)⟩) ⟨none, none, none, .no, .no, .no, rfl⟩ with ⟨hn, s', e, o3, o4, o5, _, _, _, rfl⟩ | ⟨k, s', hk, e⟩
        · refine ⟨true, ends_nx (ite_no (evOr c3 (evOr c4 c5))) (ends_nx (for_nx r1 rfl (itR (by omega)) rfl e) (ends_ret (retV evCst) rfl)), ?_⟩
          refine Iff.intro (fun _ => ?_) (fun _ => rfl)
          have hk : ∀ k, k < ls.length → ls[k]?.getD (0, 0, 0) ∉ ls.take k ∧ fineF m (s + 2) ls (ls[k]?.getD (0, 0, 0)) = true := fun k hk => by
            have := List.find?_eq_none.mp hn k (List.mem_range.mpr hk)
            unfold firstBad at this
            simpa using this
          refine ⟨(asc_two P.b).mpr ⟨hpw, (nodup_take (0, 0, 0)).mp fun k h => (hk k h).1⟩, hst, hg, fun x hx => ?_⟩
          obtain ⟨k, hk', e⟩ := List.getElem_of_mem hx
          have := (hk k hk').2
          rw [List.getElem?_eq_getElem hk', Option.getD_some, e] at this
          exact this
        · refine ⟨false, ends_nx (ite_no (evOr c3 (evOr c4 c5))) (ends_ret (for_any r1 rfl (itR (by omega)) rfl e) rfl), Iff.intro (fun h => by cases h) (fun h => ?_)⟩
          have h2 := List.find?_some hk
          have hk := List.mem_range.mp (List.mem_of_find?_eq_some hk)
          unfold firstBad at h2
          rw [decide_eq_true ((nodup_take (0, 0, 0)).mpr ((asc_two P.b).mp h.1).2 k hk), h.2.2.2 _ (by rw [List.getElem?_eq_getElem hk, Option.getD_some]; exact List.getElem_mem hk)] at h2
          cases h2
      · rw [decide_eq_false ha] at c5
        refine ⟨false, ends_ret (ite_yes (evOr c3 (evOr c4 c5)) (exs_ret (retV evCst))) rfl, Iff.intro (fun h => by cases h) (fun h => absurd ((asc_srt P.b).mpr ((asc_two P.b).mp h.1).1) ha)⟩
  · rw [decide_eq_false hst] at c3
    exact ⟨false, ends_ret (ite_yes (evOrT c3) (exs_ret (retV evCst))) rfl, by simp [Shown, hst]⟩
/-! ### refused -/
def badN (d e : D) : Prop := numF d 1 8 = false ∨ numF e 2 8 = false
theorem trip_bad {d e : D} (h : badN d e) : run T wf sub (n + 3) 2 [.val d, .val e] = .ex 1 .none none := by
  rw [trip_any]
  rcases h with h | h
  · rw [if_neg (by rw [h]; exact Bool.false_ne_true)]
  · split
    · rw [if_neg (by rw [h]; exact Bool.false_ne_true)]
    · rfl
theorem plan_bad {d e : D} (h : badN d e) : run T wf sub (n + 4) 9 [.val d, .val e] = .ex 1 .none none := by
  rw [run_eq rfl rfl]
  show endF f9 (exs (Gm T wf sub (n + 3)) c9 [Vd d, Vd e, none, none, none, none, none, none, none]) = _
  rw [c9]
  exact ends_ex (expr_ex (evCallX (ds := []) (evr1 (evV rfl) rfl (evr1 (evV rfl) rfl evr0)) rfl (trip_bad h))) rfl
theorem can_bad {d e : D} (h : badN d e) : run T wf sub (n + 4) 11 [.val d, .val e] = .ex 1 .none none := by
  rw [run_eq rfl rfl]
  show endF f11 (exs (Gm T wf sub (n + 3)) c11 [Vd d, Vd e]) = _
  rw [c11]
  exact ends_ex (expr_ex (evCallX (ds := []) (evr1 (evV rfl) rfl (evr1 (evV rfl) rfl evr0)) rfl (trip_bad h))) rfl
theorem reached_bad {d e : D} (h : badN d e) : run T wf sub (n + 4) 14 [.val d, .val e] = .ex 1 .none none := by
  rw [run_eq rfl rfl]
  show endF f14 (exs (Gm T wf sub (n + 3)) c14 [Vd d, Vd e, none, none, none]) = _
  rw [c14]
  exact ends_ex (expr_ex (evCallX (ds := []) (evr1 (evV rfl) rfl (evr1 (evV rfl) rfl evr0)) rfl (trip_bad h))) rfl
theorem refused_ok {d e : D} {c : Int} (hc : c = 0 ∨ c = 1 ∨ c = 2 ∨ c = 3) (h : badN d e) : run T wf sub (n + 5) 26 [.val (.int c), .val d, .val e] = .ok (.val (.bool true)) none := by
  have k0 := trip_bad (n := n + 1) h
  have k1 := plan_bad (n := n) h
  have k2 := can_bad (n := n) h
  have k3 := reached_bad (n := n) h
  rw [run_eq rfl rfl]
  show endF f26 (exs (Gm T wf sub (n + 4)) c26 [Vi c, Vd d, Vd e, none]) = _
  rw [c26, q26_0]
  have e0 : ev (Gm T wf sub (n + 4)) false (.call 2 [(.var 1), (.var 2)] []) [Vi c, Vd d, Vd e, none] = .ex 1 .none [Vi c, Vd d, Vd e, none] := evCallX (ds := []) (evr1 (evV rfl) rfl (evr1 (evV rfl) rfl evr0)) rfl k0
  have e1 : ev (Gm T wf sub (n + 4)) false (.call 9 [(.var 1), (.var 2)] []) [Vi c, Vd d, Vd e, none] = .ex 1 .none [Vi c, Vd d, Vd e, none] := evCallX (ds := []) (evr1 (evV rfl) rfl (evr1 (evV rfl) rfl evr0)) rfl k1
  have e2 : ev (Gm T wf sub (n + 4)) false (.call 11 [(.var 1), (.var 2)] []) [Vi c, Vd d, Vd e, none] = .ex 1 .none [Vi c, Vd d, Vd e, none] := evCallX (ds := []) (evr1 (evV rfl) rfl (evr1 (evV rfl) rfl evr0)) rfl k2
  have e3 : ev (Gm T wf sub (n + 4)) false (.call 14 [(.var 1), (.var 2)] []) [Vi c, Vd d, Vd e, none] = .ex 1 .none [Vi c, Vd d, Vd e, none] := evCallX (ds := []) (evr1 (evV rfl) rfl (evr1 (evV rfl) rfl evr0)) rfl k3
  have x1 : ∀ {A : MP.E} {s s1 : MP.Env}, ev (Gm T wf sub (n + 4)) false A s = .ex 1 .none s1 → exs (Gm T wf sub (n + 4)) [.expr A] s = .ex 1 .none s1 := fun h => by
    rw [exs, expr_ex h]
    rfl
  have q : ∀ z : Int, ev (Gm T wf sub (n + 4)) true (.cmp .eq (.var 0) (.cst (.int z))) [Vi c, Vd d, Vd e, none] = .ok (.val (.bool (decide (c = z)))) [Vi c, Vd d, Vd e, none] := fun z => evCmp (evV rfl) evCst (eqF_int _ _)
  have xe : ∀ {C : MP.E} {A B : List MP.S} {s s1 : MP.Env}, ex1 (Gm T wf sub (n + 4)) (.ite C A B) s = .ex 1 .none s1 → exs (Gm T wf sub (n + 4)) [.ite C A B] s = .ex 1 .none s1 := fun h => by
    rw [exs, h]
    rfl
  have key : exs (Gm T wf sub (n + 4)) [.ite (.cmp .eq (.var 0) (.cst (.int 0))) [.expr (.call 2 [(.var 1), (.var 2)] [])] [.ite (.cmp .eq (.var 0) (.cst (.int 1))) [.expr (.call 9 [(.var 1), (.var 2)] [])] [.ite (.cmp .eq (.var 0) (.cst (.int 2))) [.expr (.call 11 [(.var 1), (.var 2)] [])] [.expr (.call 14 [(.var 1), (.var 2)] [])]]]] [Vi c, Vd d, Vd e, none] = .ex 1 .none [Vi c, Vd d, Vd e, none] := by
    rcases hc with rfl | rfl | rfl | rfl
    · exact xe (ite_yes (q 0) (x1 e0))
    · exact xe (ite_els (q 0) (xe (ite_yes (q 1) (x1 e1))))
    · exact xe (ite_els (q 0) (xe (ite_els (q 1) (xe (ite_yes (q 2) (x1 e2))))))
    · exact xe (ite_els (q 0) (xe (ite_els (q 1) (xe (ite_els (q 2) (x1 e3))))))
  refine ends_ret (v := .val (.bool true)) (s1 := [Vi c, Vd d, Vd e, none]) ?_ rfl
  rw [ex1, key]
  rfl
end
end K66

set_option linter.all false
set_option maxRecDepth 100000
set_option maxHeartbeats 400000
namespace K66
open PySem MP
/-- a list of the frame's own, or one that is frozen -/
def At2 {A : Type} (f : A → D) (l : List A) (o : Option (Mode × Cell)) : Prop := o = Od (l.map f) ∨ o = Vd (.list (l.map f))
theorem At2.c {A : Type} {f : A → D} {l : List A} {o : Option (Mode × Cell)} (h : At2 f l o) : FrC o := by
  rcases h with rfl | rfl <;> exact .c _
theorem At2.ev {A : Type} {f : A → D} {l : List A} {o : Option (Mode × Cell)} (h : At2 f l o) {Γ : Cfg} {s : MP.Env} {i : Nat} (hi : s[i]? = some o) : ∃ r, MP.ev Γ false (.var i) s = .ok r s ∧ hold r = some r ∧ look s r = some (.list (l.map f)) ∧ frz s r = some (.list (l.map f), s.set i (Vd (.list (l.map f)))) := by
  rcases h with rfl | rfl
  · exact ⟨.bor i, evBor hi, rfl, by simp [look, hi, Cell.d?], by simp [frz, hi, Cell.d?]⟩
  · exact ⟨.val _, evV hi, rfl, rfl, by rw [set_self hi]; rfl⟩
theorem addN1 (a : Nat) : binF .add (.int (a : Nat)) (.int 1) = some (.val (.int ((a + 1 : Nat) : Int))) := rfl
def outL {A : Type} (l : List A) (a : Nat) : List A := l.take a ++ l.drop (a + 1)
def insL {A : Type} (l : List A) (a : Nat) (x : A) : List A := l.take a ++ [x] ++ l.drop a
def putL {A : Type} (l : List A) (a : Nat) (x : A) : List A := l.take a ++ [x] ++ l.drop (a + 1)
section
variable {A : Type} {f : A → D} {l : List A} {o : Option (Mode × Cell)} {Γ : Cfg} {s : MP.Env} {i j a : Nat} {x : A} {e : MP.E}
theorem ev_take (h : At2 f l o) (hi : s[i]? = some o) (hj : s[j]? = some (Vi (a : Nat))) : ev Γ false (.slc (.var i) none (some (.var j))) s = .ok (.tmp (.lst ((l.take a).map f))) s := by
  obtain ⟨r, h1, h2, h3, _⟩ := h.ev (Γ := Γ) hi
  exact evSlc2 (z := (a : Int)) h1 h2 (evV hj) h3 (slcT f l a)
theorem ev_drop (h : At2 f l o) (hi : s[i]? = some o) (hj : s[j]? = some (Vi (a : Nat))) : ev Γ false (.slc (.var i) (some (.var j)) none) s = .ok (.tmp (.lst ((l.drop a).map f))) s := by
  obtain ⟨r, h1, h2, h3, _⟩ := h.ev (Γ := Γ) hi
  exact evSlc1 (z := (a : Int)) h1 h2 (evV hj) h3 (slcD f l a)
theorem ev_drop1 (h : At2 f l o) (hi : s[i]? = some o) (hj : s[j]? = some (Vi (a : Nat))) : ev Γ false (.slc (.var i) (some (.bin .add (.var j) (.cst (.int 1)))) none) s = .ok (.tmp (.lst ((l.drop (a + 1)).map f))) s := by
  obtain ⟨r, h1, h2, h3, _⟩ := h.ev (Γ := Γ) hi
  exact evSlc1 (z := ((a + 1 : Nat) : Int)) h1 h2 (evB (evV hj) evCst (addN1 a)) h3 (slcD f l (a + 1))
theorem ev_out (hl : l.length ≤ 1000) (h : At2 f l o) (hi : s[i]? = some o) (hj : s[j]? = some (Vi (a : Nat))) : ev Γ false (.bin .add (.slc (.var i) none (some (.var j))) (.slc (.var i) (some (.bin .add (.var j) (.cst (.int 1)))) none)) s = .ok (.tmp (.lst ((outL l a).map f))) s :=
  evBR (op := .add) (ev_take h hi hj) rfl (ev_drop1 h hi hj) rfl rfl (addM f (by rw [List.length_take, List.length_drop]; unfold big; omega))
theorem ev_one (he : ev Γ false e s = .ok (.val (f x)) s) : ev Γ false (.list [e]) s = .ok (.tmp (.lst ([x].map f))) s := by
  rw [ev, fin_false]
  simp only [evs, he, R.bind, frz]
  rfl
theorem ev_ins (hl : l.length ≤ 1000) (h : At2 f l o) (hi : s[i]? = some o) (hj : s[j]? = some (Vi (a : Nat))) (he : ev Γ false e s = .ok (.val (f x)) s) : ev Γ false (.bin .add (.bin .add (.slc (.var i) none (some (.var j))) (.list [e])) (.slc (.var i) (some (.var j)) none)) s = .ok (.tmp (.lst ((insL l a x).map f))) s :=
  evBR (op := .add) (evBR (op := .add) (ev_take h hi hj) rfl (ev_one he) rfl rfl (addM f (x := l.take a) (y := [x]) (by simp only [List.length_take, List.length_cons, List.length_nil]; unfold big; omega))) rfl (ev_drop h hi hj) rfl rfl (addM f (x := l.take a ++ [x]) (y := l.drop a) (by simp only [List.length_append, List.length_take, List.length_drop, List.length_cons, List.length_nil]; unfold big; omega))
theorem ev_put (hl : l.length ≤ 1000) (h : At2 f l o) (hi : s[i]? = some o) (hj : s[j]? = some (Vi (a : Nat))) (he : ev Γ false e s = .ok (.val (f x)) s) : ev Γ false (.bin .add (.bin .add (.slc (.var i) none (some (.var j))) (.list [e])) (.slc (.var i) (some (.bin .add (.var j) (.cst (.int 1)))) none)) s = .ok (.tmp (.lst ((putL l a x).map f))) s :=
  evBR (op := .add) (evBR (op := .add) (ev_take h hi hj) rfl (ev_one he) rfl rfl (addM f (x := l.take a) (y := [x]) (by simp only [List.length_take, List.length_cons, List.length_nil]; unfold big; omega))) rfl (ev_drop1 h hi hj) rfl rfl (addM f (x := l.take a ++ [x]) (y := l.drop (a + 1)) (by simp only [List.length_append, List.length_take, List.length_drop, List.length_cons, List.length_nil]; unfold big; omega))
theorem ev_rev (h : At2 f l o) (hi : s[i]? = some o) : ev Γ false (.lib .lrev [(.var i)]) s = .ok (.tmp (.lst (l.reverse.map f))) s := by
  obtain ⟨r, h1, h2, h3, _⟩ := h.ev (Γ := Γ) hi
  exact evLib1 h1 h2 h3 (by rw [List.map_reverse]; rfl)
theorem ev_len (h : At2 f l o) (hi : s[i]? = some o) : ev Γ false (.blt .len [(.var i)]) s = .ok (.val (.int (l.length : Nat))) s := by
  obtain ⟨r, h1, h2, h3, _⟩ := h.ev (Γ := Γ) hi
  exact evBlt1 h1 h2 h3 (lenM f l)
theorem ev_four {A B C E4 : MP.E} {x1 x2 x3 x4 : List D} (h1 : ev Γ false A s = .ok (.tmp (.lst x1)) s) (h2 : ev Γ false B s = .ok (.tmp (.lst x2)) s) (h3 : ev Γ false C s = .ok (.tmp (.lst x3)) s) (h4 : ev Γ false E4 s = .ok (.tmp (.lst x4)) s) : ev Γ false (.list [A, B, C, E4]) s = .ok (.tmp (.lst [.list x1, .list x2, .list x3, .list x4])) s := by
  rw [ev, fin_false]
  simp only [evs, h1, h2, h3, h4, R.bind, frz, Cell.d?, Option.map_some]
end
abbrev Mi (m : Nat) : Int := (m : Int) + 1
abbrev Si (s : Nat) : Int := ((s + 2 : Nat) : Int)
abbrev Wt (m s : Nat) : Wy := waysT (Mi m) (s + 2)
abbrev du (m s : Nat) : Option (List Ld) := dueT (Mi m) (s + 2)
abbrev St (m s : Nat) : List Sd := standsT (Mi m) (s + 2)
abbrev Vb (b : Bool) : Option (Mode × Cell) := some (.fr, .val (.bool b))
abbrev e27 (sc : D) (m s : Nat) (ps : List D) (o8 o9 o10 o11 o12 o13 o14 o15 o16 : Option (Mode × Cell)) : MP.Env := [Vd sc, Od ps, Vi (Mi m), Vi (Si s), Dw (Wt m s), Vb (du m s).isSome, Vd (oL (du m s)), Vd (.list ((St m s).map eS)), o8, o9, o10, o11, o12, o13, o14, o15, o16]
section
variable {n : Nat} {sc : D}
abbrev G (n : Nat) : Cfg := Gm T wf sub (n + 9)
theorem some_body {m s : Nat} {ps : List D} {l : List Ld} {o8 o9 o10 o11 o12 o13 o14 o15 o16 : Option (Mode × Cell)} (hs3 : s < 3) (hl : l.length ≤ 500) (ok : PoolOk ps) (h9 : At2 eP2 l o9) (f11 : FrC o11) (f12 : FrC o12) : ∃ ps' l' o9' o11' o12', PoolOk ps' ∧ l'.length ≤ l.length + 1 ∧ At2 eP2 l' o9' ∧ FrC o11' ∧ FrC o12' ∧
    exs (G n) L27_0 (e27 sc m s ps o8 o9 o10 o11 o12 o13 o14 o15 o16) = .nx (e27 sc m s ps' o8 o9' o10 o11' o12' o13 o14 o15 o16) := by
  rw [L27_0]
  obtain ⟨z, p2, e2, z0, z1, ok2⟩ := draw_at (T := T) (wf := wf) (sub := sub) (n := n + 8) (jd := 18) (i := 1) (md := .fr) (s := e27 sc m s ps o8 o9 o10 o11 o12 o13 o14 o15 o16) (F := fun q => e27 sc m s q o8 o9 o10 o11 o12 o13 o14 o15 o16) (e := .bin .add (.blt .len [.var 9]) (.cst (.int 1))) (m := ((l.length + 1 : Nat) : Int)) rfl rfl (evB (ev_len h9 rfl) evCst (addN1 _)) rfl (by decide) (fun _ => rfl) (by omega) (by omega) ok
  obtain ⟨a, rfl⟩ : ∃ a : Nat, z = a := ⟨z.toNat, by omega⟩
  have b1 : ex1 (G n) (.asg 11 (.call 18 [(.var 1), (.bin .add (.blt .len [(.var 9)]) (.cst (.int 1)))] [])) (e27 sc m s ps o8 o9 o10 o11 o12 o13 o14 o15 o16) = .nx (e27 sc m s p2 o8 o9 o10 (Vi (a : Nat)) o12 o13 o14 o15 o16) := asg_val (s1 := e27 sc m s p2 o8 o9 o10 o11 o12 o13 o14 o15 o16) (o := o11) e2 rfl f11
  -- a load
  have kl := lloads_ok (n := n + 8) hs3
  have hb := fact_loads s hs3
  have i1 : ev (G n) false (.list [(.tup [(.cst (.int 0)), (.cst (.int 0))]), (.tup [(.cst (.int 1)), (.cst (.int 2))]), (.tup [(.var 3), (.cst (.int 1))])]) (e27 sc m s p2 o8 o9 o10 (Vi (a : Nat)) o12 o13 o14 o15 o16) = .ok (.tmp (.lst (([(0, 0), (1, 2), (Si s, 1)] : List Ld).map eP2))) (e27 sc m s p2 o8 o9 o10 (Vi (a : Nat)) o12 o13 o14 o15 o16) := by
    have h1 : ev (G n) false (.tup [(.cst (.int 0)), (.cst (.int 0))]) (e27 sc m s p2 o8 o9 o10 (Vi (a : Nat)) o12 o13 o14 o15 o16) = .ok (.val (eP2 (0, 0))) (e27 sc m s p2 o8 o9 o10 (Vi (a : Nat)) o12 o13 o14 o15 o16) := evTup2 evCst evCst
    have h2 : ev (G n) false (.tup [(.cst (.int 1)), (.cst (.int 2))]) (e27 sc m s p2 o8 o9 o10 (Vi (a : Nat)) o12 o13 o14 o15 o16) = .ok (.val (eP2 (1, 2))) (e27 sc m s p2 o8 o9 o10 (Vi (a : Nat)) o12 o13 o14 o15 o16) := evTup2 evCst evCst
    have h3 : ev (G n) false (.tup [(.var 3), (.cst (.int 1))]) (e27 sc m s p2 o8 o9 o10 (Vi (a : Nat)) o12 o13 o14 o15 o16) = .ok (.val (eP2 (Si s, 1))) (e27 sc m s p2 o8 o9 o10 (Vi (a : Nat)) o12 o13 o14 o15 o16) := evTup2 (evV rfl) evCst
    rw [ev, fin_false]
    simp only [evs, h1, h2, h3, R.bind, frz]
    rfl
  have i2 : ev (G n) false (.bin .add (.call 21 [(.var 3)] []) (.list [(.tup [(.cst (.int 0)), (.cst (.int 0))]), (.tup [(.cst (.int 1)), (.cst (.int 2))]), (.tup [(.var 3), (.cst (.int 1))])])) (e27 sc m s p2 o8 o9 o10 (Vi (a : Nat)) o12 o13 o14 o15 o16) = .ok (.tmp (.lst ((loadsF (s + 2) ++ [(0, 0), (1, 2), (Si s, 1)]).map eP2))) (e27 sc m s p2 o8 o9 o10 (Vi (a : Nat)) o12 o13 o14 o15 o16) :=
    evBR (op := .add) (r1 := .val (.list ((loadsF (s + 2)).map eP2))) (evCall (v := .lst ((loadsF (s + 2)).map eP2)) (ds := []) (evr1 (evV rfl) rfl evr0) rfl kl) rfl i1 rfl rfl (addM eP2 (by show (loadsF (s + 2)).length + 3 ≤ big; unfold big; omega))
  obtain ⟨i3, hi3, p3, e3, ok3⟩ := pick_at (T := T) (wf := wf) (sub := sub) (n := n + 7) (jp := 19) (jd := 18) (i := 1) (md := .fr) (F := fun q => e27 sc m s q o8 o9 o10 (Vi (a : Nat)) o12 o13 o14 o15 o16) rfl rfl rfl i2 rfl (by decide) rfl rfl (fun _ => rfl) (by simp) (by rw [List.length_map, List.length_append]; show (loadsF (s + 2)).length + 3 < 2 ^ 60; omega) ok2 (by simp)
  rw [List.getElem_map] at e3
  generalize (loadsF (s + 2) ++ [(0, 0), (1, 2), (Si s, 1)])[i3]'(by rw [List.length_map] at hi3; exact hi3) = x at e3
  have b2 : ex1 (G n) (.asg 12 (.call 19 [(.var 1), (.bin .add (.call 21 [(.var 3)] []) (.list [(.tup [(.cst (.int 0)), (.cst (.int 0))]), (.tup [(.cst (.int 1)), (.cst (.int 2))]), (.tup [(.var 3), (.cst (.int 1))])]))] [])) (e27 sc m s p2 o8 o9 o10 (Vi (a : Nat)) o12 o13 o14 o15 o16) = .nx (e27 sc m s p3 o8 o9 o10 (Vi (a : Nat)) (Vd (eP2 x)) o13 o14 o15 o16) := asg_val (s1 := e27 sc m s p3 o8 o9 o10 (Vi (a : Nat)) o12 o13 o14 o15 o16) (o := o12) e3 rfl f12
  -- the list
  have hl' : l.length ≤ 1000 := by omega
  have q0 : ev (G n) false (.var 12) (e27 sc m s p3 o8 o9 o10 (Vi (a : Nat)) (Vd (eP2 x)) o13 o14 o15 o16) = .ok (.val (eP2 x)) (e27 sc m s p3 o8 o9 o10 (Vi (a : Nat)) (Vd (eP2 x)) o13 o14 o15 o16) := evV rfl
  have q5 := ev_four (Γ := G n) (s := e27 sc m s p3 o8 o9 o10 (Vi (a : Nat)) (Vd (eP2 x)) o13 o14 o15 o16) (ev_out (i := 9) (j := 11) (a := a) hl' h9 rfl rfl) (ev_ins (i := 9) (j := 11) (a := a) hl' h9 rfl rfl q0) (ev_put (i := 9) (j := 11) (a := a) hl' h9 rfl rfl q0) (ev_rev (i := 9) h9 rfl)
  obtain ⟨i6, hi6, p4, e6, ok4⟩ := pick_at (T := T) (wf := wf) (sub := sub) (n := n + 7) (jp := 19) (jd := 18) (i := 1) (md := .fr) (F := fun q => e27 sc m s q o8 o9 o10 (Vi (a : Nat)) (Vd (eP2 x)) o13 o14 o15 o16) rfl rfl rfl q5 rfl (by decide) rfl rfl (fun _ => rfl) (by simp) (by simp) ok3 (by simp)
  have hd : ∀ d ∈ [PyData.list ((outL l a).map eP2), .list ((insL l a x).map eP2), .list ((putL l a x).map eP2), .list (l.reverse.map eP2)], ∃ l' : List Ld, l'.length ≤ l.length + 1 ∧ d = .list (l'.map eP2) := by
    intro d hd
    simp only [List.mem_cons, List.not_mem_nil, or_false] at hd
    rcases hd with rfl | rfl | rfl | rfl
    · exact ⟨_, by unfold outL; rw [List.length_append, List.length_take, List.length_drop]; omega, rfl⟩
    · exact ⟨_, by unfold insL; simp only [List.length_append, List.length_take, List.length_drop, List.length_cons, List.length_nil]; omega, rfl⟩
    · exact ⟨_, by unfold putL; simp only [List.length_append, List.length_take, List.length_drop, List.length_cons, List.length_nil]; omega, rfl⟩
    · exact ⟨_, by rw [List.length_reverse]; omega, rfl⟩
  obtain ⟨l', hll, hd⟩ := hd _ (List.getElem_mem hi6)
  rw [hd] at e6
  exact ⟨p4, l', Vd (.list (l'.map eP2)), Vi (a : Nat), Vd (eP2 x), ok4, hll, .inr rfl, .c _, .c _, ex_nx b1 (ex_nx b2 (ex_nx (asg_val (s1 := e27 sc m s p4 o8 o9 o10 (Vi (a : Nat)) (Vd (eP2 x)) o13 o14 o15 o16) (o := o9) e6 rfl h9.c) rfl))⟩
/-- stands that may be told -/
structure Tl (m : Int) (ls : List Sd) (c : Nat) : Prop where
  b : ∀ x ∈ ls, Bnd x
  t : ∀ x ∈ ls, x.2.2 = 0 ∨ x.2.2 = 1
  l : ls.length ≤ c
theorem Tl.sub {m : Int} {ls ks : List Sd} {b c : Nat} (h : Tl m ls b) (hs : ∀ x ∈ ks, x ∈ ls) (hl : ks.length ≤ c) : Tl m ks c := ⟨fun x hx => h.b x (hs x hx), fun x hx => h.t x (hs x hx), hl⟩
theorem Tl.told {m : Int} {ls : List Sd} {b : Nat} (h : Tl m ls b) (hb : b ≤ 60) : Told ls := ⟨h.b, h.t, Nat.le_trans h.l hb⟩
theorem part_body {m s : Nat} {ps : List D} {l : List Sd} {b : Nat} {o8 o9 o10 o11 o12 o13 o14 o15 o16 : Option (Mode × Cell)} (hm : m < 6) (hb : b ≤ 500) (H : Tl (Mi m) l b) (ok : PoolOk ps) (h14 : At2 eS l o14) (f11 : FrC o11) : ∃ ps' l' o14' o11', PoolOk ps' ∧ Tl (Mi m) l' (b + 1) ∧ At2 eS l' o14' ∧ FrC o11' ∧
    exs (G n) L27_1 (e27 sc m s ps o8 o9 o10 o11 o12 o13 o14 o15 o16) = .nx (e27 sc m s ps' o8 o9 o10 o11' o12 o13 o14' o15 o16) := by
  rw [L27_1]
  have hl := H.l
  have c0 : ev (G n) true (.cmp .gt (.blt .len [(.var 14)]) (.cst (.int 0))) (e27 sc m s ps o8 o9 o10 o11 o12 o13 o14 o15 o16) = .ok (.val (.bool (decide ((0 : Int) < (l.length : Nat))))) (e27 sc m s ps o8 o9 o10 o11 o12 o13 o14 o15 o16) := evCmp (ev_len h14 rfl) evCst rfl
  -- a place
  obtain ⟨a, p2, ok2, b1⟩ : ∃ (a : Nat) (p2 : List D), PoolOk p2 ∧ ex1 (G n) (.asg 11 (.ife (.cmp .gt (.blt .len [(.var 14)]) (.cst (.int 0))) (.call 18 [(.var 1), (.blt .len [(.var 14)])] []) (.cst (.int 0)))) (e27 sc m s ps o8 o9 o10 o11 o12 o13 o14 o15 o16) = .nx (e27 sc m s p2 o8 o9 o10 (Vi (a : Nat)) o12 o13 o14 o15 o16) := by
    by_cases z : l.length = 0
    · rw [decide_eq_false (by omega)] at c0
      exact ⟨0, ps, ok, asg_val (s1 := e27 sc m s ps o8 o9 o10 o11 o12 o13 o14 o15 o16) (o := o11) (ifeF c0 evCst) rfl f11⟩
    · rw [decide_eq_true (by omega)] at c0
      obtain ⟨z, p2, e2, z0, z1, ok2⟩ := draw_at (T := T) (wf := wf) (sub := sub) (n := n + 8) (jd := 18) (i := 1) (md := .fr) (s := e27 sc m s ps o8 o9 o10 o11 o12 o13 o14 o15 o16) (F := fun q => e27 sc m s q o8 o9 o10 o11 o12 o13 o14 o15 o16) (e := .blt .len [.var 14]) (m := ((l.length : Nat) : Int)) rfl rfl (ev_len h14 rfl) rfl (by decide) (fun _ => rfl) (by omega) (by omega) ok
      obtain ⟨a, rfl⟩ : ∃ a : Nat, z = a := ⟨z.toNat, by omega⟩
      exact ⟨a, p2, ok2, asg_val (s1 := e27 sc m s p2 o8 o9 o10 o11 o12 o13 o14 o15 o16) (o := o11) (ifeT c0 e2) rfl f11⟩
  have hl' : l.length ≤ 1000 := by omega
  obtain ⟨r, g1, g2, g3, _⟩ := h14.ev (Γ := G n) (s := e27 sc m s p2 o8 o9 o10 (Vi (a : Nat)) o12 o13 o14 o15 o16) (i := 14) rfl
  have i3 : ev (G n) false (.bin .add (.var 14) (.slc (.var 14) none (some (.cst (.int 1))))) (e27 sc m s p2 o8 o9 o10 (Vi (a : Nat)) o12 o13 o14 o15 o16) = .ok (.tmp (.lst ((l ++ l.take 1).map eS))) (e27 sc m s p2 o8 o9 o10 (Vi (a : Nat)) o12 o13 o14 o15 o16) :=
    evBR (op := .add) g1 g2 (evSlc2 (z := 1) g1 g2 evCst g3 (slcT eS l 1)) g3 rfl (addM eS (x := l) (y := l.take 1) (by simp only [List.length_take]; unfold big; omega))
  have q0 : ev (G n) false (.tup [(.cst (.int 0)), (.var 2), (.cst (.int 0))]) (e27 sc m s p2 o8 o9 o10 (Vi (a : Nat)) o12 o13 o14 o15 o16) = .ok (.val (eS (0, Mi m, 0))) (e27 sc m s p2 o8 o9 o10 (Vi (a : Nat)) o12 o13 o14 o15 o16) := evTup3 evCst (evV rfl) evCst
  have bn : Bnd (0, Mi m, 0) := by simp only [Bnd, Mi]; omega
  have Hb : ∀ x ∈ l ++ [((0 : Int), Mi m, (0 : Int))], Bnd x := fun x hx => by
    rcases List.mem_append.mp hx with hx | hx
    · exact H.b x hx
    · rw [List.mem_singleton.mp hx]; exact bn
  have i4 : ev (G n) false (.lib .sortD [(.bin .add (.var 14) (.list [(.tup [(.cst (.int 0)), (.var 2), (.cst (.int 0))])]))]) (e27 sc m s p2 o8 o9 o10 (Vi (a : Nat)) o12 o13 o14 o15 o16) = .ok (.tmp (.lst ((srtS (l ++ [(0, Mi m, 0)])).map eS))) (e27 sc m s p2 o8 o9 o10 (Vi (a : Nat)) o12 o13 o14 o15 o16) :=
    evLib1 (evBR (op := .add) g1 g2 (ev_one q0) g3 rfl (addM eS (x := l) (y := [(0, Mi m, 0)]) (by simp only [List.length_cons, List.length_nil]; unfold big; omega))) rfl rfl (sortD_S Hb (by rw [List.length_append]; show l.length + 1 ≤ big; unfold big; omega))
  have q5 := ev_four (Γ := G n) (s := e27 sc m s p2 o8 o9 o10 (Vi (a : Nat)) o12 o13 o14 o15 o16) (ev_out (i := 14) (j := 11) (a := a) hl' h14 rfl rfl) (ev_rev (i := 14) h14 rfl) i3 i4
  obtain ⟨i6, hi6, p4, e6, ok4⟩ := pick_at (T := T) (wf := wf) (sub := sub) (n := n + 7) (jp := 19) (jd := 18) (i := 1) (md := .fr) (F := fun q => e27 sc m s q o8 o9 o10 (Vi (a : Nat)) o12 o13 o14 o15 o16) rfl rfl rfl q5 rfl (by decide) rfl rfl (fun _ => rfl) (by simp) (by simp) ok2 (by simp)
  have hd : ∀ d ∈ [PyData.list ((outL l a).map eS), .list (l.reverse.map eS), .list ((l ++ l.take 1).map eS), .list ((srtS (l ++ [(0, Mi m, 0)])).map eS)], ∃ l' : List Sd, Tl (Mi m) l' (b + 1) ∧ d = .list (l'.map eS) := by
    intro d hd
    simp only [List.mem_cons, List.not_mem_nil, or_false] at hd
    rcases hd with rfl | rfl | rfl | rfl
    · refine ⟨_, H.sub (fun x hx => ?_) ?_, rfl⟩
      · unfold outL at hx
        rcases List.mem_append.mp hx with hx | hx
        · exact List.mem_of_mem_take hx
        · exact List.mem_of_mem_drop hx
      · unfold outL; rw [List.length_append, List.length_take, List.length_drop]; omega
    · exact ⟨_, H.sub (fun x hx => List.mem_reverse.mp hx) (by rw [List.length_reverse]; omega), rfl⟩
    · refine ⟨_, H.sub (fun x hx => ?_) ?_, rfl⟩
      · rcases List.mem_append.mp hx with hx | hx
        · exact hx
        · exact List.mem_of_mem_take hx
      · rw [List.length_append, List.length_take]; omega
    · have pm := srtS_perm (l ++ [((0 : Int), Mi m, (0 : Int))])
      refine ⟨_, ⟨fun x hx => Hb x (pm.mem_iff.mp hx), fun x hx => ?_, ?_⟩, rfl⟩
      · rcases List.mem_append.mp (pm.mem_iff.mp hx) with hx | hx
        · exact H.t x hx
        · rw [List.mem_singleton.mp hx]; exact .inl rfl
      · rw [pm.length_eq, List.length_append]
        show l.length + 1 ≤ b + 1
        omega
  obtain ⟨l', hll, hd⟩ := hd _ (List.getElem_mem hi6)
  rw [hd] at e6
  exact ⟨p4, l', Vd (.list (l'.map eS)), Vi (a : Nat), ok4, hll, .inr rfl, .c _, ex_nx b1 (ex_nx (asg_val (s1 := e27 sc m s p4 o8 o9 o10 (Vi (a : Nat)) o12 o13 o14 o15 o16) (o := o14) e6 rfl h14.c) rfl)⟩
end
end K66

set_option linter.all false
set_option maxRecDepth 100000
set_option maxHeartbeats 400000
namespace K66
open PySem MP
theorem comp_ex2 {Γ : Cfg} {elt : MP.E} {i : Nat} {k : IK} {src : List MP.E} {cnd : Option MP.E} {s s1 s2 : MP.Env} {rs : List Res} {ds items : List D} {o : Option (Mode × Cell)} (P : Nat → List D → MP.Env → Prop) (h1 : evr Γ src s = .ok rs s1) (h2 : lookAll s1 rs = some ds) (h3 : itF k ds = some items) (h4 : srcE k s1 rs = some s2) (hi : s2[i]? = some o) (ho : Fr o) (hl : items.length ≤ big)
    (h0 : P 0 [] (s2.set i none)) (hs : ∀ k (h : k < items.length) acc s, P k acc s → ∃ o s', compBody Γ elt cnd [i] (s.set i (some (.fr, .val items[k]))) = .ok o s' ∧ P (k + 1) (pushO acc o) s') :
    ∃ acc s', ev Γ false (.comp elt (.name i) k src cnd [i]) s = .ok (.tmp (.lst acc)) (s'.set i o) ∧ P items.length acc s' := by
  have e : (lookAll s1 rs).bind (itF k) = some items := by rw [h2]; exact h3
  have pl : plainE s2 [i] = true := by
    rcases ho with rfl | ⟨d, rfl⟩ <;> simp [plainE, hi]
  have we : wipeE s2 [i] = s2.set i none := rfl
  obtain ⟨acc, s', lp, p⟩ := compLoop_ex (body := compBody Γ elt cnd [i]) (t := .name i) (items := items) (acc := []) (s := s2.set i none) P h0 fun k hk acc s p => by
    obtain ⟨o, s', e1, e2⟩ := hs k hk acc s p
    exact ⟨_, rfl, o, s', e1, e2⟩
  have re : restE s2 s' [i] = s'.set i o := by
    show s'.set i (s2[i]?.join) = _
    rw [hi]
    rfl
  refine ⟨acc, s', ?_, p⟩
  have hh : ev Γ false (.comp elt (.name i) k src cnd [i]) s = (evr Γ src s).bind fun rs s1 => match (lookAll s1 rs).bind (itF k) with
    | none => .stk
    | some items => match srcE k s1 rs with
      | none => .stk
      | some s2 => if plainE s2 [i] = false ∨ big < items.length then .stk else match compLoop (compBody Γ elt cnd [i]) (.name i) items [] (wipeE s2 [i]) with
        | .ok acc s3 => .ok (.tmp (.lst acc)) (restE s2 s3 [i])
        | _ => .stk := by
    simp only [ev, fin_false]
    rfl
  rw [hh, h1]
  simp only [R.bind, e, h4, pl, we, Bool.true_eq_false, false_or, if_neg (Nat.not_lt.mpr hl), lp, re]
theorem ev_call3 {A : Type} {f : A → D} {l : List A} {o : Option (Mode × Cell)} {Γ : Cfg} {s : MP.Env} {i j : Nat} {a b : MP.E} {x y : D} {v : Cell} (h : At2 f l o) (hi : s[i]? = some o) (h1 : ev Γ false a s = .ok (.val x) s) (h2 : ev Γ false b s = .ok (.val y) s) (hp : Γ.pms j = [.v, .v, .v]) (hr : Γ.run j [.val x, .val y, .val (.list (l.map f))] = .ok v none) : ev Γ false (.call j [a, b, (.var i)] []) s = .ok (resOf v) (s.set i (Vd (.list (l.map f)))) := by
  obtain ⟨r, e1, e2, _, e4⟩ := h.ev (Γ := Γ) hi
  refine evCall (ds := []) (evr1 h1 rfl (evr1 h2 rfl (evr1 e1 e2 evr0))) ?_ hr
  rw [hp]
  simp only [List.map_nil, List.append_nil, argCells]
  simp only [frz] at e4 ⊢
  rw [e4]
theorem sameE {Γ : Cfg} {s s1 s2 s3 : MP.Env} {a b : MP.E} {ra ra' rb rb' : Res} {d : D} (ha : ev Γ false a s = .ok ra s1) (hha : hold ra = some ra') (hb : ev Γ false b s1 = .ok rb s2) (hhb : hold rb = some rb') (hp : Γ.pms 16 = [.v, .v]) (hc : argCells s2 [PM.v, PM.v] [ra', rb'] = some ([.val d, .val d], none, s3)) (hr : Γ.run 16 [.val d, .val d] = .ok (.val (.bool true)) none) : ev Γ true (.notE (.call 16 [a, b] [])) s = .ok (.val (.bool false)) s3 :=
  evNotT (evCallT (ds := []) (evr1 ha hha (evr1 hb hhb evr0)) (by rw [hp]; exact hc) hr)
section
variable {m s : Nat}
theorem W_perm : (St m s).Perm ((Wt m s).map (·.1)) := srtS_perm _
theorem W_len (hm : m < 6) (hs : s < 3) : 2 ≤ (Wt m s).length ∧ (Wt m s).length ≤ 50 := by
  have h := fact_len m hm s hs
  have e := (W_perm (m := m) (s := s)).length_eq
  rw [List.length_map] at e
  exact ⟨by rw [← e]; exact h.1, by rw [← e]; exact h.2.1⟩
theorem W_ne (hm : m < 6) (hs : s < 3) : Wt m s ≠ [] := fun h => by
  have := (W_len hm hs).1
  rw [h] at this
  simp at this
theorem S_okS (hm : m < 6) (hs : s < 3) : ∀ x ∈ St m s, okS (Mi m) x = true := (fact_len m hm s hs).2.2
theorem S_tl (hm : m < 6) (hs : s < 3) : Tl (Mi m) (St m s) 50 := ⟨fun x hx => okS_bnd (by simp only [Mi]; omega) (S_okS hm hs x hx), fun x hx => by
  have := S_okS hm hs x hx
  unfold okS at this
  rw [Bool.and_eq_true] at this
  simpa using this.2, (fact_len m hm s hs).2.1⟩
theorem W_bnd (hm : m < 6) (hs : s < 3) : ∀ x ∈ (Wt m s).map (·.1), Bnd x := fun x hx => (S_tl hm hs).b x (W_perm.mem_iff.mpr hx)
theorem no_both (hm : m < 6) (hs : s < 3) {ls : List Sd} (h : Shown (Mi m) (s + 2) ls) : (du m s).isSome = false := by
  cases e : du m s with
  | none => rfl
  | some p =>
    have := (fact_due m hm s hs p e).2.2
    exact absurd (shown_closed h p _ _ h.2.1 this) h.2.2.1
theorem Mi1 : 1 ≤ Mi m := by simp only [Mi]; omega
theorem Mi8 (hm : m < 6) : Mi m ≤ 8 := by simp only [Mi]; omega
end
section
variable {n : Nat} {sc : D}
theorem b0_ok {m s : Nat} {ps : List D} {o8 o9 o10 o11 o12 o13 o14 o15 o16 : Option (Mode × Cell)} (hm : m < 6) (hs3 : s < 3) (ok : PoolOk ps) (f9 : FrC o9) (f10 : Fr o10) : ∃ (ps' : List D) (l : List Ld), PoolOk ps' ∧ l.length ≤ 40 ∧
    ex1 (G n) (.asg 9 (.ife (.var 5) (.blt .list [(.var 6)]) (.comp E27_0 (.name 10) .rng [(.cst (.int 3))] none [10]))) (e27 sc m s ps o8 o9 o10 o11 o12 o13 o14 o15 o16) = .nx (e27 sc m s ps' o8 (Od (l.map eP2)) o10 o11 o12 o13 o14 o15 o16) := by
  have t0 : ∀ k, (du m s).isSome = k → ev (G n) true (.var 5) (e27 sc m s ps o8 o9 o10 o11 o12 o13 o14 o15 o16) = .ok (.val (.bool k)) (e27 sc m s ps o8 o9 o10 o11 o12 o13 o14 o15 o16) := fun k hk => by
    rw [← hk]
    simp [exs, ex1, ev, evs, evr, evo, fin, truthR, R.bind, R.thenX, R.opt, X.seq, hold, look, lookAll, Cell.d?, cmpF, eqF_int, boolR, truthF, bltF, binF, asgF, frz, retF, resOf, endF, outAt, inAt, argCells, backIO, entry, argEnv]
  cases hd : du m s with
  | some p =>
    have t1 := t0 true (by rw [hd]; rfl)
    have hp := (fact_due m hm s hs3 p hd).1
    have h6 : (e27 sc m s ps o8 o9 o10 o11 o12 o13 o14 o15 o16)[6]? = some (some (.fr, .val (.list (p.map eP2)))) := by
      show some (Vd (oL (du m s))) = _
      rw [hd]
      rfl
    exact ⟨ps, p, ok, hp, asg_tmp (s1 := e27 sc m s ps o8 o9 o10 o11 o12 o13 o14 o15 o16) (o := o9) (c := .lst (p.map eP2)) (ifeT t1 (evBlt1 (x := .list (p.map eP2)) (evV h6) rfl rfl rfl)) rfl f9⟩
  | none =>
    have t1 := t0 false (by rw [hd]; rfl)
    obtain ⟨acc, s', e, q, l, okq, hl, rfl, rfl⟩ := comp_ex2 (Γ := G n) (elt := E27_0) (i := 10) (k := .rng) (src := [(.cst (.int 3))]) (cnd := none) (s := e27 sc m s ps o8 o9 o10 o11 o12 o13 o14 o15 o16) (s1 := e27 sc m s ps o8 o9 o10 o11 o12 o13 o14 o15 o16) (s2 := e27 sc m s ps o8 o9 o10 o11 o12 o13 o14 o15 o16) (items := (List.range 3).map fun (k : Nat) => PyData.int k) (o := o10) (fun k acc st => ∃ (q : List D) (l : List Ld), PoolOk q ∧ l.length = k ∧ acc = l.map eP2 ∧ st = e27 sc m s q o8 o9 none o11 o12 o13 o14 o15 o16) (evr1 evCst rfl evr0) rfl (itR (m := 3) (by decide)) rfl rfl f10 (by rw [List.length_map, List.length_range]; decide) ⟨ps, [], ok, rfl, rfl, rfl⟩ (by
      rintro k hk acc st ⟨q, l, okq, hl, rfl, rfl⟩
      have kl := lloads_ok (n := n + 8) hs3
      have hb := fact_loads s hs3
      have hne : (loadsF (s + 2)).map eP2 ≠ [] := by
        match s, hs3 with
        | 0, _ => decide
        | 1, _ => decide
        | 2, _ => decide
      generalize ((List.range 3).map fun (k : Nat) => PyData.int k)[k] = dk
      obtain ⟨i3, hi3, p3, e3, ok3⟩ := pick_at (T := T) (wf := wf) (sub := sub) (n := n + 7) (jp := 19) (jd := 18) (i := 1) (md := .fr) (s := e27 sc m s q o8 o9 (Vd dk) o11 o12 o13 o14 o15 o16) (s1 := e27 sc m s q o8 o9 (Vd dk) o11 o12 o13 o14 o15 o16) (e := .call 21 [(.var 3)] []) (ra := .tmp (.lst ((loadsF (s + 2)).map eP2))) (F := fun q => e27 sc m s q o8 o9 (Vd dk) o11 o12 o13 o14 o15 o16) rfl rfl rfl (evCall (v := .lst ((loadsF (s + 2)).map eP2)) (ds := []) (evr1 (evV rfl) rfl evr0) rfl kl) rfl (by decide) rfl rfl (fun _ => rfl) hne (by rw [List.length_map]; omega) okq (by simp)
      rw [List.getElem_map] at e3
      generalize (loadsF (s + 2))[i3]'(by rw [List.length_map] at hi3; exact hi3) = x at e3
      refine ⟨some (eP2 x), e27 sc m s p3 o8 o9 none o11 o12 o13 o14 o15 o16, ?_, p3, l ++ [x], ok3, by rw [List.length_append, hl]; rfl, ?_, rfl⟩
      · show compBody (G n) E27_0 none [10] (e27 sc m s q o8 o9 (Vd dk) o11 o12 o13 o14 o15 o16) = _
        have e3' : ev (G n) false E27_0 (e27 sc m s q o8 o9 (Vd dk) o11 o12 o13 o14 o15 o16) = .ok (.val (eP2 x)) (e27 sc m s p3 o8 o9 (Vd dk) o11 o12 o13 o14 o15 o16) := e3
        simp only [compBody, e3', R.bind, keepR, frz]
        rfl
      · rw [List.map_append]
        rfl)
    rw [List.length_map, List.length_range] at hl
    exact ⟨q, l, okq, by omega, asg_tmp (s1 := e27 sc m s q o8 o9 o10 o11 o12 o13 o14 o15 o16) (o := o9) (c := .lst (l.map eP2)) (ifeF t1 e) rfl f9⟩
theorem b1_ok {m s : Nat} {ps : List D} {l : List Ld} {o8 o9 o10 o11 o12 o13 o14 o15 o16 : Option (Mode × Cell)} (hs3 : s < 3) (hl : l.length ≤ 40) (ok : PoolOk ps) (h9 : At2 eP2 l o9) (f10 : Fr o10) (f11 : FrC o11) (f12 : FrC o12) : ∃ ps' l' o9' o10' o11' o12', PoolOk ps' ∧ l'.length ≤ 50 ∧ At2 eP2 l' o9' ∧ Fr o10' ∧ FrC o11' ∧ FrC o12' ∧
    ex1 (G n) (.for_ (.name 10) .rng [(.call 18 [(.var 1), (.cst (.int 3))] [])] L27_0) (e27 sc m s ps o8 o9 o10 o11 o12 o13 o14 o15 o16) = .nx (e27 sc m s ps' o8 o9' o10' o11' o12' o13 o14 o15 o16) := by
  obtain ⟨z, p2, e2, z0, z1, ok2⟩ := draw_at (T := T) (wf := wf) (sub := sub) (n := n + 8) (jd := 18) (i := 1) (md := .fr) (s := e27 sc m s ps o8 o9 o10 o11 o12 o13 o14 o15 o16) (F := fun q => e27 sc m s q o8 o9 o10 o11 o12 o13 o14 o15 o16) (e := .cst (.int 3)) (m := 3) rfl rfl evCst rfl (by decide) (fun _ => rfl) (by decide) (by decide) ok
  obtain ⟨a, rfl⟩ : ∃ a : Nat, z = a := ⟨z.toNat, by omega⟩
  obtain ⟨s', lp, q, l', q9, q10, q11, q12, okq, hl', g9, g10, g11, g12, rfl⟩ := loopX_ex (t := .name 10) (body := fun se => exs (G n) L27_0 se) (items := (List.range a).map fun (k : Nat) => PyData.int k) (s := e27 sc m s p2 o8 o9 o10 o11 o12 o13 o14 o15 o16) (fun j st => ∃ (q : List D) (l' : List Ld) (q9 q10 q11 q12 : Option (Mode × Cell)), PoolOk q ∧ l'.length ≤ 40 + j ∧ At2 eP2 l' q9 ∧ Fr q10 ∧ FrC q11 ∧ FrC q12 ∧ st = e27 sc m s q o8 q9 q10 q11 q12 o13 o14 o15 o16) ⟨p2, l, o9, o10, o11, o12, ok2, hl, h9, f10, f11, f12, rfl⟩ (by
    rintro j hj st ⟨q, l', q9, q10, q11, q12, okq, hl', g9, g10, g11, g12, rfl⟩
    rw [List.length_map, List.length_range] at hj
    generalize ((List.range a).map fun (k : Nat) => PyData.int k)[j] = dk
    obtain ⟨p3, l3, r9, r11, r12, ok3, hl3, t9, t11, t12, e⟩ := some_body (n := n) (sc := sc) (m := m) (o8 := o8) (o10 := Vd dk) (o13 := o13) (o14 := o14) (o15 := o15) (o16 := o16) hs3 (by omega) okq g9 g11 g12
    exact ⟨g10.free rfl, e27 sc m s q o8 q9 (Vd dk) q11 q12 o13 o14 o15 o16, rfl, _, e, p3, l3, r9, _, r11, r12, ok3, by omega, t9, .v _, t11, t12, rfl⟩)
  rw [List.length_map, List.length_range] at hl'
  exact ⟨q, l', q9, q10, q11, q12, okq, by omega, g9, g10, g11, g12, for_nx (evr1 e2 rfl evr0) rfl (itR (by omega)) rfl lp⟩
theorem b5_ok {m s : Nat} {ps : List D} {l : List Sd} {o8 o9 o10 o11 o12 o13 o14 o15 o16 : Option (Mode × Cell)} (hm : m < 6) (H : Tl (Mi m) l 50) (ok : PoolOk ps) (h14 : At2 eS l o14) (f10 : Fr o10) (f11 : FrC o11) : ∃ ps' l' o14' o10' o11', PoolOk ps' ∧ Tl (Mi m) l' 60 ∧ At2 eS l' o14' ∧ Fr o10' ∧ FrC o11' ∧
    ex1 (G n) (.for_ (.name 10) .rng [(.call 18 [(.var 1), (.cst (.int 3))] [])] L27_1) (e27 sc m s ps o8 o9 o10 o11 o12 o13 o14 o15 o16) = .nx (e27 sc m s ps' o8 o9 o10' o11' o12 o13 o14' o15 o16) := by
  obtain ⟨z, p2, e2, z0, z1, ok2⟩ := draw_at (T := T) (wf := wf) (sub := sub) (n := n + 8) (jd := 18) (i := 1) (md := .fr) (s := e27 sc m s ps o8 o9 o10 o11 o12 o13 o14 o15 o16) (F := fun q => e27 sc m s q o8 o9 o10 o11 o12 o13 o14 o15 o16) (e := .cst (.int 3)) (m := 3) rfl rfl evCst rfl (by decide) (fun _ => rfl) (by decide) (by decide) ok
  obtain ⟨a, rfl⟩ : ∃ a : Nat, z = a := ⟨z.toNat, by omega⟩
  obtain ⟨s', lp, q, l', q14, q10, q11, okq, hl', g14, g10, g11, rfl⟩ := loopX_ex (t := .name 10) (body := fun se => exs (G n) L27_1 se) (items := (List.range a).map fun (k : Nat) => PyData.int k) (s := e27 sc m s p2 o8 o9 o10 o11 o12 o13 o14 o15 o16) (fun j st => ∃ (q : List D) (l' : List Sd) (q14 q10 q11 : Option (Mode × Cell)), PoolOk q ∧ Tl (Mi m) l' (50 + j) ∧ At2 eS l' q14 ∧ Fr q10 ∧ FrC q11 ∧ st = e27 sc m s q o8 o9 q10 q11 o12 o13 q14 o15 o16) ⟨p2, l, o14, o10, o11, ok2, H, h14, f10, f11, rfl⟩ (by
    rintro j hj st ⟨q, l', q14, q10, q11, okq, hl', g14, g10, g11, rfl⟩
    rw [List.length_map, List.length_range] at hj
    generalize ((List.range a).map fun (k : Nat) => PyData.int k)[j] = dk
    obtain ⟨p3, l3, r14, r11, ok3, hl3, t14, t11, e⟩ := part_body (n := n) (sc := sc) (s := s) (o8 := o8) (o9 := o9) (o10 := Vd dk) (o12 := o12) (o13 := o13) (o15 := o15) (o16 := o16) hm (by omega) hl' okq g14 g11
    exact ⟨g10.free rfl, e27 sc m s q o8 o9 (Vd dk) q11 o12 o13 q14 o15 o16, rfl, _, e, p3, l3, r14, _, r11, ok3, hl3, t14, .v _, t11, rfl⟩)
  rw [List.length_map, List.length_range] at hl'
  exact ⟨q, l', q14, q10, q11, okq, ⟨hl'.b, hl'.t, by have := hl'.l; omega⟩, g14, g10, g11, for_nx (evr1 e2 rfl evr0) rfl (itR (by omega)) rfl lp⟩
theorem same_bool {N : Nat} (b : Bool) : run T wf sub (N + 1) 16 [.val (.bool b), .val (.bool b)] = .ok (.val (.bool true)) none := same_flat (j := 16) rfl (.inr (.inr ⟨b, rfl⟩))
theorem b2_ok {m s : Nat} {ps : List D} {l : List Ld} {o8 o9 o10 o11 o12 o13 o14 o15 o16 : Option (Mode × Cell)} (hs3 : s < 3) (h9 : At2 eP2 l o9) (f13 : FrC o13) : ∃ o9', At2 eP2 l o9' ∧
    ex1 (G n) (.asg 13 (.andE (.var 5) (.andE (.cmp .eq (.call 24 [(.var 2), (.var 3), (.var 9)] []) (.tup [(.cst (.int 0)), (.cst (.int 0)), (.cst (.int 1))])) (.cmp .eq (.blt .len [(.var 9)]) (.blt .len [(.var 6)]))))) (e27 sc m s ps o8 o9 o10 o11 o12 o13 o14 o15 o16) = .nx (e27 sc m s ps o8 o9' o10 o11 o12 (Vb (judF (Mi m) (s + 2) (du m s) l)) o14 o15 o16) := by
  have t0 : ∀ k, (du m s).isSome = k → ev (G n) false (.var 5) (e27 sc m s ps o8 o9 o10 o11 o12 o13 o14 o15 o16) = .ok (.val (.bool k)) (e27 sc m s ps o8 o9 o10 o11 o12 o13 o14 o15 o16) := fun k hk => by
    rw [← hk]
    exact evV rfl
  cases hd : du m s with
  | none =>
    exact ⟨o9, h9, asg_val (s1 := e27 sc m s ps o8 o9 o10 o11 o12 o13 o14 o15 o16) (o := o13) (evAndF (t0 false (by rw [hd]; rfl))) rfl f13⟩
  | some p =>
    have t1 := t0 true (by rw [hd]; rfl)
    have k := lead_ok (n := n + 6) (m := Mi m) hs3 l
    have c1 := ev_call3 (Γ := G n) (s := e27 sc m s ps o8 o9 o10 o11 o12 o13 o14 o15 o16) (i := 9) (j := 24) (a := .var 2) (b := .var 3) h9 rfl (evV rfl) (evV rfl) rfl k
    have c2 : ev (G n) false (.cmp .eq (.call 24 [(.var 2), (.var 3), (.var 9)] []) (.tup [(.cst (.int 0)), (.cst (.int 0)), (.cst (.int 1))])) (e27 sc m s ps o8 o9 o10 o11 o12 o13 o14 o15 o16) = .ok (.val (.bool (decide (leadF (Mi m) (s + 2) (MP.start (Mi m)) l = some (0, 0, 1))))) (e27 sc m s ps o8 (Vd (.list (l.map eP2))) o10 o11 o12 o13 o14 o15 o16) := by
      refine evCmp (x := oS (leadF (Mi m) (s + 2) (MP.start (Mi m)) l)) (y := eS (0, 0, 1)) c1 (evTup3 evCst evCst evCst) ?_
      cases leadF (Mi m) (s + 2) (MP.start (Mi m)) l with
      | none => rfl
      | some t =>
        show eqF (eS t) (eS (0, 0, 1)) = _
        rw [eqF_S]
        congr 1
        exact decide_eq_decide.mpr ⟨fun h => by rw [h], fun h => Option.some.inj h⟩
    have c3 : ev (G n) false (.cmp .eq (.blt .len [(.var 9)]) (.blt .len [(.var 6)])) (e27 sc m s ps o8 (Vd (.list (l.map eP2))) o10 o11 o12 o13 o14 o15 o16) = .ok (.val (.bool (decide (l.length = p.length)))) (e27 sc m s ps o8 (Vd (.list (l.map eP2))) o10 o11 o12 o13 o14 o15 o16) := evCmp (evBlt1 (evV rfl) rfl rfl (lenM eP2 l)) (evBlt1 (x := .list (p.map eP2)) (evV (by show some (Vd (oL (du m s))) = _; rw [hd]; rfl)) rfl rfl (lenM eP2 p)) (eqN _ _)
    refine ⟨Vd (.list (l.map eP2)), .inr rfl, ?_⟩
    by_cases c : leadF (Mi m) (s + 2) (MP.start (Mi m)) l = some (0, 0, 1)
    · rw [decide_eq_true c] at c2
      have hj : judF (Mi m) (s + 2) (some p) l = decide (l.length = p.length) := by simp [judF, c]
      rw [hj]
      exact asg_val (s1 := e27 sc m s ps o8 (Vd (.list (l.map eP2))) o10 o11 o12 o13 o14 o15 o16) (o := o13) (evAnd t1 (evAnd c2 c3)) rfl f13
    · rw [decide_eq_false c] at c2
      have hj : judF (Mi m) (s + 2) (some p) l = false := by simp [judF, c]
      rw [hj]
      exact asg_val (s1 := e27 sc m s ps o8 (Vd (.list (l.map eP2))) o10 o11 o12 o13 o14 o15 o16) (o := o13) (evAnd t1 (evAndF c2)) rfl f13
theorem k_body {m s : Nat} {ps : List D} {o8 o9 o10 o11 o12 o13 o14 o15 o16 : Option (Mode × Cell)} (hm : m < 6) (hs3 : s < 3) (ok : PoolOk ps) (f9 : FrC o9) (f10 : Fr o10) (f11 : FrC o11) (f12 : FrC o12) (f13 : FrC o13) (f14 : FrC o14) (f15 : FrC o15) : ∃ ps' q9 q10 q11 q12 q13 q14 q15, PoolOk ps' ∧ FrC q9 ∧ Fr q10 ∧ FrC q11 ∧ FrC q12 ∧ FrC q13 ∧ FrC q14 ∧ FrC q15 ∧
    exs (G n) L27_2 (e27 sc m s ps o8 o9 o10 o11 o12 o13 o14 o15 o16) = .nx (e27 sc m s ps' o8 q9 q10 q11 q12 q13 q14 q15 o16) := by
  rw [L27_2]
  obtain ⟨p0, l0, ok0, hl0, s0⟩ := b0_ok (n := n) (sc := sc) (o8 := o8) (o11 := o11) (o12 := o12) (o13 := o13) (o14 := o14) (o15 := o15) (o16 := o16) hm hs3 ok f9 f10
  obtain ⟨p1, l1, r9, r10, r11, r12, ok1, hl1, t9, t10, t11, t12, s1⟩ := b1_ok (n := n) (sc := sc) (m := m) (o8 := o8) (o13 := o13) (o14 := o14) (o15 := o15) (o16 := o16) hs3 hl0 ok0 (.inl rfl) f10 f11 f12
  obtain ⟨v9, w9, s2⟩ := b2_ok (n := n) (sc := sc) (m := m) (ps := p1) (o8 := o8) (o10 := r10) (o11 := r11) (o12 := r12) (o14 := o14) (o15 := o15) (o16 := o16) hs3 t9 f13
  have kj := judge_ok (n := n) Mi1 (Mi8 hm) hs3 (fact_plan hm hs3) l1
  have c1 := ev_call3 (Γ := G n) (s := e27 sc m s p1 o8 v9 r10 r11 r12 (Vb (judF (Mi m) (s + 2) (du m s) l1)) o14 o15 o16) (i := 9) (j := 12) (a := .var 2) (b := .var 3) w9 rfl (evV rfl) (evV rfl) rfl kj
  have s3 : ex1 (G n) (.ite (.notE (.call 16 [(.call 12 [(.var 2), (.var 3), (.var 9)] []), (.var 13)] [])) [.ret (.cst (.bool false))] []) (e27 sc m s p1 o8 v9 r10 r11 r12 (Vb (judF (Mi m) (s + 2) (du m s) l1)) o14 o15 o16) = .nx (e27 sc m s p1 o8 (Vd (.list (l1.map eP2))) r10 r11 r12 (Vb (judF (Mi m) (s + 2) (du m s) l1)) o14 o15 o16) :=
    ite_no (sameE c1 rfl (evV rfl) rfl rfl rfl (same_bool (N := n + 8) _))
  have s4 : ex1 (G n) (.asg 14 (.blt .list [(.var 7)])) (e27 sc m s p1 o8 (Vd (.list (l1.map eP2))) r10 r11 r12 (Vb (judF (Mi m) (s + 2) (du m s) l1)) o14 o15 o16) = .nx (e27 sc m s p1 o8 (Vd (.list (l1.map eP2))) r10 r11 r12 (Vb (judF (Mi m) (s + 2) (du m s) l1)) (Od ((St m s).map eS)) o15 o16) := asg_tmp (s1 := e27 sc m s p1 o8 (Vd (.list (l1.map eP2))) r10 r11 r12 (Vb (judF (Mi m) (s + 2) (du m s) l1)) o14 o15 o16) (o := o14) (c := .lst ((St m s).map eS)) (evBlt1 (x := .list ((St m s).map eS)) (evV rfl) rfl rfl rfl) rfl f14
  obtain ⟨p5, l5, v14, v10, v11, ok5, H5, w14, w10, w11, s5⟩ := b5_ok (n := n) (sc := sc) (s := s) (o8 := o8) (o9 := Vd (.list (l1.map eP2))) (o12 := r12) (o13 := Vb (judF (Mi m) (s + 2) (du m s) l1)) (o15 := o15) (o16 := o16) hm (S_tl hm hs3) ok1 (.inl rfl) t10 t11
  obtain ⟨b1, kb1, hb1⟩ := shows_ok (n := n + 5) (m := Mi m) hs3 (H5.told (by decide))
  obtain ⟨b2, kb2, hb2⟩ := jnot_ok (n := n) (ls := l5) Mi1 (Mi8 hm) hs3 (H5.told (by decide))
  have hbb : b2 = b1 := by
    cases b1 <;> cases b2 <;> simp_all
  subst hbb
  have c6 := ev_call3 (Γ := G n) (s := e27 sc m s p5 o8 (Vd (.list (l1.map eP2))) v10 v11 r12 (Vb (judF (Mi m) (s + 2) (du m s) l1)) v14 o15 o16) (i := 14) (j := 25) (a := .var 2) (b := .var 3) w14 rfl (evV rfl) (evV rfl) rfl kb1
  have s6 : ex1 (G n) (.asg 15 (.call 25 [(.var 2), (.var 3), (.var 14)] [])) (e27 sc m s p5 o8 (Vd (.list (l1.map eP2))) v10 v11 r12 (Vb (judF (Mi m) (s + 2) (du m s) l1)) v14 o15 o16) = .nx (e27 sc m s p5 o8 (Vd (.list (l1.map eP2))) v10 v11 r12 (Vb (judF (Mi m) (s + 2) (du m s) l1)) (Vd (.list (l5.map eS))) (Vb b2) o16) := asg_val (s1 := e27 sc m s p5 o8 (Vd (.list (l1.map eP2))) v10 v11 r12 (Vb (judF (Mi m) (s + 2) (du m s) l1)) (Vd (.list (l5.map eS))) o15 o16) (o := o15) c6 rfl f15
  have c7 := ev_call3 (Γ := G n) (s := e27 sc m s p5 o8 (Vd (.list (l1.map eP2))) v10 v11 r12 (Vb (judF (Mi m) (s + 2) (du m s) l1)) (Vd (.list (l5.map eS))) (Vb b2) o16) (i := 14) (j := 13) (a := .var 2) (b := .var 3) (f := eS) (l := l5) (.inr rfl) rfl (evV rfl) (evV rfl) rfl kb2
  have c8 : ev (G n) true (.andE (.var 15) (.var 5)) (e27 sc m s p5 o8 (Vd (.list (l1.map eP2))) v10 v11 r12 (Vb (judF (Mi m) (s + 2) (du m s) l1)) (Vd (.list (l5.map eS))) (Vb b2) o16) = .ok (.val (.bool false)) (e27 sc m s p5 o8 (Vd (.list (l1.map eP2))) v10 v11 r12 (Vb (judF (Mi m) (s + 2) (du m s) l1)) (Vd (.list (l5.map eS))) (Vb b2) o16) := by
    cases b2 with
    | false => exact evAndF (by simp [exs, ex1, ev, evs, evr, evo, fin, truthR, R.bind, R.thenX, R.opt, X.seq, hold, look, lookAll, Cell.d?, cmpF, eqF_int, boolR, truthF, bltF, binF, asgF, frz, retF, resOf, endF, outAt, inAt, argCells, backIO, entry, argEnv])
    | true =>
      have := no_both hm hs3 (hb1.mp rfl)
      have x15 : ev (G n) true (.var 15) (e27 sc m s p5 o8 (Vd (.list (l1.map eP2))) v10 v11 r12 (Vb (judF (Mi m) (s + 2) (du m s) l1)) (Vd (.list (l5.map eS))) (Vb true) o16) = .ok (.val (.bool true)) (e27 sc m s p5 o8 (Vd (.list (l1.map eP2))) v10 v11 r12 (Vb (judF (Mi m) (s + 2) (du m s) l1)) (Vd (.list (l5.map eS))) (Vb true) o16) := by simp [exs, ex1, ev, evs, evr, evo, fin, truthR, R.bind, R.thenX, R.opt, X.seq, hold, look, lookAll, Cell.d?, cmpF, eqF_int, boolR, truthF, bltF, binF, asgF, frz, retF, resOf, endF, outAt, inAt, argCells, backIO, entry, argEnv]
      refine evAnd x15 ?_
      simp [exs, ex1, ev, evs, evr, evo, fin, truthR, R.bind, R.thenX, R.opt, X.seq, hold, look, lookAll, Cell.d?, cmpF, eqF_int, boolR, truthF, bltF, binF, asgF, frz, retF, resOf, endF, outAt, inAt, argCells, backIO, entry, argEnv, this]
  have s7 : ex1 (G n) (.ite (.orE (.notE (.call 16 [(.call 13 [(.var 2), (.var 3), (.var 14)] []), (.var 15)] [])) (.andE (.var 15) (.var 5))) [.ret (.cst (.bool false))] []) (e27 sc m s p5 o8 (Vd (.list (l1.map eP2))) v10 v11 r12 (Vb (judF (Mi m) (s + 2) (du m s) l1)) (Vd (.list (l5.map eS))) (Vb b2) o16) = .nx (e27 sc m s p5 o8 (Vd (.list (l1.map eP2))) v10 v11 r12 (Vb (judF (Mi m) (s + 2) (du m s) l1)) (Vd (.list (l5.map eS))) (Vb b2) o16) :=
    ite_no (evOr (sameE c7 rfl (evV rfl) rfl rfl rfl (same_bool (N := n + 8) _)) c8)
  exact ⟨p5, _, v10, v11, r12, _, _, _, ok5, .c _, w10, w11, t12, .c _, .c _, .c _, ex_nx s0 (ex_nx s1 (ex_nx s2 (ex_nx s3 (ex_nx s4 (ex_nx s5 (ex_nx s6 (ex_nx s7 rfl)))))))⟩
end
end K66

set_option linter.all false
set_option maxRecDepth 100000
set_option maxHeartbeats 400000
namespace K66
open PySem MP
theorem fact_closed : ∀ m : Nat, m < 6 → ∀ s : Nat, s < 3 → MP.start (Mi m) ∈ St m s ∧ ∀ x ∈ St m s, fineF (Mi m) (s + 2) (St m s) x = true := by decide +kernel
section
variable {m s : Nat}
theorem goal_in (hm : m < 6) (hs : s < 3) : (du m s).isSome = true ↔ ((0, 0, 1) : Sd) ∈ St m s := by
  rw [W_perm.mem_iff]
  show (lkS (Wt m s) goal).isSome = true ↔ _
  rw [Option.isSome_iff_ne_none, ne_eq, lkS_none, List.mem_map]
  constructor
  · intro h
    apply Classical.byContradiction
    intro z
    exact h fun p hp e => z ⟨p, hp, e⟩
  · rintro ⟨p, hp, e⟩ h
    exact h p hp e
theorem shown_st (hm : m < 6) (hs : s < 3) : Shown (Mi m) (s + 2) (St m s) ↔ (du m s).isSome = false := by
  constructor
  · exact no_both hm hs
  · intro h
    refine ⟨fact_asc m hm s hs, (fact_closed m hm s hs).1, fun z => ?_, (fact_closed m hm s hs).2⟩
    rw [(goal_in hm hs).mpr z] at h
    cases h
end
section
variable {N : Nat}
theorem same_P (x : Ld) : run T wf sub (N + 2) 16 [.val (eP2 x), .val (eP2 x)] = .ok (.val (.bool true)) none := same_tup (j := 16) rfl (by show 2 < 1073741824; decide) (fun d hd => same_flat (j := 16) rfl (.inl (by
  simp only [List.mem_cons, List.not_mem_nil, or_false] at hd
  rcases hd with rfl | rfl <;> exact ⟨_, rfl⟩)))
theorem same_St (x : Sd) : run T wf sub (N + 2) 16 [.val (eS x), .val (eS x)] = .ok (.val (.bool true)) none := same_tup (j := 16) rfl (by show 3 < 1073741824; decide) (fun d hd => same_flat (j := 16) rfl (.inl (by
  simp only [List.mem_cons, List.not_mem_nil, or_false] at hd
  rcases hd with rfl | rfl | rfl <;> exact ⟨_, rfl⟩)))
theorem same_oL (r : Option (List Ld)) (h : ∀ p, r = some p → p.length < 1000000) : run T wf sub (N + 3) 16 [.val (oL r), .val (oL r)] = .ok (.val (.bool true)) none := by
  cases r with
  | none => exact same_flat (j := 16) rfl (.inr (.inl rfl))
  | some p => exact same_of (j := 16) eP2 p rfl (h p rfl) (fun a _ => same_P a)
theorem same_oN (r : Option (List Ld)) : run T wf sub (N + 1) 16 [.val (oN r), .val (oN r)] = .ok (.val (.bool true)) none := by
  cases r with
  | none => exact same_flat (j := 16) rfl (.inr (.inl rfl))
  | some p => exact same_flat (j := 16) rfl (.inl ⟨_, rfl⟩)
theorem same_Sl (l : List Sd) (h : l.length < 1000000) : run T wf sub (N + 3) 16 [.val (.list (l.map eS)), .val (.list (l.map eS))] = .ok (.val (.bool true)) none := same_of (j := 16) eS l rfl h (fun a _ => same_St a)
end
section
variable {n : Nat} {sc : D}
abbrev g27 (sc : D) (m s : Nat) (ps : List D) (o5 o6 o7 : Option (Mode × Cell)) : MP.Env := [Vd sc, Od ps, Vi (Mi m), Vi (Si s), Dw (Wt m s), o5, o6, o7, none, none, none, none, none, none, none, none, none]
theorem ne_B (b : Bool) : cmpF .ne (.bool b) (.bool b) = some false := by
  show (eqF (.bool b) (.bool b)).map (!·) = _
  rw [eqF_bool, decide_eq_true rfl]
  rfl
theorem q4_ok {m s : Nat} {ps : List D} (hm : m < 6) (hs3 : s < 3) : ex1 (G n) q27_4 (g27 sc m s ps none none none) = .nx (g27 sc m s ps (Vb (du m s).isSome) none none) :=
  asg_val (i := 5) (s1 := g27 sc m s ps none none none) (d := .bool (du m s).isSome) (evCmpR (x := eS (0, 0, 1)) (y := .dict (eW (Wt m s))) (evTup3 evCst evCst evCst) rfl (evVarD rfl) rfl rfl (in_eW (W_ne hm hs3) _)) rfl .no
theorem q5_ok {m s : Nat} {ps : List D} (hm : m < 6) (hs3 : s < 3) : ex1 (G n) q27_5 (g27 sc m s ps (Vb (du m s).isSome) none none) = .nx (g27 sc m s ps (Vb (du m s).isSome) none none) := by
  have hg : (du m s).isSome = decide (Mi m ≤ [3, 5, 8][s]?.getD 0) := fact_good m hm s hs3
  have k1 := can_ok (n := n + 5) (m := Mi m) Mi1 (Mi8 hm) hs3
  rw [← hg] at k1
  have k2 := trip_ok (n := n + 6) (m := Mi m) (s := Si s) Mi1 (Mi8 hm) (by simp only [Si]; omega) (by simp only [Si]; omega)
  have c1 : ev (G n) false (.call 11 [(.var 2), (.var 3)] []) (g27 sc m s ps (Vb (du m s).isSome) none none) = .ok (.val (.bool (du m s).isSome)) (g27 sc m s ps (Vb (du m s).isSome) none none) := evCall (v := .val (.bool (du m s).isSome)) (ds := []) (evr1 (evV rfl) rfl (evr1 (evV rfl) rfl evr0)) rfl k1
  have c2 : ev (G n) false (.cmp .le (.var 2) (.idx (.list [(.cst (.int 3)), (.cst (.int 5)), (.cst (.int 8))]) (.bin .sub (.var 3) (.cst (.int 2))))) (g27 sc m s ps (Vb (du m s).isSome) none none) = .ok (.val (.bool (du m s).isSome)) (g27 sc m s ps (Vb (du m s).isSome) none none) := by
    generalize hb : Vb (du m s).isSome = vb
    rw [hg]
    match s, hs3 with
    | 0, _ => rfl
    | 1, _ => rfl
    | 2, _ => rfl
  have c3 : ev (G n) false (.call 2 [(.var 2), (.var 3)] []) (g27 sc m s ps (Vb (du m s).isSome) none none) = .ok (.val (.tuple [.int (Mi m), .int (Si s)])) (g27 sc m s ps (Vb (du m s).isSome) none none) := evCall (v := .val (.tuple [.int (Mi m), .int (Si s)])) (ds := []) (evr1 (evV rfl) rfl (evr1 (evV rfl) rfl evr0)) rfl k2
  have c4 : ev (G n) true (.cmp .ne (.var 5) (.cmp .le (.var 2) (.idx (.list [(.cst (.int 3)), (.cst (.int 5)), (.cst (.int 8))]) (.bin .sub (.var 3) (.cst (.int 2)))))) (g27 sc m s ps (Vb (du m s).isSome) none none) = .ok (.val (.bool false)) (g27 sc m s ps (Vb (du m s).isSome) none none) := evCmp (evV rfl) c2 (ne_B _)
  exact ite_no (evOr (sameE c1 rfl (evV rfl) rfl rfl rfl (same_bool (N := n + 8) _)) (evOr c4 (sameE c3 rfl (evTup2 (evV rfl) (evV rfl)) rfl rfl rfl (same_P (N := n + 7) (Mi m, Si s)))))
theorem q6_ok {m s : Nat} {ps : List D} (hm : m < 6) (hs3 : s < 3) : ex1 (G n) q27_6 (g27 sc m s ps (Vb (du m s).isSome) none none) = .nx (g27 sc m s ps (Vb (du m s).isSome) (Vd (oL (du m s))) none) := by
  have t0 : ∀ k, (du m s).isSome = k → ev (G n) true (.var 5) (g27 sc m s ps (Vb (du m s).isSome) none none) = .ok (.val (.bool k)) (g27 sc m s ps (Vb (du m s).isSome) none none) := fun k hk => by
    rw [← hk]
    simp [exs, ex1, ev, evs, evr, evo, fin, truthR, R.bind, R.thenX, R.opt, X.seq, hold, look, lookAll, Cell.d?, cmpF, eqF_int, boolR, truthF, bltF, binF, asgF, frz, retF, resOf, endF, outAt, inAt, argCells, backIO, entry, argEnv]
  refine asg_val (i := 6) (s1 := g27 sc m s ps (Vb (du m s).isSome) none none) (d := oL (du m s)) ?_ rfl .no
  cases hd : du m s with
  | none =>
    have t1 := t0 false (by rw [hd]; rfl)
    rw [hd] at t1
    exact ifeF t1 evCst
  | some p =>
    have t1 := t0 true (by rw [hd]; rfl)
    rw [hd] at t1
    exact ifeT t1 (evDget (kk := eS (0, 0, 1)) (kvs0 := eW (Wt m s)) (kvs := eW (Wt m s)) (d := .list (p.map eP2)) rfl (evTup3 evCst evCst evCst) rfl rfl (by
      have hl : lkS (Wt m s) (0, 0, 1) = some p := hd
      rw [dGet_eW (W_ne hm hs3), hl]
      rfl))
theorem q7_ok {m s : Nat} {ps : List D} (hm : m < 6) (hs3 : s < 3) : ex1 (G n) q27_7 (g27 sc m s ps (Vb (du m s).isSome) (Vd (oL (du m s))) none) = .nx (g27 sc m s ps (Vb (du m s).isSome) (Vd (oL (du m s))) none) := by
  have k1 := plan_ok' (n := n + 1) (m := Mi m) Mi1 (Mi8 hm) hs3 (fact_plan hm hs3)
  have k2 := fewest_ok (n := n) (m := Mi m) Mi1 (Mi8 hm) hs3 (fact_plan hm hs3)
  have c1 : ev (G n) false (.call 9 [(.var 2), (.var 3)] []) (g27 sc m s ps (Vb (du m s).isSome) (Vd (oL (du m s))) none) = .ok (.val (oL (du m s))) (g27 sc m s ps (Vb (du m s).isSome) (Vd (oL (du m s))) none) := evCall (v := .val (oL (du m s))) (ds := []) (evr1 (evV rfl) rfl (evr1 (evV rfl) rfl evr0)) rfl k1
  have c2 : ev (G n) false (.call 15 [(.var 2), (.var 3)] []) (g27 sc m s ps (Vb (du m s).isSome) (Vd (oL (du m s))) none) = .ok (.val (oN (du m s))) (g27 sc m s ps (Vb (du m s).isSome) (Vd (oL (du m s))) none) := evCall (v := .val (oN (du m s))) (ds := []) (evr1 (evV rfl) rfl (evr1 (evV rfl) rfl evr0)) rfl k2
  have c3 : ev (G n) false (.ife (.var 5) (.blt .len [(.var 6)]) (.cst .none)) (g27 sc m s ps (Vb (du m s).isSome) (Vd (oL (du m s))) none) = .ok (.val (oN (du m s))) (g27 sc m s ps (Vb (du m s).isSome) (Vd (oL (du m s))) none) := by
    have t0 : ∀ k, (du m s).isSome = k → ev (G n) true (.var 5) (g27 sc m s ps (Vb (du m s).isSome) (Vd (oL (du m s))) none) = .ok (.val (.bool k)) (g27 sc m s ps (Vb (du m s).isSome) (Vd (oL (du m s))) none) := fun k hk => by
      rw [← hk]
      simp [exs, ex1, ev, evs, evr, evo, fin, truthR, R.bind, R.thenX, R.opt, X.seq, hold, look, lookAll, Cell.d?, cmpF, eqF_int, boolR, truthF, bltF, binF, asgF, frz, retF, resOf, endF, outAt, inAt, argCells, backIO, entry, argEnv]
    cases hd : du m s with
    | none =>
      have t1 := t0 false (by rw [hd]; rfl)
      rw [hd] at t1
      exact ifeF t1 evCst
    | some p =>
      have t1 := t0 true (by rw [hd]; rfl)
      rw [hd] at t1
      exact ifeT t1 (evBlt1 (x := .list (p.map eP2)) (evV rfl) rfl rfl (lenM eP2 p))
  exact ite_no (evOr (sameE c1 rfl (evV rfl) rfl rfl rfl (same_oL (N := n + 6) _ (fun p hp => by have := (fact_due m hm s hs3 p hp).1; omega))) (sameE c2 rfl c3 rfl rfl rfl (same_oN (N := n + 8) _)))
theorem q8_ok {m s : Nat} {ps : List D} (hm : m < 6) (hs3 : s < 3) : ex1 (G n) q27_8 (g27 sc m s ps (Vb (du m s).isSome) (Vd (oL (du m s))) none) = .nx (g27 sc m s ps (Vb (du m s).isSome) (Vd (oL (du m s))) (Od ((St m s).map eS))) :=
  asg_tmp (i := 7) (s1 := g27 sc m s ps (Vb (du m s).isSome) (Vd (oL (du m s))) none) (c := .lst ((St m s).map eS)) (evLib1 (x := .dict (eW (Wt m s))) (evVarD rfl) rfl rfl (sortK_W (W_ne hm hs3) (W_bnd hm hs3) (by have := (W_len hm hs3).2; unfold big; omega))) rfl .no
theorem q9_ok {m s : Nat} {ps : List D} (hm : m < 6) (hs3 : s < 3) : ex1 (G n) q27_9 (g27 sc m s ps (Vb (du m s).isSome) (Vd (oL (du m s))) (Od ((St m s).map eS))) = .nx (g27 sc m s ps (Vb (du m s).isSome) (Vd (oL (du m s))) (Vd (.list ((St m s).map eS)))) := by
  obtain ⟨r, hr, hsr, hlr⟩ := fact_reach hm hs3
  have k1 := reached_ok (n := n) (m := Mi m) Mi1 (Mi8 hm) hs3 hr (by omega)
  have hsr : srtS r = St m s := hsr
  rw [hsr] at k1
  have H := S_tl hm hs3
  obtain ⟨b, k2, hb⟩ := jnot_ok (n := n) (ls := St m s) (m := Mi m) Mi1 (Mi8 hm) hs3 (H.told (by decide))
  have hbb : b = !(du m s).isSome := by
    have h1 := shown_st hm hs3
    cases hd : (du m s).isSome with
    | true =>
      cases b with
      | false => rfl
      | true =>
        have := h1.mp (hb.mp rfl)
        rw [hd] at this
        cases this
    | false => exact hb.mpr (h1.mpr hd)
  have c1 : ev (G n) false (.call 14 [(.var 2), (.var 3)] []) (g27 sc m s ps (Vb (du m s).isSome) (Vd (oL (du m s))) (Od ((St m s).map eS))) = .ok (.tmp (.lst ((St m s).map eS))) (g27 sc m s ps (Vb (du m s).isSome) (Vd (oL (du m s))) (Od ((St m s).map eS))) := evCall (v := .lst ((St m s).map eS)) (ds := []) (evr1 (evV rfl) rfl (evr1 (evV rfl) rfl evr0)) rfl k1
  have c2 : ev (G n) true (.notE (.call 16 [(.call 14 [(.var 2), (.var 3)] []), (.var 7)] [])) (g27 sc m s ps (Vb (du m s).isSome) (Vd (oL (du m s))) (Od ((St m s).map eS))) = .ok (.val (.bool false)) (g27 sc m s ps (Vb (du m s).isSome) (Vd (oL (du m s))) (Vd (.list ((St m s).map eS)))) := sameE (d := .list ((St m s).map eS)) c1 rfl (evBor rfl) rfl rfl rfl (same_Sl (N := n + 6) _ (by have := H.l; omega))
  have c3 : ev (G n) false (.call 13 [(.var 2), (.var 3), (.blt .list [(.var 7)])] []) (g27 sc m s ps (Vb (du m s).isSome) (Vd (oL (du m s))) (Vd (.list ((St m s).map eS)))) = .ok (.val (.bool b)) (g27 sc m s ps (Vb (du m s).isSome) (Vd (oL (du m s))) (Vd (.list ((St m s).map eS)))) := evCall (v := .val (.bool b)) (ds := []) (evr1 (evV rfl) rfl (evr1 (evV rfl) rfl (evr1 (evBlt1 (x := .list ((St m s).map eS)) (evV rfl) rfl rfl rfl) rfl evr0))) rfl k2
  have c4 : ev (G n) false (.notE (.var 5)) (g27 sc m s ps (Vb (du m s).isSome) (Vd (oL (du m s))) (Vd (.list ((St m s).map eS)))) = .ok (.val (.bool b)) (g27 sc m s ps (Vb (du m s).isSome) (Vd (oL (du m s))) (Vd (.list ((St m s).map eS)))) := by
    rw [hbb]
    simp [exs, ex1, ev, evs, evr, evo, fin, truthR, R.bind, R.thenX, R.opt, X.seq, hold, look, lookAll, Cell.d?, cmpF, eqF_int, boolR, truthF, bltF, binF, asgF, frz, retF, resOf, endF, outAt, inAt, argCells, backIO, entry, argEnv]
  exact ite_no (evOr c2 (sameE c3 rfl c4 rfl rfl rfl (same_bool (N := n + 8) _)))
theorem q10_ok {m s : Nat} {ps : List D} (hm : m < 6) (hs3 : s < 3) (ok : PoolOk ps) : ∃ ps' o8 o9 o10 o11 o12 o13 o14 o15, PoolOk ps' ∧ ex1 (G n) q27_10 (e27 sc m s ps none none none none none none none none none) = .nx (e27 sc m s ps' o8 o9 o10 o11 o12 o13 o14 o15 none) := by
  obtain ⟨s', lp, q, o8, o9, o10, o11, o12, o13, o14, o15, okq, f8, f9, f10, f11, f12, f13, f14, f15, rfl⟩ := loopX_ex (t := .name 8) (body := fun se => exs (G n) L27_2 se) (items := (List.range 6).map fun (k : Nat) => PyData.int k) (s := e27 sc m s ps none none none none none none none none none) (fun j st => ∃ (q : List D) (o8 o9 o10 o11 o12 o13 o14 o15 : Option (Mode × Cell)), PoolOk q ∧ Fr o8 ∧ FrC o9 ∧ Fr o10 ∧ FrC o11 ∧ FrC o12 ∧ FrC o13 ∧ FrC o14 ∧ FrC o15 ∧ st = e27 sc m s q o8 o9 o10 o11 o12 o13 o14 o15 none) ⟨ps, none, none, none, none, none, none, none, none, ok, .no, .no, .no, .no, .no, .no, .no, .no, rfl⟩ (by
    rintro j hj st ⟨q, o8, o9, o10, o11, o12, o13, o14, o15, okq, f8, f9, f10, f11, f12, f13, f14, f15, rfl⟩
    generalize ((List.range 6).map fun (k : Nat) => PyData.int k)[j] = dk
    obtain ⟨p', q9, q10, q11, q12, q13, q14, q15, ok', g9, g10, g11, g12, g13, g14, g15, e⟩ := k_body (n := n) (sc := sc) (o8 := Vd dk) (o16 := none) hm hs3 okq f9 f10 f11 f12 f13 f14 f15
    exact ⟨f8.free rfl, e27 sc m s q (Vd dk) o9 o10 o11 o12 o13 o14 o15 none, rfl, _, e, p', _, q9, q10, q11, q12, q13, q14, q15, ok', .v _, g9, g10, g11, g12, g13, g14, g15, rfl⟩)
  exact ⟨q, o8, o9, o10, o11, o12, o13, o14, o15, okq, for_nx (evr1 evCst rfl evr0) rfl (itR (m := 6) (by decide)) rfl lp⟩
theorem q11_ok {m s : Nat} {ps : List D} {o8 o9 o10 o11 o12 o13 o14 o15 : Option (Mode × Cell)} (ok : PoolOk ps) : ∃ ps' o16, PoolOk ps' ∧ ex1 (G n) q27_11 (e27 sc m s ps o8 o9 o10 o11 o12 o13 o14 o15 none) = .nx (e27 sc m s ps' o8 o9 o10 o11 o12 o13 o14 o15 o16) := by
  obtain ⟨s', lp, q, o16, okq, f16, rfl⟩ := loopX_ex (t := .name 16) (body := fun se => exs (G n) L27_3 se) (items := ([0, 1, 2, 3] : List Int).map PyData.int) (s := e27 sc m s ps o8 o9 o10 o11 o12 o13 o14 o15 none) (fun j st => ∃ (q : List D) (o16 : Option (Mode × Cell)), PoolOk q ∧ Fr o16 ∧ st = e27 sc m s q o8 o9 o10 o11 o12 o13 o14 o15 o16) ⟨ps, none, ok, .no, rfl⟩ (by
    rintro j hj st ⟨q, o16, okq, f16, rfl⟩
    have hj' : j < ([0, 1, 2, 3] : List Int).length := by rw [List.length_map] at hj; exact hj
    have hc := List.getElem_mem hj'
    rw [List.getElem_map]
    generalize ([0, 1, 2, 3] : List Int)[j] = c at hc
    have hc : c = 0 ∨ c = 1 ∨ c = 2 ∨ c = 3 := by simpa using hc
    have i1 : ev (G n) false (.list [(.cst (.int 0)), (.cst (.int 9)), (.cst (.bool true))]) (e27 sc m s q o8 o9 o10 o11 o12 o13 o14 o15 (Vi c)) = .ok (.tmp (.lst [.int 0, .int 9, .bool true])) (e27 sc m s q o8 o9 o10 o11 o12 o13 o14 o15 (Vi c)) := by simp [exs, ex1, ev, evs, evr, evo, fin, truthR, R.bind, R.thenX, R.opt, X.seq, hold, look, lookAll, Cell.d?, cmpF, eqF_int, boolR, truthF, bltF, binF, asgF, frz, retF, resOf, endF, outAt, inAt, argCells, backIO, entry, argEnv]
    obtain ⟨k1, hk1, p1, e1, ok1⟩ := pick_at (T := T) (wf := wf) (sub := sub) (n := n + 7) (jp := 19) (jd := 18) (i := 1) (md := .fr) (F := fun q => e27 sc m s q o8 o9 o10 o11 o12 o13 o14 o15 (Vi c)) rfl rfl rfl i1 rfl (by decide) rfl rfl (fun _ => rfl) (by simp) (by simp) okq (by simp)
    have h1 : numF [PyData.int 0, .int 9, .bool true][k1] 1 8 = false := by
      have := List.getElem_mem hk1
      generalize [PyData.int 0, .int 9, .bool true][k1] = d at this
      simp only [List.mem_cons, List.not_mem_nil, or_false] at this
      rcases this with rfl | rfl | rfl <;> rfl
    have i2 : ev (G n) false (.list [(.cst (.int 1)), (.cst (.int 9)), (.cst (.bool true))]) (e27 sc m s p1 o8 o9 o10 o11 o12 o13 o14 o15 (Vi c)) = .ok (.tmp (.lst [.int 1, .int 9, .bool true])) (e27 sc m s p1 o8 o9 o10 o11 o12 o13 o14 o15 (Vi c)) := by simp [exs, ex1, ev, evs, evr, evo, fin, truthR, R.bind, R.thenX, R.opt, X.seq, hold, look, lookAll, Cell.d?, cmpF, eqF_int, boolR, truthF, bltF, binF, asgF, frz, retF, resOf, endF, outAt, inAt, argCells, backIO, entry, argEnv]
    obtain ⟨k2, hk2, p2, e2, ok2⟩ := pick_at (T := T) (wf := wf) (sub := sub) (n := n + 7) (jp := 19) (jd := 18) (i := 1) (md := .fr) (F := fun q => e27 sc m s q o8 o9 o10 o11 o12 o13 o14 o15 (Vi c)) rfl rfl rfl i2 rfl (by decide) rfl rfl (fun _ => rfl) (by simp) (by simp) ok1 (by simp)
    have h2 : numF [PyData.int 1, .int 9, .bool true][k2] 2 8 = false := by
      have := List.getElem_mem hk2
      generalize [PyData.int 1, .int 9, .bool true][k2] = d at this
      simp only [List.mem_cons, List.not_mem_nil, or_false] at this
      rcases this with rfl | rfl | rfl <;> rfl
    have r1 := refused_ok (n := n + 4) (d := [PyData.int 0, .int 9, .bool true][k1]) (e := .int 2) hc (.inl h1)
    have r2 := refused_ok (n := n + 4) (d := .int 2) (e := [PyData.int 1, .int 9, .bool true][k2]) hc (.inr h2)
    refine ⟨f16.free rfl, e27 sc m s q o8 o9 o10 o11 o12 o13 o14 o15 (Vi c), rfl, e27 sc m s p2 o8 o9 o10 o11 o12 o13 o14 o15 (Vi c), ?_, p2, _, ok2, .v _, rfl⟩
    show exs (G n) L27_3 _ = _
    rw [L27_3]
    exact ex_nx (ite_no (evOr (evNotT (evCallT (ds := []) (evr1 (evV rfl) rfl (evr1 e1 rfl (evr1 evCst rfl evr0))) rfl r1)) (evNotT (evCallT (ds := []) (evr1 (evV rfl) rfl (evr1 evCst rfl (evr1 e2 rfl evr0))) rfl r2)))) rfl)
  have i0 : ev (G n) false (.tup [(.cst (.int 0)), (.cst (.int 1)), (.cst (.int 2)), (.cst (.int 3))]) (e27 sc m s ps o8 o9 o10 o11 o12 o13 o14 o15 none) = .ok (.val (.tuple (([0, 1, 2, 3] : List Int).map PyData.int))) (e27 sc m s ps o8 o9 o10 o11 o12 o13 o14 o15 none) := by simp [exs, ex1, ev, evs, evr, evo, fin, truthR, R.bind, R.thenX, R.opt, X.seq, hold, look, lookAll, Cell.d?, cmpF, eqF_int, boolR, truthF, bltF, binF, asgF, frz, retF, resOf, endF, outAt, inAt, argCells, backIO, entry, argEnv]
  exact ⟨q, o16, okq, for_nx (evr1 i0 rfl evr0) rfl rfl rfl lp⟩
end
theorem law_runs (ns : List Int) (hl : ns.length ≤ 63) : MP.run T wf sub depth 27 [.val (.list (ns.map PyData.int))] = .ok (.val (.bool true)) none := by
  have hd : depth = 30 + 9 + 1 := rfl
  rw [hd, run_eq rfl rfl]
  have e0 := pool_ok (T := T) (wf := wf) (sub := sub) (n := 38) (j := 17) (ns := ns) rfl
  show endF _ (exs (G 30) c27 [Vd (.list (ns.map .int)), none, none, none, none, none, none, none, none, none, none, none, none, none, none, none, none]) = _
  generalize hq : PyData.list (ns.map .int) = sc at *
  have s0 : ex1 (G 30) q27_0 [Vd sc, none, none, none, none, none, none, none, none, none, none, none, none, none, none, none, none] = .nx [Vd sc, Od (pool ns 0 0 0 0), none, none, none, none, none, none, none, none, none, none, none, none, none, none, none] := by simp [q27_0, exs, ex1, ev, evs, evr, evo, fin, truthR, R.bind, R.thenX, R.opt, X.seq, hold, look, lookAll, Cell.d?, cmpF, eqF_int, boolR, truthF, bltF, binF, asgF, frz, retF, resOf, endF, outAt, inAt, argCells, backIO, entry, argEnv, pm17, e0]
  obtain ⟨z, p1, e1, z0, z1, ok1⟩ := draw_at (T := T) (wf := wf) (sub := sub) (n := 38) (jd := 18) (i := 1) (md := .fr) (s := [Vd sc, Od (pool ns 0 0 0 0), none, none, none, none, none, none, none, none, none, none, none, none, none, none, none]) (F := fun q => [Vd sc, Od q, none, none, none, none, none, none, none, none, none, none, none, none, none, none, none]) (e := .cst (.int 6)) (m := 6) rfl rfl evCst rfl (by decide) (fun _ => rfl) (by decide) (by decide) (poolOk0 ns)
  obtain ⟨m, hm⟩ : ∃ m : Nat, z = m := ⟨z.toNat, by omega⟩
  subst hm
  have m6 : m < 6 := by omega
  have s1 : ex1 (G 30) q27_1 [Vd sc, Od (pool ns 0 0 0 0), none, none, none, none, none, none, none, none, none, none, none, none, none, none, none] = .nx [Vd sc, Od p1, Vi (Mi m), none, none, none, none, none, none, none, none, none, none, none, none, none, none] := asg_val (d := .int (Mi m)) (evB evCst e1 (by show some (Res.val (.int (1 + (m : Int)))) = _; rw [Int.add_comm])) rfl .no
  obtain ⟨z, p2, e2, z0', z1', ok2⟩ := draw_at (T := T) (wf := wf) (sub := sub) (n := 38) (jd := 18) (i := 1) (md := .fr) (s := [Vd sc, Od p1, Vi (Mi m), none, none, none, none, none, none, none, none, none, none, none, none, none, none]) (F := fun q => [Vd sc, Od q, Vi (Mi m), none, none, none, none, none, none, none, none, none, none, none, none, none, none]) (e := .cst (.int 3)) (m := 3) rfl rfl evCst rfl (by decide) (fun _ => rfl) (by decide) (by decide) ok1
  obtain ⟨s, hs⟩ : ∃ s : Nat, z = s := ⟨z.toNat, by omega⟩
  subst hs
  have s3 : s < 3 := by omega
  have s2 : ex1 (G 30) q27_2 [Vd sc, Od p1, Vi (Mi m), none, none, none, none, none, none, none, none, none, none, none, none, none, none] = .nx [Vd sc, Od p2, Vi (Mi m), Vi (Si s), none, none, none, none, none, none, none, none, none, none, none, none, none] := asg_val (d := .int (Si s)) (evB evCst e2 (by
    show some (Res.val (.int (2 + (s : Int)))) = _
    congr 3
    simp only [Si]
    omega)) rfl .no
  have kw := ways_ok (n := 36) (m := Mi m) Mi1 (Mi8 m6) s3 (fact_ways m6 s3)
  have s3' : ex1 (G 30) q27_3 [Vd sc, Od p2, Vi (Mi m), Vi (Si s), none, none, none, none, none, none, none, none, none, none, none, none, none] = .nx (g27 sc m s p2 none none none) := asg_tmp (i := 4) (s1 := [Vd sc, Od p2, Vi (Mi m), Vi (Si s), none, none, none, none, none, none, none, none, none, none, none, none, none]) (c := .dic (eW (Wt m s))) (evCall (v := .dic (eW (Wt m s))) (ds := []) (evr1 (evV rfl) rfl (evr1 (evV rfl) rfl evr0)) rfl kw) rfl .no
  have s4 := q4_ok (n := 30) (sc := sc) (ps := p2) m6 s3
  have s5 := q5_ok (n := 30) (sc := sc) (ps := p2) m6 s3
  have s6 := q6_ok (n := 30) (sc := sc) (ps := p2) m6 s3
  have s7 := q7_ok (n := 30) (sc := sc) (ps := p2) m6 s3
  have s8 := q8_ok (n := 30) (sc := sc) (ps := p2) m6 s3
  have s9 := q9_ok (n := 30) (sc := sc) (ps := p2) m6 s3
  obtain ⟨p3, o8, o9, o10, o11, o12, o13, o14, o15, ok3, s10⟩ := q10_ok (n := 30) (sc := sc) m6 s3 ok2
  obtain ⟨p4, o16, ok4, s11⟩ := q11_ok (n := 30) (sc := sc) (m := m) (s := s) (o8 := o8) (o9 := o9) (o10 := o10) (o11 := o11) (o12 := o12) (o13 := o13) (o14 := o14) (o15 := o15) ok3
  rw [c27, exs_nx s0, exs_nx s1, exs_nx s2, exs_nx s3', exs_nx s4, exs_nx s5, exs_nx s6, exs_nx s7, exs_nx s8, exs_nx s9, exs_nx s10, exs_nx s11, q27_12, exs_ret (retV evCst)]
  rfl
end K66

open PySem PySem.W PyProof.Rows
set_option maxRecDepth 100000 in
set_option maxHeartbeats 0 in
theorem PySem.Challenge.cw_crewshares_k66_whole_crossings_both_ways_holds : PySem.Challenge.rw_crewshares_k66_whole_crossings_both_ways.Holds := by
  w_on; o_law; k_head; (case hw => w_witness2)
  k_fill
  refine L2.walk_of (l := PySem.Challenge.rw_crewshares_k66_whole_crossings_both_ways) (n := 63) (k := K66.depth + 2) (x := "script") (CX := fun w => L2N.CX PySem.Challenge.rw_crewshares_k66_whole_crossings_both_ways.prog w) (sp := fun w => MP.spL _) rfl (by decide) rfl ⟨rfl, by decide, by decide⟩ (fun w h Y => PySem.W.kIn_of Y) ?F (fun _ _ a ns hl hO hS => ⟨a, ns, rfl, hS, hO, hl, fun _ => rfl⟩) (fun _ _ _ _ _ h => MP.cx_none h)
  case F =>
    intro w mg fa h KX G hmg
    refine' K66.fin_all K66.law_runs KX G hmg ?hA0 ?hL0 ?hT0 ?hC0 ?hK0 ?hA1 ?hL1 ?hT1 ?hC1 ?hK1 ?hA2 ?hL2 ?hC2 ?hK2 ?hA3 ?hL3 ?hC3 ?hK3 ?hA4 ?hL4 ?hC4 ?hK4 ?hA5 ?hL5 ?hC5 ?hK5 ?hA6 ?hL6 ?hC6 ?hK6 ?hA7 ?hL7 ?hC7 ?hK7 ?hA8 ?hL8 ?hC8 ?hK8 ?hA9 ?hL9 ?hC9 ?hK9 ?hA10 ?hL10 ?hC10 ?hK10 ?hA11 ?hL11 ?hC11 ?hK11 ?hA12 ?hL12 ?hC12 ?hK12 ?hA13 ?hL13 ?hC13 ?hK13 ?hA14 ?hL14 ?hC14 ?hK14 ?hA15 ?hL15 ?hC15 ?hK15 ?hA16 ?hL16 ?hC16 ?hK16 ?hA17 ?hL17 ?hC17 ?hK17 ?hA18 ?hL18 ?hC18 ?hK18 ?hA19 ?hL19 ?hC19 ?hK19 ?hA20 ?hL20 ?hC20 ?hK20 ?hA21 ?hL21 ?hC21 ?hK21 ?hA22 ?hL22 ?hC22 ?hK22 ?hA23 ?hL23 ?hC23 ?hK23 ?hA24 ?hL24 ?hC24 ?hK24 ?hA25 ?hL25 ?hC25 ?hK25 ?hA26 ?hL26 ?hC26 ?hK26 ?hA27 ?hL27 ?hC27 ?hK27 ?eN0 ?eN1 ?eN2 ?eX0 ?eK0 ?eS0 ?eT0 ?eG0 ?eH0 ?eD0 ?eA0 ?eM0 ?eB0_0 ?eB0_1 ?eB0_2 ?eI0_0 ?eI0_1 ?eI0_2 ?eV0 ?eX1 ?eK1 ?eS1 ?eT1 ?eG1 ?eH1 ?eD1 ?eA1 ?eM1 ?eB1_0 ?eB1_1 ?eB1_2 ?eI1_0 ?eI1_1 ?eI1_2 ?eV1 ?eX2 ?eK2 ?eS2 ?eT2 ?eG2 ?eH2 ?eD2 ?eA2 ?eM2 ?eB2_0 ?eB2_1 ?eB2_2 ?eI2_0 ?eI2_1 ?eI2_2 ?eV2 ?eP ?eQ ?hz_ValueError ?hz_abs ?hz_bool ?hz_int ?hz_isinstance ?hz_len ?hz_list ?hz_min ?hz_range ?hz_reversed ?hz_sorted ?hz_str ?hz_tuple ?hg_MOST
    (case hA0 => k_is); (case hL0 => k_is); (case hT0 => k_is); (case hC0 => k_is); (case hK0 => k_is); (case hA1 => k_is); (case hL1 => k_is); (case hT1 => k_is); (case hC1 => k_is); (case hK1 => k_is); (case hA2 => k_is); (case hL2 => k_is); (case hC2 => k_is); (case hK2 => k_is); (case hA3 => k_is); (case hL3 => k_is); (case hC3 => k_is); (case hK3 => k_is); (case hA4 => k_is); (case hL4 => k_is); (case hC4 => k_is); (case hK4 => k_is); (case hA5 => k_is); (case hL5 => k_is); (case hC5 => k_is); (case hK5 => k_is); (case hA6 => k_is); (case hL6 => k_is); (case hC6 => k_is); (case hK6 => k_is); (case hA7 => k_is); (case hL7 => k_is); (case hC7 => k_is); (case hK7 => k_is); (case hA8 => k_is); (case hL8 => k_is); (case hC8 => k_is); (case hK8 => k_is); (case hA9 => k_is); (case hL9 => k_is); (case hC9 => k_is); (case hK9 => k_is); (case hA10 => k_is); (case hL10 => k_is); (case hC10 => k_is); (case hK10 => k_is); (case hA11 => k_is); (case hL11 => k_is); (case hC11 => k_is); (case hK11 => k_is); (case hA12 => k_is); (case hL12 => k_is); (case hC12 => k_is); (case hK12 => k_is); (case hA13 => k_is); (case hL13 => k_is); (case hC13 => k_is); (case hK13 => k_is); (case hA14 => k_is); (case hL14 => k_is); (case hC14 => k_is); (case hK14 => k_is); (case hA15 => k_is); (case hL15 => k_is); (case hC15 => k_is); (case hK15 => k_is); (case hA16 => k_is); (case hL16 => k_is); (case hC16 => k_is); (case hK16 => k_is); (case hA17 => k_is); (case hL17 => k_is); (case hC17 => k_is); (case hK17 => k_is); (case hA18 => k_is); (case hL18 => k_is); (case hC18 => k_is); (case hK18 => k_is); (case hA19 => k_is); (case hL19 => k_is); (case hC19 => k_is); (case hK19 => k_is); (case hA20 => k_is); (case hL20 => k_is); (case hC20 => k_is); (case hK20 => k_is); (case hA21 => k_is); (case hL21 => k_is); (case hC21 => k_is); (case hK21 => k_is); (case hA22 => k_is); (case hL22 => k_is); (case hC22 => k_is); (case hK22 => k_is); (case hA23 => k_is); (case hL23 => k_is); (case hC23 => k_is); (case hK23 => k_is); (case hA24 => k_is); (case hL24 => k_is); (case hC24 => k_is); (case hK24 => k_is); (case hA25 => k_is); (case hL25 => k_is); (case hC25 => k_is); (case hK25 => k_is); (case hA26 => k_is); (case hL26 => k_is); (case hC26 => k_is); (case hK26 => k_is); (case hA27 => k_is); (case hL27 => k_is); (case hC27 => k_is); (case hK27 => k_is); (case eN0 => k_is); (case eN1 => k_is); (case eN2 => k_is); (case eX0 => k_exc); (case eK0 => k_is); (case eS0 => k_is); (case eT0 => k_is); (case eG0 => k_is); (case eH0 => k_is); (case eD0 => k_is); (case eA0 => k_is); (case eM0 => k_is); (case eB0_0 => k_is); (case eB0_1 => k_is); (case eB0_2 => k_is); (case eI0_0 => kit_is); (case eI0_1 => kit_is); (case eI0_2 => kit_is); (case eV0 => kit_is); (case eX1 => k_exc); (case eK1 => k_is); (case eS1 => k_is); (case eT1 => k_is); (case eG1 => k_is); (case eH1 => k_is); (case eD1 => k_is); (case eA1 => k_is); (case eM1 => k_is); (case eB1_0 => k_is); (case eB1_1 => k_is); (case eB1_2 => k_is); (case eI1_0 => kit_is); (case eI1_1 => kit_is); (case eI1_2 => kit_is); (case eV1 => kit_is); (case eX2 => k_exc); (case eK2 => k_is); (case eS2 => k_is); (case eT2 => k_is); (case eG2 => k_is); (case eH2 => k_is); (case eD2 => k_is); (case eA2 => k_is); (case eM2 => k_is); (case eB2_0 => k_is); (case eB2_1 => k_is); (case eB2_2 => k_is); (case eI2_0 => kit_is); (case eI2_1 => kit_is); (case eI2_2 => kit_is); (case eV2 => kit_is); (case eP => k_is); (case eQ => k_is); (case hz_ValueError => k_is); (case hz_abs => k_is); (case hz_bool => k_is); (case hz_int => k_is); (case hz_isinstance => k_is); (case hz_len => k_is); (case hz_list => k_is); (case hz_min => k_is); (case hz_range => k_is); (case hz_reversed => k_is); (case hz_sorted => k_is); (case hz_str => k_is); (case hz_tuple => k_is); (case hg_MOST => k_is)
