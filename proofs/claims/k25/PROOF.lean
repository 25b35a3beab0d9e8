import PyProof.Rows.All
import Wide.All
import OpenK.AllK
import Wide.FinOn
import HandS.ForMost
import HandS.ForExc
import HandS.Wide
import HandS.Flow
import KE.KDictKeyed
import KE.DataEq
import HandS.TupLe
import HandS.IsInst
import HandS.Steps
import HandS.Text
import HandS.More
import HandS.Small
import HandS.Dict
import HandS.Conv
import KE.KIntText
import PyProof.Rows.RegStrIntText
import PyProof.ListStr
import KE.SortData
import KE.KDictWalk
import KE.SortKeyHeap
import HandS.SortKw
import HandS.SetKeys
import PySem.Challenge.RW_allparts_k25_how_many_parts
set_option autoImplicit false
set_option linter.all false
set_option maxRecDepth 100000
set_option maxHeartbeats 4000000
set_option Elab.async false
/-! A1: pure data, the mini language, and what it means. Core Lean alone. -/
namespace Al

/-- a text: its code points -/
abbrev W := List Nat

/-- pure data. dic: t tells whether tuples are its keys (else ints and texts). scr: the script as it is handed in; obj: an instance of the class c, its attributes by number -/
inductive D where
  | non | bl (b : Bool) | int (i : Int) | str (w : W) | scr (ns : List Int)
  | lst (xs : List D) | tup (xs : List D) | dic (t : Bool) (kvs : List (D × D)) | obj (c : Nat) (fs : List (Nat × D))
  | exc (c : Nat)

/-- what may be done with a thing: fr: nobody else has it; st: it stands still from now on; bo: borrowed until the next change -/
inductive Kd where | fr | st | bo
  deriving DecidableEq

abbrev Env := List (Option (D × Kd))

/-- the longest a list may be -/
def LINE : Nat := 16777216

/-! ### flat things: no part of them can change -/
def flatN : Nat → D → Bool
  | _, .non => true
  | _, .bl _ => true
  | _, .int _ => true
  | _, .str _ => true
  | _, .scr _ => true
  | n + 1, .tup xs => xs.all (flatN n)
  | _, _ => false
def flat (d : D) : Bool := flatN 4 d
/-- data without objects and dicts, by a bound of its depth -/
def plainN : Nat → D → Bool
  | _, .non => true
  | _, .bl _ => true
  | _, .int _ => true
  | _, .str _ => true
  | n + 1, .tup xs => xs.all (plainN n)
  | n + 1, .lst xs => xs.all (plainN n)
  | _, _ => false
/-- no truth within (ints is: no int within) -/
def noBl : Nat → D → Bool
  | _, .bl _ => false
  | n + 1, .tup xs => xs.all (noBl n)
  | n + 1, .lst xs => xs.all (noBl n)
  | _, _ => true
def noInt : Nat → D → Bool
  | _, .int _ => false
  | n + 1, .tup xs => xs.all (noInt n)
  | n + 1, .lst xs => xs.all (noInt n)
  | _, _ => true

/-- == on plain data -/
def eqL (e : D → D → Bool) : List D → List D → Bool
  | [], [] => true
  | x :: xs, y :: ys => e x y && eqL e xs ys
  | _, _ => false
def b2i (b : Bool) : Int := if b then 1 else 0
def eqN : Nat → D → D → Bool
  | _, .non, .non => true
  | _, .bl a, .bl b => a == b
  | _, .bl a, .int j => b2i a == j
  | _, .int i, .bl b => i == b2i b
  | _, .int i, .int j => i == j
  | _, .str v, .str w => v == w
  | n + 1, .lst xs, .lst ys => eqL (eqN n) xs ys
  | n + 1, .tup xs, .tup ys => eqL (eqN n) xs ys
  | _, _, _ => false
/-- how deep compared data may be -/
abbrev DEEP : Nat := 8
def eqD (a b : D) : Bool := eqN DEEP a b
def plain (d : D) : Bool := plainN DEEP d

/-! ### order of alike data -/
/-- -1, 0, 1 as an Ordering -/
def cmpL (c : D → D → Ordering) : List D → List D → Ordering
  | [], [] => .eq
  | [], _ :: _ => .lt
  | _ :: _, [] => .gt
  | x :: xs, y :: ys => match c x y with
    | .eq => cmpL c xs ys
    | o => o
def cmpW : W → W → Ordering
  | [], [] => .eq
  | [], _ :: _ => .lt
  | _ :: _, [] => .gt
  | x :: xs, y :: ys => if x < y then .lt else if y < x then .gt else cmpW xs ys
def cmpN : Nat → D → D → Ordering
  | _, .int i, .int j => if i < j then .lt else if j < i then .gt else .eq
  | _, .bl a, .bl b => if b2i a < b2i b then .lt else if b2i b < b2i a then .gt else .eq
  | _, .str v, .str w => cmpW v w
  | n + 1, .tup xs, .tup ys => cmpL (cmpN n) xs ys
  | n + 1, .lst xs, .lst ys => cmpL (cmpN n) xs ys
  | _, _, _ => .eq
def cmpD (a b : D) : Ordering := cmpN DEEP a b
/-- alike: comparable place by place -/
def alikeL (c : D → D → Bool) : List D → List D → Bool
  | x :: xs, y :: ys => c x y && alikeL c xs ys
  | [], _ => true
  | _ :: _, [] => false
def alikeN : Nat → D → D → Bool
  | _, .int _, .int _ => true
  | _, .bl _, .bl _ => true
  | _, .str _, .str _ => true
  | n + 1, .tup xs, .tup ys => alikeL (alikeN n) xs ys
  | n + 1, .lst xs, .lst ys => alikeL (alikeN n) xs ys
  | _, _, _ => false
def alikeD (a b : D) : Bool := alikeN DEEP a b
/-- all of them comparable, each with each, and of a kind that sorts -/
def isTup : D → Bool
  | .tup (_ :: _) => true
  | _ => false
def sortable (xs : List D) : Bool := (xs.all fun a => xs.all fun b => alikeD a b) && (xs.all isTup || xs.all fun a => match a with | .tup _ => false | _ => true)
def leD (a b : D) : Bool := match cmpD b a with | .lt => false | _ => true
def ltD (a b : D) : Bool := match cmpD a b with | .lt => true | _ => false
def sortD (xs : List D) : List D := xs.mergeSort leD

/-! ### places -/
def ixI (n : Nat) (i : Int) : Option Nat := if 0 ≤ i then (if i < n then some i.toNat else none) else if -(n : Int) ≤ i then some (i + n).toNat else none
def atL {α : Type} (xs : List α) (i : Int) : Option α := (ixI xs.length i).bind fun j => xs[j]?
/-- a slice's bound as a place among n -/
def sIx (n d : Nat) : Option Int → Nat
  | none => d
  | some v => if v < 0 then (v + (n : Int)).toNat else min v.toNat n
def cutL {α : Type} (xs : List α) (lo hi : Option Int) : List α := (xs.drop (sIx xs.length 0 lo)).take (sIx xs.length xs.length hi - sIx xs.length 0 lo)
/-- every c-th item from a on -/
def everyL {α : Type} (xs : List α) (a c : Nat) : List α := (List.range ((xs.length - a + (c - 1)) / c)).filterMap fun k => xs[a + k * c]?

/-! ### dicts: pairs in order; keys are compared as data -/
/-- a key: an int, a text, or a tuple (of tuples) of such and truths -/
def keyN : Nat → D → Bool
  | _, .int _ => true
  | _, .str _ => true
  | _, .bl _ => true
  | n + 1, .tup xs => xs.all (keyN n)
  | _, _ => false
def isKS (d : D) : Bool := match d with | .int _ => true | .str _ => true | _ => false
def isKT (d : D) : Bool := match d with | .tup xs => xs.all (keyN 3) | _ => false
def keyOk (t : Bool) (d : D) : Bool := if t then isKT d else isKS d
/-- two keys, both of one kind, are one -/
def keq (a b : D) : Bool := eqN 5 a b
def getK (kvs : List (D × D)) (k : D) : Option D := (kvs.find? fun p => keq p.1 k).map (·.2)
def putK (kvs : List (D × D)) (k v : D) : List (D × D) := if (kvs.any fun p => keq p.1 k) then kvs.map (fun p => if keq p.1 k then (p.1, v) else p) else kvs ++ [(k, v)]
def mergeK (kvs : List (D × D)) : List (D × D) → List (D × D)
  | [] => kvs
  | p :: r => mergeK (putK kvs p.1 p.2) r

/-! ### objects -/
def getF (fs : List (Nat × D)) (f : Nat) : Option D := match fs with
  | [] => none
  | (g, d) :: r => if f = g then some d else getF r f
def putF (f : Nat) (d : D) : List (Nat × D) → List (Nat × D)
  | [] => [(f, d)]
  | (g, x) :: r => if g = f then (g, d) :: r else (g, x) :: putF f d r

/-! ### texts -/
def joinW (sep : W) : List W → W
  | [] => []
  | [p] => p
  | p :: q :: r => p ++ (sep ++ joinW sep (q :: r))
def asStrs : List D → Option (List W)
  | [] => some []
  | .str w :: r => (asStrs r).map (w :: ·)
  | _ :: _ => none
def asInts : List D → Option (List Int)
  | [] => some []
  | .int i :: r => (asInts r).map (i :: ·)
  | _ :: _ => none
def asBls : List D → Option (List Bool)
  | [] => some []
  | .bl b :: r => (asBls r).map (b :: ·)
  | _ :: _ => none
/-- split at one sign -/
def splitW (s : Nat) : W → List W
  | [] => [[]]
  | c :: r => if c = s then [] :: splitW s r else match splitW s r with
    | [] => [[c]]
    | p :: q => (c :: p) :: q
/-- b stands in a -/
def isPre : W → W → Bool
  | [], _ => true
  | _ :: _, [] => false
  | x :: xs, y :: ys => (x == y) && isPre xs ys
def isIn (b : W) : W → Bool
  | [] => isPre b []
  | c :: r => isPre b (c :: r) || isIn b r

/-! ### kinds of what comes out -/
def jn : Kd → Kd → Kd
  | .bo, _ => .bo
  | _, .bo => .bo
  | .st, _ => .st
  | _, .st => .st
  | .fr, .fr => .fr
/-- the kind of a part, or of a thing read, of something of kind k -/
def kd (d : D) (k : Kd) : Kd := if flat d then .st else k
/-- the kind of a new list with these items -/
def kdL (xs : List D) (k : Kd) : Kd := if xs.all flat then .fr else k
/-- of a tuple: it never changes itself -/
def kdT (xs : List D) (k : Kd) : Kd := if flat (.tup xs) then .st else k
def jnA : List (D × Kd) → Kd
  | [] => .fr
  | (d, k) :: r => jn (if flat d then .fr else k) (jnA r)

/-! ### the operations -/
inductive Pr where
  | add | sub | mul | fdiv | mod | pow | neg
  | eq | ne | lt | le | gt | ge | isN | notN | isin | notin
  | len | idx | cut | cutTo | cutFrom | rev | every
  | min2 | max2 | min1 | max1 | minN | minZ | maxZ | sum | all | any
  | sorted | list | tuple | dict | dictZip | int1 | str1 | isi (T : Nat)
  | join | split | get1 | get2 | index | itemsL | sortedSet | lenSet | range1 | range2 | upper | repl
  deriving DecidableEq

/-- the classes that isinstance is asked of: 0 str 1 list 2 int 3 bool 4 tuple -/
def isiT (T : Nat) (d : D) : Option Bool := match d with
  | .non => some false
  | .bl _ => some (T == 2 || T == 3)
  | .int _ => some (T == 2)
  | .str _ => some (T == 0)
  | .lst _ => some (T == 1)
  | .tup _ => some (T == 4)
  | .dic false _ => some false
  | _ => none

def LIM : Int := 18446744073709551616
def ok1 (d : D) : Option (D × Kd) := some (d, kd d .fr)
def okL (xs : List D) (k : Kd) : Option (D × Kd) := some (.lst xs, kdL xs k)

def dropDup (eq : D → D → Bool) : List D → List D
  | [] => []
  | x :: r => x :: (dropDup eq r).filter (fun y => !eq x y)

/-- figures of a whole number from 0 on -/
def figs (n : Nat) : W := (Nat.toDigits 10 n).map Char.toNat
def strI (i : Int) : W := if i < 0 then 45 :: figs i.natAbs else figs i.natAbs
def figVal (w : W) : Nat := w.foldl (fun a c => a * 10 + (c - 48)) 0
def allFigs (w : W) : Bool := w.all fun c => decide (48 ≤ c) && decide (c ≤ 57)

/-- the least by <, the first of several -/
def minFirst : List D → Option D
  | [] => none
  | x :: r => some (r.foldl (fun a b => if ltD b a then b else a) x)

def pairsOf : List D → Option (List (D × D))
  | [] => some []
  | .tup [k, v] :: r => (pairsOf r).map ((k, v) :: ·)
  | _ :: _ => none
def listOf : D → Option (List D)
  | .lst xs => some xs
  | .tup xs => some xs
  | _ => none

def itemList : D → Option (List D)
  | .lst xs => some xs
  | .str w => some (w.map fun c => .str [c])
  | _ => none

def p_add : List (D × Kd) → Option (D × Kd)
  | [(.int i, _), (.int j, _)] => some (.int (i + j), .st)
  | [(.str v, _), (.str w, _)] => if v.length + w.length ≤ LINE then some (.str (v ++ w), .st) else none
  | [(.lst xs, k), (.lst ys, l)] => if xs.length + ys.length ≤ LINE then okL (xs ++ ys) (jn (jn k l) .st) else none
  | _ => none
def p_sub : List (D × Kd) → Option (D × Kd)
  | [(.int i, _), (.int j, _)] => some (.int (i - j), .st)
  | _ => none
def p_mul : List (D × Kd) → Option (D × Kd)
  | [(.int i, _), (.int j, _)] => if (-LIM < i ∧ i < LIM) ∨ (-LIM < j ∧ j < LIM) then some (.int (i * j), .st) else none
  | [(.str v, _), (.int j, _)] => if v.length * j.toNat ≤ LINE ∧ -4611686018427387904 ≤ j ∧ j < 4611686018427387904 then some (.str ((List.replicate j.toNat v).flatten), .st) else none
  | [(.lst xs, k), (.int j, _)] => if xs.length * j.toNat ≤ LINE ∧ -4611686018427387904 ≤ j ∧ j < 4611686018427387904 then okL ((List.replicate j.toNat xs).flatten) (jn k .st) else none
  | _ => none
def p_fdiv : List (D × Kd) → Option (D × Kd)
  | [(.int i, _), (.int j, _)] => if 0 < j ∧ j < 10 ^ 70 then some (.int (i / j), .st) else none
  | _ => none
def p_mod : List (D × Kd) → Option (D × Kd)
  | [(.int i, _), (.int j, _)] => if 0 < j then some (.int (i % j), .st) else none
  | _ => none
def p_pow : List (D × Kd) → Option (D × Kd)
  | [(.int i, _), (.int j, _)] => if 0 ≤ j ∧ j ≤ 100 ∧ i.natAbs < 1000 then some (.int (i ^ j.toNat), .st) else none
  | _ => none
def p_neg : List (D × Kd) → Option (D × Kd)
  | [(.int i, _)] => some (.int (-i), .st)
  | _ => none
def p_eq : List (D × Kd) → Option (D × Kd)
  | [(a, _), (b, _)] => if plain a && plain b then some (.bl (eqD a b), .st) else none
  | _ => none
def p_ne : List (D × Kd) → Option (D × Kd)
  | [(a, _), (b, _)] => if plain a && plain b then some (.bl (!eqD a b), .st) else none
  | _ => none
def p_lt : List (D × Kd) → Option (D × Kd)
  | [(.int i, _), (.int j, _)] => some (.bl (decide (i < j)), .st)
  | [(.str v, _), (.str w, _)] => some (.bl (decide (v < w)), .st)
  | [(.tup xs, _), (.tup ys, _)] => match asInts xs, asInts ys with
    | some ns, some ms => some (.bl (decide (ns < ms)), .st)
    | _, _ => none
  | _ => none
def p_le : List (D × Kd) → Option (D × Kd)
  | [(.int i, _), (.int j, _)] => some (.bl (decide (i ≤ j)), .st)
  | [(.str v, _), (.str w, _)] => some (.bl (!decide (w < v)), .st)
  | [(.tup [.int i, .str v], _), (.tup [.int j, .str w], _)] => some (.bl (if i = j then !decide (w < v) else decide (i ≤ j)), .st)
  | _ => none
def p_gt : List (D × Kd) → Option (D × Kd)
  | [(.int i, _), (.int j, _)] => some (.bl (decide (j < i)), .st)
  | [(.str v, _), (.str w, _)] => some (.bl (decide (w < v)), .st)
  | _ => none
def p_ge : List (D × Kd) → Option (D × Kd)
  | [(.int i, _), (.int j, _)] => some (.bl (decide (j ≤ i)), .st)
  | [(.str v, _), (.str w, _)] => some (.bl (!decide (v < w)), .st)
  | _ => none
def isNon : D → Bool
  | .non => true
  | _ => false
def p_isN : List (D × Kd) → Option (D × Kd)
  | [(a, _)] => some (.bl (isNon a), .st)
  | _ => none
def p_notN : List (D × Kd) → Option (D × Kd)
  | [(a, _)] => some (.bl (!isNon a), .st)
  | _ => none
def p_isin : List (D × Kd) → Option (D × Kd)
  | [(.str v, _), (.str w, _)] => some (.bl (isIn v w), .st)
  | [(a, _), (.lst xs, _)] => if plain a && xs.all plain then some (.bl (xs.any fun x => eqD x a), .st) else none
  | [(a, _), (.tup xs, _)] => if plain a && xs.all plain then some (.bl (xs.any fun x => eqD x a), .st) else none
  | [(a, _), (.dic t kvs, _)] => if keyOk t a then some (.bl (getK kvs a).isSome, .st) else none
  | _ => none
def p_notin : List (D × Kd) → Option (D × Kd)
  | [(.str v, _), (.str w, _)] => some (.bl (!isIn v w), .st)
  | [(a, _), (.lst xs, _)] => if plain a && xs.all plain then some (.bl (!xs.any fun x => eqD x a), .st) else none
  | [(a, _), (.tup xs, _)] => if plain a && xs.all plain then some (.bl (!xs.any fun x => eqD x a), .st) else none
  | [(a, _), (.dic t kvs, _)] => if keyOk t a then some (.bl (!(getK kvs a).isSome), .st) else none
  | _ => none
def p_len : List (D × Kd) → Option (D × Kd)
  | [(.str w, _)] => some (.int w.length, .st)
  | [(.lst xs, _)] => some (.int xs.length, .st)
  | [(.tup xs, _)] => some (.int xs.length, .st)
  | [(.dic _ xs, _)] => some (.int xs.length, .st)
  | [(.scr ns, _)] => some (.int ns.length, .st)
  | _ => none
def p_idx : List (D × Kd) → Option (D × Kd)
  | [(.lst xs, k), (.int i, _)] => (atL xs i).map fun d => (d, kd d k)
  | [(.tup xs, k), (.int i, _)] => (atL xs i).map fun d => (d, kd d k)
  | [(.scr ns, _), (.int i, _)] => (atL ns i).map fun n => (.int n, .st)
  | [(.str w, _), (.int i, _)] => (atL w i).map fun c => (.str [c], .st)
  | [(.dic t kvs, k), (a, _)] => if keyOk t a then (getK kvs a).map fun d => (d, kd d (jn k .st)) else none
  | _ => none
def p_cut : List (D × Kd) → Option (D × Kd)
  | [(.str w, _), (.int i, _), (.int j, _)] => some (.str (cutL w (some i) (some j)), .st)
  | [(.lst xs, k), (.int i, _), (.int j, _)] => okL (cutL xs (some i) (some j)) (jn k .st)
  | _ => none
def p_cutTo : List (D × Kd) → Option (D × Kd)
  | [(.str w, _), (.int j, _)] => some (.str (cutL w none (some j)), .st)
  | [(.lst xs, k), (.int j, _)] => okL (cutL xs none (some j)) (jn k .st)
  | [(.tup xs, k), (.int j, _)] => if cutL xs none (some j) = [] ∨ xs.length ≤ (cutL xs none (some j)).length then none else some (.tup (cutL xs none (some j)), kdT (cutL xs none (some j)) (jn k .st))
  | _ => none
def p_cutFrom : List (D × Kd) → Option (D × Kd)
  | [(.str w, _), (.int i, _)] => some (.str (cutL w (some i) none), .st)
  | [(.lst xs, k), (.int i, _)] => okL (cutL xs (some i) none) (jn k .st)
  | _ => none
def p_rev : List (D × Kd) → Option (D × Kd)
  | [(.str w, _)] => some (.str w.reverse, .st)
  | [(.lst xs, k)] => okL xs.reverse (jn k .st)
  | _ => none
def p_every : List (D × Kd) → Option (D × Kd)
  | [(.lst xs, k), (.int i, _), (.int c, _)] => if 0 ≤ i ∧ i < 1073741824 ∧ 0 < c ∧ c < 1073741824 then okL (everyL xs i.toNat c.toNat) (jn k .st) else none
  | _ => none
def p_min2 : List (D × Kd) → Option (D × Kd)
  | [(.int i, _), (.int j, _)] => some (.int (if j < i then j else i), .st)
  | _ => none
def p_max2 : List (D × Kd) → Option (D × Kd)
  | [(.int i, _), (.int j, _)] => some (.int (if j > i then j else i), .st)
  | _ => none
def p_min1 : List (D × Kd) → Option (D × Kd)
  | [(.lst xs, _)] => if xs.all flat && sortable xs then (minFirst xs).map fun d => (d, .st) else none
  | _ => none
def p_max1 : List (D × Kd) → Option (D × Kd)
  | [(.lst xs, _)] => match asInts xs with
    | some (n :: ns) => some (.int (ns.foldl max n), .st)
    | _ => none
  | _ => none
def p_minN : List (D × Kd) → Option (D × Kd)
  | [(.lst xs, _)] => if xs.all flat && sortable xs then some ((minFirst xs).getD .non, .st) else none
  | _ => none
def p_minZ : List (D × Kd) → Option (D × Kd)
  | [(.lst xs, _)] => if xs.all flat && sortable xs then some ((minFirst xs).getD (.int 0), .st) else none
  | _ => none
def p_maxZ : List (D × Kd) → Option (D × Kd)
  | [(.lst xs, _)] => match asInts xs with
    | some [] => some (.int 0, .st)
    | some (n :: ns) => some (.int (ns.foldl max n), .st)
    | none => none
  | _ => none
def p_sum : List (D × Kd) → Option (D × Kd)
  | [(.lst xs, _)] => (asInts xs).map fun ns => (.int ns.sum, .st)
  | _ => none
def p_all : List (D × Kd) → Option (D × Kd)
  | [(.lst xs, _)] => (asBls xs).map fun bs => (.bl (bs.all id), .st)
  | _ => none
def p_any : List (D × Kd) → Option (D × Kd)
  | [(.lst xs, _)] => (asBls xs).map fun bs => (.bl (bs.any id), .st)
  | _ => none
def p_sorted : List (D × Kd) → Option (D × Kd)
  | [(.lst xs, _)] => if xs.all flat && sortable xs then some (.lst (sortD xs), .fr) else none
  | [(.dic t kvs, _)] => if (!t || kvs.all fun p => flat p.1) && sortable (kvs.map (·.1)) then some (.lst (sortD (kvs.map (·.1))), .fr) else none
  | [(.str w, _)] => some (.lst (sortD (w.map fun c => .str [c])), .fr)
  | _ => none
def p_list : List (D × Kd) → Option (D × Kd)
  | [(.lst xs, k)] => okL xs (jn k .st)
  | [(.tup xs, k)] => okL xs (jn k .st)
  | [(.dic false kvs, _)] => some (.lst (kvs.map (·.1)), .fr)
  | [(.str w, _)] => some (.lst (w.map fun c => .str [c]), .fr)
  | _ => none
def p_tuple : List (D × Kd) → Option (D × Kd)
  | [(.lst xs, k)] => some (.tup xs, kdT xs (jn k .st))
  | _ => none
def p_dict : List (D × Kd) → Option (D × Kd)
  | [(.dic false kvs, _)] => if (kvs.all fun p => flat p.2) then some (.dic false kvs, .fr) else none
  | [(x, k)] => match (listOf x).bind pairsOf with
    | some ps => if (ps.all fun p => isKS p.1 && flat p.2) then some (.dic false (mergeK [] ps), .fr) else none
    | none => none
  | _ => none
def p_dictZip : List (D × Kd) → Option (D × Kd)
  | [(x, _), (.lst ys, _)] => match itemList x with
    | some xs => if xs.all isKS && ys.all flat then some (.dic false (mergeK [] (xs.zip ys)), .fr) else none
    | none => none
  | _ => none
def p_int1 : List (D × Kd) → Option (D × Kd)
  | [(.bl b, _)] => some (.int (b2i b), .st)
  | [(.str w, _)] => if w ≠ [] ∧ allFigs w ∧ w.length ≤ 600 then some (.int (figVal w : Nat), .st) else none
  | _ => none
def p_str1 : List (D × Kd) → Option (D × Kd)
  | [(.int i, _)] => if -(10 ^ 70) < i ∧ i < 10 ^ 70 then some (.str (strI i), .st) else none
  | _ => none
def p_isi (T : Nat) : List (D × Kd) → Option (D × Kd)
  | [(d, _)] => (isiT T d).map fun b => (.bl b, .st)
  | _ => none
def p_join : List (D × Kd) → Option (D × Kd)
  | [(.str s, _), (.lst xs, _)] => match asStrs xs with
    | some ws => if (ws.map List.length).sum + s.length * ws.length ≤ LINE then some (.str (joinW s ws), .st) else none
    | none => none
  | _ => none
def p_split : List (D × Kd) → Option (D × Kd)
  | [(.str w, _), (.str [c], _)] => if w.length + 2 ≤ LINE then some (.lst ((splitW c w).map .str), .fr) else none
  | _ => none
def p_get1 : List (D × Kd) → Option (D × Kd)
  | [(.dic false kvs, k), (a, _)] => if isKS a then (let d := (getK kvs a).getD .non; some (d, kd d (jn k .st))) else none
  | _ => none
def p_get2 : List (D × Kd) → Option (D × Kd)
  | [(.dic false kvs, k), (a, _), (x, l)] => if isKS a then (let d := (getK kvs a).getD x; some (d, kd d (jn (jn k l) .st))) else none
  | _ => none
def p_index : List (D × Kd) → Option (D × Kd)
  | [(.str w, _), (.str [c], _)] => (w.findIdx? fun x => x == c).map fun j => (.int (j : Nat), .st)
  | [(.lst xs, _), (a, _)] => if flat a && xs.all flat then (xs.findIdx? fun x => eqD x a).map fun j => (.int (j : Nat), .st) else none
  | _ => none
def p_itemsL : List (D × Kd) → Option (D × Kd)
  | [(.dic _ kvs, k)] => okL (kvs.map fun p => .tup [p.1, p.2]) (jn k .st)
  | _ => none
def p_sortedSet : List (D × Kd) → Option (D × Kd)
  | [(.lst xs, _)] => if xs.all flat && sortable xs then some (.lst (sortD (dropDup eqD xs)), .fr) else none
  | [(.str w, _)] => some (.lst (sortD (dropDup eqD (w.map fun c => .str [c]))), .fr)
  | _ => none
def p_lenSet : List (D × Kd) → Option (D × Kd)
  | [(.lst xs, _)] => if xs.all fun x => keyN 3 x && flat x then some (.int (dropDup eqD xs).length, .st) else none
  | _ => none
def p_range1 : List (D × Kd) → Option (D × Kd)
  | [(.int j, _)] => if j ≤ LINE ∧ -LIM < j then some (.lst ((List.range j.toNat).map fun k => .int (k : Nat)), .fr) else none
  | _ => none
def p_range2 : List (D × Kd) → Option (D × Kd)
  | [(.int i, _), (.int j, _)] => if j - i ≤ LINE ∧ -1000000000 < i ∧ i < 1000000000 ∧ -1000000000 < j ∧ j < 1000000000 then some (.lst ((List.range (j - i).toNat).map fun k => .int (i + (k : Nat))), .fr) else none
  | _ => none
def prD : Pr → List (D × Kd) → Option (D × Kd)
  | .add => p_add
  | .sub => p_sub
  | .mul => p_mul
  | .fdiv => p_fdiv
  | .mod => p_mod
  | .pow => p_pow
  | .neg => p_neg
  | .eq => p_eq
  | .ne => p_ne
  | .lt => p_lt
  | .le => p_le
  | .gt => p_gt
  | .ge => p_ge
  | .isN => p_isN
  | .notN => p_notN
  | .isin => p_isin
  | .notin => p_notin
  | .len => p_len
  | .idx => p_idx
  | .cut => p_cut
  | .cutTo => p_cutTo
  | .cutFrom => p_cutFrom
  | .rev => p_rev
  | .every => p_every
  | .min2 => p_min2
  | .max2 => p_max2
  | .min1 => p_min1
  | .max1 => p_max1
  | .minN => p_minN
  | .minZ => p_minZ
  | .maxZ => p_maxZ
  | .sum => p_sum
  | .all => p_all
  | .any => p_any
  | .sorted => p_sorted
  | .list => p_list
  | .tuple => p_tuple
  | .dict => p_dict
  | .dictZip => p_dictZip
  | .int1 => p_int1
  | .str1 => p_str1
  | .isi T => p_isi T
  | .join => p_join
  | .split => p_split
  | .get1 => p_get1
  | .get2 => p_get2
  | .index => p_index
  | .itemsL => p_itemsL
  | .sortedSet => p_sortedSet
  | .lenSet => p_lenSet
  | .range1 => p_range1
  | .range2 => p_range2
  | _ => fun _ => none

/-! ### the language -/
/-- a target: a name, or names in a tuple -/
inductive Tg where | nm (i : Nat) | tp (is : List Nat)

mutual
inductive E where
  | var (i : Nat) | mov (i : Nat)
  | non | bl (b : Bool) | int (i : Int) | str (w : W)
  | cst (n : Nat) (d : D)
  | prim (p : Pr) (es : Es)
  | lst (es : Es) | tup (es : Es) | dic0 (t : Bool) | dic (ks vs : Es)
  | andE (a b : E) | orE (a b : E) | notE (a : E) | ife (c a b : E) | chain (p q : Pr) (a b c : E)
  | call (f : Fn) (es : Es) | make (c : Nat) (f : Fn) (es : Es) | callm (c : Nat) (f : Fn) (o : E) (es : Es)
  | attr (f : Nat) (o : E)
  | lc (elt : E) (tg : Tg) (it : It) (cnd : Es) (own : List Nat)
  | sortK (f : Fn) (e : E)
  | knot (es : Es)
  | pop (s : Nat) (i : E)
inductive Es where
  | nil | cons (e : E) (r : Es)
  /-- the thing at a slot itself, for a call that may change it -/
  | ref (i : Nat) (r : Es)
inductive It where
  | val (e : E) | rng (es : Es) | enum (e : E) | zip (a b : E)
  /-- the keys of the dict at a slot, that stands still -/
  | keys (i : Nat)
inductive S where
  | exp (e : E) | set (tg : Tg) (e : E) | ret (e : E) | retN | ife (c : E) (a b : Ss) | whl (c : E) (b : Ss) (ks : List Nat)
  | forS (tg : Tg) (it : It) (b : Ss) (ks : List Nat) | pass | brk | cont
  | setIx (o i e : E) | setFld (f : Nat) (o e : E) | app (o e : E) | ext (o e : E) | clr (o : E) | ins (o i e : E) | appAll (i t : Nat) (e : E) | sdApp (o k e : E)
  | rais (c : Nat) (p : E) | frz (i : Nat)
inductive Ss where
  | nil | cons (s : S) (r : Ss)
/-- a def: by its body (mu: the arguments that it may change), or from elsewhere, by a number -/
inductive Fn where
  | mk (nm : Nat) (mu : List Nat) (np ns : Nat) (body : Ss)
  | far (nm : Nat) (np : Nat)
end

def Fn.mu : Fn → List Nat
  | .mk _ m _ _ _ => m
  | .far _ _ => []
def Fn.isMut (f : Fn) : Bool := !f.mu.isEmpty

def E.isVar : E → Bool
  | .var _ => true
  | _ => false
/-! does an expression change something of the frame's own? -/
mutual
def E.eff : E → Bool
  | .mov _ => true
  | .prim _ es => es.eff
  | .lst es => es.eff
  | .tup es => es.eff
  | .dic ks vs => ks.eff || vs.eff
  | .andE a b => a.eff || b.eff
  | .orE a b => a.eff || b.eff
  | .notE a => a.eff
  | .ife c a b => c.eff || (a.eff || b.eff)
  | .chain _ _ a b c => a.eff || (b.eff || c.eff)
  | .call f es => f.isMut || es.eff
  | .make _ _ es => es.eff
  | .callm _ f o es => f.isMut || (o.eff || es.eff)
  | .attr _ o => o.eff
  | .lc elt _ it cnd _ => it.eff || (elt.eff || cnd.eff)
  | .sortK _ e => e.eff
  | .knot es => es.eff
  | .pop _ _ => true
  | _ => false
def Es.eff : Es → Bool
  | .nil => false
  | .cons e r => e.eff || r.eff
  | .ref _ r => r.eff
def It.eff : It → Bool
  | .val e => e.eff
  | .rng es => es.eff
  | .enum e => e.eff
  | .zip a b => a.eff || b.eff
  | .keys _ => false
end
mutual
/-- does a block change something of the frame's own? -/
def S.chg : S → Bool
  | .exp e => e.eff
  | .set _ e => e.eff
  | .ret e => e.eff
  | .ife c a b => c.eff || (a.chg || b.chg)
  | .whl c b _ => c.eff || b.chg
  | .forS _ it b _ => it.eff || b.chg
  | .retN => false
  | .pass => false
  | .brk => false
  | .cont => false
  | _ => true
def Ss.chg : Ss → Bool
  | .nil => false
  | .cons s r => s.chg || r.chg
end

/-! ### what comes out -/
inductive Out where
  | ok (d : D) (k : Kd) (ρ : Env)
  | ex (c : Nat) (p : D) (ρ : Env)
inductive OutL where
  | ok (ds : List (D × Kd)) (ρ : Env)
  | ex (c : Nat) (p : D) (ρ : Env)
inductive Fl where
  | nx (ρ : Env) | rt (d : D) (k : Kd) (ρ : Env) | bk (ρ : Env) | ct (ρ : Env) | ex (c : Nat) (p : D) (ρ : Env)
/-- of a def: the value, whether it is new, the arguments that it may change as they are behind it -/
inductive Res where
  | ok (d : D) (k : Kd) (out : List D)
  | ex (c : Nat) (p : D) (out : List D)

def bnd (o : Option Out) (f : D → Kd → Env → Option Out) : Option Out := match o with
  | some (.ok d k ρ) => f d k ρ
  | some (.ex c p ρ) => some (.ex c p ρ)
  | none => none
def bndL (o : Option OutL) (f : List (D × Kd) → Env → Option Out) : Option Out := match o with
  | some (.ok ds ρ) => f ds ρ
  | some (.ex c p ρ) => some (.ex c p ρ)
  | none => none
def bndS (o : Option Out) (f : D → Kd → Env → Option Fl) : Option Fl := match o with
  | some (.ok d k ρ) => f d k ρ
  | some (.ex c p ρ) => some (.ex c p ρ)
  | none => none
def bndLS (o : Option OutL) (f : List (D × Kd) → Env → Option Fl) : Option Fl := match o with
  | some (.ok ds ρ) => f ds ρ
  | some (.ex c p ρ) => some (.ex c p ρ)
  | none => none
def seqF (o : Option Fl) (f : Env → Option Fl) : Option Fl := match o with
  | some (.nx ρ) => f ρ
  | some fl => some fl
  | none => none

/-! ### slots -/
def look (ρ : Env) (i : Nat) : Option (D × Kd) := match ρ[i]? with
  | some (some p) => some p
  | _ => none
/-- a thing of the frame's own is borrowed when it is read -/
def Kd.read : Kd → Kd
  | .fr => .bo
  | k => k
def kill (ρ : Env) : List Nat → Env
  | [] => ρ
  | i :: r => kill (ρ.set i none) r
def keepBo (o : Option (D × Kd)) : Option (D × Kd) := match o with
  | some (_, .bo) => none
  | o => o
/-- behind a change: what was borrowed is forgotten -/
def killBo (ρ : Env) : Env := ρ.map keepBo
/-- for a while all of the frame's own is borrowed -/
def lend (ρ : Env) : Env := ρ.map fun o => match o with
  | some (d, .fr) => some (d, .bo)
  | o => o
def bindNms : List Nat → List D → Kd → Env → Option Env
  | [], [], _, ρ => some ρ
  | i :: is, d :: ds, k, ρ => bindNms is ds k (ρ.set i (some (d, kd d (jn k .st))))
  | _, _, _, _ => none
def bindT (tg : Tg) (d : D) (k : Kd) (ρ : Env) : Option Env := match tg with
  | .nm i => some (ρ.set i (some (d, k)))
  | .tp is => match d with
    | .tup ds => bindNms is ds k ρ
    | _ => none

/-! ### loops -/
def loopF (body : Env → Option Fl) (tg : Tg) (ks : List Nat) : List (D × Kd) → Env → Option Fl
  | [], ρ => some (.nx (kill ρ ks))
  | x :: xs, ρ => match bindT tg x.1 x.2 (kill ρ ks) with
    | none => none
    | some ρ1 => match body ρ1 with
      | some (.nx ρ2) => loopF body tg ks xs ρ2
      | some (.ct ρ2) => loopF body tg ks xs ρ2
      | some (.bk ρ2) => some (.nx (kill ρ2 ks))
      | some (.rt d k ρ2) => some (.rt d k ρ2)
      | some (.ex c p ρ2) => some (.ex c p ρ2)
      | none => none
/-- how many turns a while may take -/
def TURNS : Nat := 1000000
def loopW (c : Env → Option Out) (body : Env → Option Fl) (ks : List Nat) : Nat → Env → Option Fl
  | 0, _ => none
  | n + 1, ρ => match c (kill ρ ks) with
    | some (.ok (.bl true) _ ρ1) => match body ρ1 with
      | some (.nx ρ2) => loopW c body ks n ρ2
      | some (.ct ρ2) => loopW c body ks n ρ2
      | some (.bk ρ2) => some (.nx (kill ρ2 ks))
      | some (.rt d k ρ2) => some (.rt d k ρ2)
      | some (.ex c p ρ2) => some (.ex c p ρ2)
      | none => none
    | some (.ok (.bl false) _ ρ1) => some (.nx (kill ρ1 ks))
    | some (.ex c p ρ1) => some (.ex c p ρ1)
    | _ => none
/-- a comprehension: f tells of an item whether it is left out, or what comes of it -/
def lcF (f : D × Kd → Option (Option (D × Kd))) : List (D × Kd) → Option (List (D × Kd))
  | [] => some []
  | x :: xs => match f x with
    | none => none
    | some none => lcF f xs
    | some (some y) => (lcF f xs).map (y :: ·)

/-- .. that changes something as it goes -/
def lcG (f : D × Kd → Env → Option (Option (D × Kd) × Env)) : List (D × Kd) → Env → Option (List (D × Kd) × Env)
  | [], ρ => some ([], ρ)
  | x :: xs, ρ => match f x ρ with
    | none => none
    | some (none, ρ1) => lcG f xs ρ1
    | some (some y, ρ1) => (lcG f xs ρ1).map fun p => (y :: p.1, p.2)

/-- the items of what is walked -/
def itemsOf (d : D) (k : Kd) : Option (List (D × Kd)) := match d with
  | .lst xs => some (xs.map fun x => (x, kd x (jn k .st)))
  | .tup xs => some (xs.map fun x => (x, kd x (jn k .st)))
  | .str w => some (w.map fun c => (.str [c], .st))
  | _ => none
/-- what sorted goes through -/
def keysOf (d : D) : Option (List D) := match d with
  | .lst xs => some xs
  | .dic false kvs => some (kvs.map (·.1))
  | _ => none
/-- with an empty list at a key that is not there -/
def withK (kvs : List (D × D)) (x : D) : List (D × D) := if (getK kvs x).isSome then kvs else kvs ++ [(x, .lst [])]
/-- one thing more in the list at a key -/
def sdPut (r : Nat) (t : Bool) (kvs : List (D × D)) (x d : D) (ρ : Env) : Option Fl := match getK kvs x with
  | some (.lst ys) => if ys.length < LINE then some (.nx (killBo (ρ.set r (some (.dic t (putK kvs x (.lst (ys ++ [d]))), .fr))))) else none
  | _ => none
/-- the keys of things, by a def -/
def keysBy (g : D → Option Res) : List D → Option (List D)
  | [] => some []
  | x :: xs => match g x with
    | some (.ok d _ _) => if flat d then (keysBy g xs).map (d :: ·) else none
    | _ => none
/-- sorted by keys that a def makes -/
def sortKD (g : D → Option Res) (d : D) : Option D := match keysOf d with
  | some xs => if xs.all flat && decide (xs.length ≤ LINE) then (match keysBy g xs with
      | some ks => if sortable ks then some (.lst (((ks.zip xs).mergeSort fun p q => leD p.1 q.1).map (·.2))) else none
      | none => none) else none
  | none => none
def rngOf (ds : List (D × Kd)) : Option (List (D × Kd)) := match ds with
  | [(.int j, _)] => if j ≤ LINE ∧ -1000000000 < j then some ((List.range j.toNat).map fun n => (.int (n : Nat), .st)) else none
  | [(.int i, _), (.int j, _)] => if j - i ≤ LINE ∧ -1000000000 < i ∧ i < 1000000000 ∧ -1000000000 < j ∧ j < 1000000000 then some ((List.range (j - i).toNat).map fun n => (.int (i + (n : Nat)), .st)) else none
  | _ => none
def enumL : Nat → List (D × Kd) → List (D × Kd)
  | _, [] => []
  | n, (d, k) :: r => (.tup [.int (n : Nat), d], kdT [.int (n : Nat), d] (jn k .st)) :: enumL (n + 1) r
def zipL : List (D × Kd) → List (D × Kd) → List (D × Kd)
  | (d, k) :: r, (e, l) :: t => (.tup [d, e], kdT [d, e] (jn (jn k l) .st)) :: zipL r t
  | _, _ => []

/-! ### the meaning -/
/-- the frame's own things at these slots -/
def owns (ρ : Env) : List Nat → Option (List D)
  | [] => some []
  | i :: r => match look ρ i with
    | some (d, .fr) => (owns ρ r).map (d :: ·)
    | _ => none
/-- put back: the refs' slots hold what has become of them -/
def setOwns (ρ : Env) (rs : List (Nat × Nat)) : List Nat → List D → Env
  | p :: r, d :: ds => match rs.lookup p with
    | some i => setOwns (ρ.set i (some (d, .fr))) rs r ds
    | none => setOwns ρ rs r ds
  | _, _ => ρ
/-- each argument that may be changed is a slot itself, or new; the others are none of these slots -/
def muOk (mu : List Nat) (rs : List (Nat × Nat)) (ds : List (D × Kd)) : Bool :=
  rs.all (fun p => mu.contains p.1) && decide ((rs.map (·.2)).Nodup) && mu.all (fun p => (rs.lookup p).isSome || (match ds[p]? with | some (_, .fr) => true | _ => false))
/-- what a def hands back, by how its body ended -/
def endRes (mu : List Nat) (fl : Option Fl) : Option Res := match fl with
  | some (.nx ρ) => (owns ρ mu).map fun s => .ok .non .st s
  | some (.rt d k ρ) => if !mu.isEmpty && !(flat d || k == .fr) then none else (owns ρ mu).map fun s => .ok d (if flat d then .st else if k == .fr then .fr else .st) s
  | some (.ex c p ρ) => (owns ρ mu).map fun s => .ex c p s
  | _ => none
def slots0 (mu : List Nat) : Nat → List D → Env
  | _, [] => []
  | i, d :: r => some (d, if mu.contains i then .fr else .st) :: slots0 mu (i + 1) r
def startE (mu : List Nat) (np ns : Nat) (ds : List D) : Option Env :=
  if ds.length = np then some (slots0 mu 0 ds ++ List.replicate (ns - np) none) else none
/-- the slots handed over by themselves, with their places among the arguments -/
def Es.refs : Nat → Es → List (Nat × Nat)
  | _, .nil => []
  | n, .cons _ r => r.refs (n + 1)
  | n, .ref i r => (n, i) :: r.refs (n + 1)
/-- the arguments as they are when the call begins -/
def fillRefs (ρ : Env) : Es → List (D × Kd) → Option (List D)
  | .nil, [] => some []
  | .cons _ r, (d, _) :: ds => (fillRefs ρ r ds).map (d :: ·)
  | .ref i r, _ :: ds => match look ρ i with
    | some (d, .fr) => (fillRefs ρ r ds).map (d :: ·)
    | _ => none
  | _, _ => none
def noBo (ds : List (D × Kd)) : Bool := ds.all fun p => flat p.1 || p.2 != .bo
/-- a call's own kind: new, or made of the arguments -/
def callKd (d : D) (k : Kd) (as : List (D × Kd)) : Kd := if flat d then .st else if k == .fr then .fr else jn (jnA as) .st

/-- what the defs from elsewhere do: laid down with each of them -/
abbrev Far := Nat → List D → Option Res

/-- a list of the frame's own -/
def isLens : Option (Nat × D × (D → D)) → Bool
  | some (_, .lst _, _) => true
  | _ => false
def isLst : Option (D × Kd) → Bool
  | some (.lst _, .fr) => true
  | _ => false
mutual
def denE (Z : Far) : E → Env → Option Out
  | .var i, ρ => (look ρ i).map fun p => .ok p.1 (kd p.1 p.2.read) ρ
  | .mov i, ρ => (look ρ i).map fun p => .ok p.1 (kd p.1 p.2) (ρ.set i none)
  | .non, ρ => some (.ok .non .st ρ)
  | .bl b, ρ => some (.ok (.bl b) .st ρ)
  | .int i, ρ => some (.ok (.int i) .st ρ)
  | .str w, ρ => some (.ok (.str w) .st ρ)
  | .cst _ d, ρ => some (.ok d .st ρ)
  | .prim p es, ρ => bndL (denEs Z es ρ) fun ds ρ1 => (prD p ds).map fun x => .ok x.1 x.2 ρ1
  | .lst es, ρ => bndL (denEs Z es ρ) fun ds ρ1 => some (.ok (.lst (ds.map (·.1))) (kdL (ds.map (·.1)) (jnA ds)) ρ1)
  | .tup es, ρ => bndL (denEs Z es ρ) fun ds ρ1 => some (.ok (.tup (ds.map (·.1))) (kdT (ds.map (·.1)) (jnA ds)) ρ1)
  | .dic0 t, ρ => some (.ok (.dic t []) .fr ρ)
  | .dic ks vs, ρ => if vs.eff then none else bndL (denEs Z ks ρ) fun kz ρ1 => bndL (denEs Z vs ρ1) fun vz ρ2 =>
      if kz.all (fun p => isKS p.1) && kz.length == vz.length then some (.ok (.dic false (mergeK [] ((kz.map (·.1)).zip (vz.map (·.1))))) (if vz.all (fun p => flat p.1) then .fr else jnA vz) ρ2) else none
  | .andE a b, ρ => bnd (denE Z a ρ) fun d _ ρ1 => match d with
    | .bl true => bnd (denE Z b ρ1) fun e _ ρ2 => match e with
      | .bl c => some (.ok (.bl c) .st ρ2)
      | _ => none
    | .bl false => some (.ok (.bl false) .st ρ1)
    | _ => none
  | .orE a b, ρ => bnd (denE Z a ρ) fun d _ ρ1 => match d with
    | .bl false => bnd (denE Z b ρ1) fun e _ ρ2 => match e with
      | .bl c => some (.ok (.bl c) .st ρ2)
      | _ => none
    | .bl true => some (.ok (.bl true) .st ρ1)
    | _ => none
  | .notE a, ρ => bnd (denE Z a ρ) fun d _ ρ1 => match d with
    | .bl b => some (.ok (.bl (!b)) .st ρ1)
    | _ => none
  | .ife c a b, ρ => bnd (denE Z c ρ) fun d _ ρ1 => match d with
    | .bl true => denE Z a ρ1
    | .bl false => denE Z b ρ1
    | _ => none
  | .chain p q a b c, ρ => if b.eff || c.eff then none else bnd (denE Z a ρ) fun d k ρ1 => bnd (denE Z b ρ1) fun e l ρ2 => match prD p [(d, k), (e, l)] with
    | some (.bl true, _) => bnd (denE Z c ρ2) fun f m ρ3 => match prD q [(e, l), (f, m)] with
      | some (.bl r, _) => some (.ok (.bl r) .st ρ3)
      | _ => none
    | some (.bl false, _) => some (.ok (.bl false) .st ρ2)
    | _ => none
  | .call f es, ρ => bndL (denEs Z es ρ) fun ds ρ1 => if f.isMut then
      (if !(noBo ds && muOk f.mu (es.refs 0) ds) then none else match fillRefs ρ1 es ds with
        | none => none
        | some as => match run Z f as with
          | some (.ok d k out) => if out.length = f.mu.length then some (.ok d (if flat d then .st else k) (killBo (setOwns ρ1 (es.refs 0) f.mu out))) else none
          | some (.ex c p out) => if out.length = f.mu.length then some (.ex c p (killBo (setOwns ρ1 (es.refs 0) f.mu out))) else none
          | none => none)
    else match run Z f (ds.map (·.1)) with
      | some (.ok d k _) => some (.ok d (callKd d k ds) ρ1)
      | some (.ex c p _) => some (.ex c p ρ1)
      | none => none
  | .make c f es, ρ => if f.mu == [0] then bndL (denEs Z es ρ) fun ds ρ1 => match run Z f (.obj c [] :: ds.map (·.1)) with
    | some (.ok .non _ [s]) => some (.ok s .fr ρ1)
    | some (.ex c p _) => some (.ex c p ρ1)
    | _ => none
    else none
  | .callm c f o es, ρ => if f.isMut then
      (if f.mu == [0] && !o.eff && (!es.eff || o.isVar) && (lensE Z o ρ).isSome then
        bndL (denEs Z es ρ) fun ds ρ1 => if !noBo ds then none else match lensE Z o ρ1 with
          | some (i, .obj c' fs', put) => if c' != c then none else match run Z f (.obj c' fs' :: ds.map (·.1)) with
            | some (.ok d k [s]) => some (.ok d (if flat d then .st else k) (killBo (ρ1.set i (some (put s, .fr)))))
            | some (.ex c p [s]) => some (.ex c p (killBo (ρ1.set i (some (put s, .fr)))))
            | _ => none
          | _ => none
      else none)
    else if es.eff then none else bnd (denE Z o ρ) fun d0 k0 ρ1 => bndL (denEs Z es ρ1) fun ds ρ2 => match d0 with
      | .obj c' _ => if c' != c then none else match run Z f (d0 :: ds.map (·.1)) with
        | some (.ok d k _) => some (.ok d (callKd d k ((d0, k0) :: ds)) ρ2)
        | some (.ex c p _) => some (.ex c p ρ2)
        | none => none
      | _ => none
  | .attr f o, ρ => bnd (denE Z o ρ) fun d k ρ1 => match d with
    | .obj _ fs => (getF fs f).map fun x => .ok x (kd x (jn k .st)) ρ1
    | _ => none
  | .lc elt tg it cnd own, ρ => if cnd.eff then none else bndL (denI Z elt.eff it ρ) fun xs ρ1 =>
      if elt.eff then
        (match lcG (fun x ρ => match bindT tg x.1 x.2 (kill ρ own) with
          | none => none
          | some ρ2 => match denEs Z cnd ρ2 with
            | some (.ok [] ρ3) => (match denE Z elt ρ3 with | some (.ok d k ρ4) => if !(flat d) && k == .bo then none else some (some (d, k), kill ρ4 own) | _ => none)
            | some (.ok [(.bl true, _)] ρ3) => (match denE Z elt ρ3 with | some (.ok d k ρ4) => if !(flat d) && k == .bo then none else some (some (d, k), kill ρ4 own) | _ => none)
            | some (.ok [(.bl false, _)] ρ3) => some (none, kill ρ3 own)
            | _ => none) xs (kill ρ1 own) with
        | some (ys, ρ5) => some (.ok (.lst (ys.map (·.1))) (kdL (ys.map (·.1)) (jnA ys)) ρ5)
        | none => none)
      else (lcF (fun x => match bindT tg x.1 x.2 (kill (lend ρ1) own) with
        | none => none
        | some ρ2 => match denEs Z cnd ρ2 with
          | some (.ok [] ρ3) => (match denE Z elt ρ3 with | some (.ok d k _) => some (some (d, k)) | _ => none)
          | some (.ok [(.bl true, _)] ρ3) => (match denE Z elt ρ3 with | some (.ok d k _) => some (some (d, k)) | _ => none)
          | some (.ok [(.bl false, _)] _) => some none
          | _ => none) xs).map fun ys => .ok (.lst (ys.map (·.1))) (kdL (ys.map (·.1)) (jnA ys)) ρ1
  | .sortK f e, ρ => if f.isMut then none else bnd (denE Z e ρ) fun d _ ρ1 => (sortKD (fun x => run Z f [x]) d).map fun y => .ok y .fr ρ1
  | .knot es, ρ => bndL (denEs Z es ρ) fun ds ρ1 => match ds with
    | [(l, _), (k, _), (w, m)] => if flat l && flat k && m == .fr then some (.ok (.obj 0 [(3, l), (4, k), (5, w)]) .fr ρ1) else none
    | _ => none
  | .pop s i, ρ => if !isLst (look ρ s) then none else bnd (denE Z i ρ) fun d _ ρ1 => match look ρ1 s, d with
    | some (.lst xs, .fr), .int n => (ixI xs.length n).bind fun j => match xs[j]? with
      | some x => if flat x then some (.ok x .st (killBo (ρ1.set s (some (.lst (xs.eraseIdx j), .fr))))) else none
      | none => none
    | _, _ => none
def denEs (Z : Far) : Es → Env → Option OutL
  | .nil, ρ => some (.ok [] ρ)
  | .cons (.var i) r, ρ => if r.eff then
      (match look ρ i, denEs Z r ρ with
      | some _, some (.ok ds ρ2) => (look ρ2 i).map fun p => .ok ((p.1, kd p.1 p.2.read) :: ds) ρ2
      | some _, some (.ex c p ρ2) => some (.ex c p ρ2)
      | _, _ => none)
    else match look ρ i with
      | some p => (match denEs Z r ρ with
        | some (.ok ds ρ2) => some (.ok ((p.1, kd p.1 p.2.read) :: ds) ρ2)
        | some (.ex c p ρ2) => some (.ex c p ρ2)
        | none => none)
      | none => none
  | .cons e r, ρ => match denE Z e ρ with
    | some (.ok d k ρ1) => if k == .bo && r.eff then none else (match denEs Z r ρ1 with
      | some (.ok ds ρ2) => some (.ok ((d, k) :: ds) ρ2)
      | some (.ex c p ρ2) => some (.ex c p ρ2)
      | none => none)
    | some (.ex c p ρ1) => some (.ex c p ρ1)
    | none => none
  | .ref i r, ρ => match look ρ i with
    | some (_, .fr) => (match denEs Z r ρ with
      | some (.ok ds ρ2) => some (.ok ((.non, .st) :: ds) ρ2)
      | some (.ex c p ρ2) => some (.ex c p ρ2)
      | none => none)
    | _ => none
def denI (Z : Far) (chg : Bool) : It → Env → Option OutL
  | .val e, ρ => match denE Z e ρ with
    | some (.ok d k ρ1) => if chg && k == .bo then none else (itemsOf d k).map fun xs => .ok xs ρ1
    | some (.ex c p ρ1) => some (.ex c p ρ1)
    | none => none
  | .rng es, ρ => match denEs Z es ρ with
    | some (.ok ds ρ1) => (rngOf ds).map fun xs => .ok xs ρ1
    | some (.ex c p ρ1) => some (.ex c p ρ1)
    | none => none
  | .enum e, ρ => match denE Z e ρ with
    | some (.ok (.lst ds) k ρ1) => if chg && k == .bo then none else some (.ok (enumL 0 (ds.map fun x => (x, kd x (jn k .st)))) ρ1)
    | some (.ex c p ρ1) => some (.ex c p ρ1)
    | _ => none
  | .zip a b, ρ => if b.eff then none else match denE Z a ρ with
    | some (.ok (.lst xs) k ρ1) => (match denE Z b ρ1 with
      | some (.ok (.lst ys) l ρ2) => if k == .fr || l == .fr || (chg && (k == .bo || l == .bo)) then none else some (.ok (zipL (xs.map fun x => (x, kd x (jn k .st))) (ys.map fun x => (x, kd x (jn l .st)))) ρ2)
      | some (.ex c p ρ2) => some (.ex c p ρ2)
      | _ => none)
    | some (.ex c p ρ1) => some (.ex c p ρ1)
    | _ => none
  | .keys i, ρ => match look ρ i with
    | some (.dic _ kvs, .st) => if kvs.all (fun p => flat p.1) then some (.ok (kvs.map fun p => (p.1, .st)) ρ) else none
    | _ => none
/-- a thing of the frame's own to be changed: its root's slot, the thing, how it is put back -/
def lensE (Z : Far) : E → Env → Option (Nat × D × (D → D))
  | .var i, ρ => match look ρ i with
    | some (d, .fr) => some (i, d, fun x => x)
    | _ => none
  | .attr f o, ρ => match lensE Z o ρ with
    | some (i, .obj c fs, put) => (getF fs f).map fun x => (i, x, fun y => put (.obj c (putF f y fs)))
    | _ => none
  | .prim .idx (.cons o (.cons e .nil)), ρ => if e.eff then none else match lensE Z o ρ with
    | some (i, .lst xs, put) => (match denE Z e ρ with
      | some (.ok (.int n) _ _) => (ixI xs.length n).bind fun j => (xs[j]?).map fun x => (i, x, fun y => put (.lst (xs.set j y)))
      | _ => none)
    | some (i, .tup xs, put) => (match denE Z e ρ with
      | some (.ok (.int n) _ _) => (ixI xs.length n).bind fun j => (xs[j]?).map fun x => (i, x, fun y => put (.tup (xs.set j y)))
      | _ => none)
    | _ => none
  | _, _ => none
def denS (Z : Far) : S → Env → Option Fl
  | .exp e, ρ => bndS (denE Z e ρ) fun _ _ ρ1 => some (.nx ρ1)
  | .set tg e, ρ => bndS (denE Z e ρ) fun d k ρ1 => (bindT tg d k ρ1).map .nx
  | .ret e, ρ => bndS (denE Z e ρ) fun d k ρ1 => some (.rt d k ρ1)
  | .retN, ρ => some (.rt .non .st ρ)
  | .ife c a b, ρ => bndS (denE Z c ρ) fun d _ ρ1 => match d with
    | .bl true => denSs Z a ρ1
    | .bl false => denSs Z b ρ1
    | _ => none
  | .whl c b ks, ρ => loopW (fun ρ => denE Z c ρ) (fun ρ => denSs Z b ρ) ks TURNS ρ
  | .forS tg it b ks, ρ => bndLS (denI Z b.chg it ρ) fun xs ρ1 => loopF (fun ρ => denSs Z b ρ) tg ks xs ρ1
  | .pass, ρ => some (.nx ρ)
  | .brk, ρ => some (.bk ρ)
  | .cont, ρ => some (.ct ρ)
  | .setIx o i e, ρ => if o.eff || i.eff then none else bndS (denE Z e ρ) fun d k ρ1 => if !(flat d) && !(k == .fr) then none else match lensE Z o ρ1 with
    | some (r, .lst xs, put) => (match denE Z i ρ1 with
      | some (.ok (.int n) _ _) => (ixI xs.length n).map fun j => .nx (killBo (ρ1.set r (some (put (.lst (xs.set j d)), .fr))))
      | _ => none)
    | some (r, .dic t kvs, put) => (match denE Z i ρ1 with
      | some (.ok x _ _) => if keyOk t x && decide (kvs.length < LINE) then some (.nx (killBo (ρ1.set r (some (put (.dic t (putK kvs x d)), .fr))))) else none
      | _ => none)
    | _ => none
  | .setFld f o e, ρ => if o.eff then none else bndS (denE Z e ρ) fun d k ρ1 => if !(flat d) && !(k == .fr) then none else match lensE Z o ρ1 with
    | some (r, .obj c fs, put) => if fs.length < 900 then some (.nx (killBo (ρ1.set r (some (put (.obj c (putF f d fs)), .fr))))) else none
    | _ => none
  | .app o e, ρ => if o.eff || ((e.eff && !o.isVar) || !isLens (lensE Z o ρ)) then none else bndS (denE Z e ρ) fun d k ρ1 => if !(flat d) && !(k == .fr) then none else match lensE Z o ρ1 with
    | some (r, .lst xs, put) => if xs.length < LINE then some (.nx (killBo (ρ1.set r (some (put (.lst (xs ++ [d])), .fr))))) else none
    | _ => none
  | .ext o e, ρ => if o.eff || (e.eff || !isLens (lensE Z o ρ)) then none else bndS (denE Z e ρ) fun d _ ρ1 => match lensE Z o ρ1, d with
    | some (r, .lst xs, put), .lst ys => if ys.all flat && decide (xs.length + ys.length ≤ LINE) then some (.nx (killBo (ρ1.set r (some (put (.lst (xs ++ ys)), .fr))))) else none
    | _, _ => none
  | .clr o, ρ => if o.eff then none else match lensE Z o ρ with
    | some (r, .lst _, put) => some (.nx (killBo (ρ.set r (some (put (.lst []), .fr)))))
    | _ => none
  | .ins o i e, ρ => if o.eff || ((i.eff || e.eff) && !o.isVar) then none else bndS (denE Z i ρ) fun n _ ρ1 => bndS (denE Z e ρ1) fun d k ρ2 => if !(flat d) && !(k == .fr) then none else match lensE Z o ρ2, n with
    | some (r, .lst xs, put), .int j => if 0 ≤ j ∧ j ≤ xs.length ∧ xs.length < LINE then some (.nx (killBo (ρ2.set r (some (put (.lst (xs.take j.toNat ++ d :: xs.drop j.toNat)), .fr))))) else none
    | _, _ => none
  | .sdApp o k e, ρ => if k.eff || e.eff then none else match o with
    | .var r => match look ρ r with
      | some (.dic t kvs, .fr) => bndS (denE Z k ρ) fun x _ ρ1 => if keyOk t x && decide (kvs.length < LINE) then
          bndS (denE Z e (killBo (ρ1.set r (some (.dic t (withK kvs x), .fr))))) fun d _ ρ2 => if flat d then sdPut r t (withK kvs x) x d ρ2 else none
        else none
      | _ => none
    | _ => none
  | .appAll i _ e, ρ => if e.eff then none else bndS (denE Z e ρ) fun d _ ρ1 => match look ρ1 i with
    | some (.lst xs, .fr) => if flat d && xs.all (fun x => match x with | .lst ys => decide (ys.length < LINE) | _ => false) then
        some (.nx (killBo (ρ1.set i (some (.lst (xs.map fun x => match x with | .lst ys => .lst (ys ++ [d]) | x => x), .fr))))) else none
    | _ => none
  | .rais c p, ρ => bndS (denE Z p ρ) fun d _ ρ1 => if flat d then some (.ex c d ρ1) else none
  | .frz i, ρ => match look ρ i with
    | some (d, .fr) => some (.nx (ρ.set i (some (d, .st))))
    | _ => some (.nx ρ)
def denSs (Z : Far) : Ss → Env → Option Fl
  | .nil, ρ => some (.nx ρ)
  | .cons s r, ρ => seqF (denS Z s ρ) fun ρ1 => denSs Z r ρ1
def run (Z : Far) : Fn → List D → Option Res
  | .mk _ mu np ns body, ds => match startE mu np ns ds with
    | none => none
    | some ρ => endRes mu (denSs Z body ρ)
  | .far n np, ds => if ds.length = np then Z n ds else none
end
end Al
/-! A2: what a value and its heap are of pure data; the state of a frame; what is kept. -/
namespace Al
open PySem L2

theorem LINE_eq : LINE = sizeLine := by rw [sizeLine_eq]; rfl

/-- the attributes by number -/
def fname : Nat → Str
  | 0 => "texts" | 1 => "knots" | 2 => "at" | 3 => "long" | 4 => "link" | 5 => "ways" | 6 => "machine" | _ => "line"
/-- a text -/
def mkS (w : W) : Str := ⟨w.toArray⟩
theorem mkS_len (w : W) : (mkS w).length = w.length := by simp [mkS, Str.length]
theorem mkS_list (w : W) : (mkS w).cps.toList = w := by simp [mkS]
theorem mkS_inj {v w : W} (h : mkS v = mkS w) : v = w := by have := congrArg (fun s : Str => s.cps.toList) h; simpa [mkS] using this

/-- the value of an atom -/
inductive Atom : V → D → Prop
  | non : Atom .non .non
  | bl (b : Bool) : Atom (.bl b) (.bl b)
  | int (i : Int) : Atom (.int i) (.int i)
  | str {w : W} : w.length ≤ LINE → Atom (.str (mkS w)) (.str w)

/-- a key that is an int or a text -/
def keyD : Key → D
  | .inl i => .int i
  | .inr x => .str x.cps.toList

mutual
/-- a key as the library has it -/
def nkey : D → NestedKey
  | .bl b => .num (if b = true then 1 else 0)
  | .int i => .num i
  | .str w => .text (mkS w)
  | .tup xs => .tup (nkeys xs)
  | _ => .none
def nkeys : List D → List NestedKey
  | [] => []
  | d :: r => nkey d :: nkeys r
end

/-- a dict with tuples as keys: its own object's entries, each key where it stands, its hash, its value -/
def dtO (w : World) (a : Addr) (L : List (NestedKey × Addr × V)) : HO := .ext fun h => (a == sysModules) = false ∧ ∃ o es ep, h.get? a = some o ∧ o.ExactDict ∧ o.data = .dict es ep ∧
  Paired (fun (p : NestedKey × Addr × V) (e : DictEntry) => e.key = .ref p.2.1 ∧ e.hash = p.1.hash w ∧ RelV p.2.2 e.val) L es.toList

/-- a dict's keys: each once, no text too long -/
def KeysOk (kvs : List (Key × V)) : Prop := (kvs.map (·.1)).Nodup ∧ ∀ p ∈ kvs, ∀ x, p.1 = Sum.inr x → x.length ≤ LINE
/-- the script: a list that nobody changes -/
def ScrAt (K : PySem.W.Frag) (H : Hp) (a : Addr) (ns : List Int) : Prop := (∃ o, H a = some (.frz o (.lst (ns.map V.int)))) ∨
  ∃ o its n, K.lookup a = some o ∧ o.cls = .type "list" ∧ o.dict = none ∧ o.data = .seq its n ∧ its.size ≤ sizeLine ∧ Vals (ns.map V.int) its.toList
theorem ScrAt.sql {K : PySem.W.Frag} {H : Hp} {a : Addr} {ns : List Int} (h : ScrAt K H a ns) : SqL K H a (ns.map V.int) := by
  rcases h with h | h
  · exact .inl (.inr h)
  · exact .inr h
section
variable (w : World) (K : PySem.W.Frag) (cad : Nat → Addr)
/-- values vs are the data ds in the heap H; F: where what may change of them stands, each as often as it is met -/
inductive R (H : Hp) : List V → List D → List Addr → Prop
  | nil : R H [] [] []
  | atom {v : V} {d : D} {vs : List V} {ds : List D} {F : List Addr} : Atom v d → R H vs ds F → R H (v :: vs) (d :: ds) F
  | scr {a : Addr} {ns : List Int} {vs : List V} {ds : List D} {F : List Addr} : ScrAt K H a ns → R H vs ds F → R H (.ref a :: vs) (.scr ns :: ds) F
  | lst {a : Addr} {xs vs : List V} {es ds : List D} {E F : List Addr} : H a = some (.lst xs) → xs.length ≤ LINE → R H xs es E → R H vs ds F → R H (.ref a :: vs) (.lst es :: ds) (a :: (E ++ F))
  | tup {a : Addr} {xs vs : List V} {es ds : List D} {E F : List Addr} : SqT K H a xs → xs.length ≤ LINE → R H xs es E → R H vs ds F → R H (.ref a :: vs) (.tup es :: ds) (E ++ F)
  | dk {a : Addr} {kvs : List (Key × V)} {vs : List V} {es : List (D × D)} {ds : List D} {E F : List Addr} : Rd H a (.dK kvs) → kvs.length ≤ LINE → kvs.map (fun p => keyD p.1) = es.map (·.1) →
      KeysOk kvs → R H (kvs.map (·.2)) (es.map (·.2)) E → R H vs ds F → R H (.ref a :: vs) (.dic false es :: ds) (a :: (E ++ F))
  | dt {a : Addr} {L : List (NestedKey × Addr × V)} {vs : List V} {es : List (D × D)} {ds : List D} {E F : List Addr} : Rd H a (dtO w a L) → L.length ≤ LINE → L.map (·.1) = es.map (fun p => nkey p.1) → (L.map (·.1)).Nodup →
      (es.all fun p => isKT p.1) = true → R H (L.map (fun p => V.ref p.2.1)) (es.map (·.1)) [] → R H (L.map (·.2.2)) (es.map (·.2)) E → R H vs ds F → R H (.ref a :: vs) (.dic true es :: ds) (a :: (E ++ F))
  | obj {a dx : Addr} {c : Nat} {fs : List (Str × V)} {vs : List V} {es : List (Nat × D)} {ds : List D} {E F : List Addr} : H a = some (.ins (cad c) dx fs) → fs.map (·.1) = es.map (fun p => fname p.1) → (es.all fun p => decide (p.1 ≤ 7)) = true →
      R H (fs.map (·.2)) (es.map (·.2)) E → R H vs ds F → R H (.ref a :: vs) (.obj c es :: ds) (a :: (E ++ F))
end

section
variable {w : World} {K : PySem.W.Frag} {cad : Nat → Addr} {H H' : Hp} {vs vs' : List V} {ds ds' : List D} {F G : List Addr}

theorem R.length (h : R w K cad H vs ds F) : vs.length = ds.length := by
  induction h with
  | nil => rfl
  | _ => simp_all
/-- what is kept of a heap for the things at F -/
def Keeps (F : List Addr) (H H' : Hp) : Prop := ∀ a o, (a ∈ F ∨ ¬ Mut (some o)) → H a = some o → H' a = some o
theorem Rd.keep {a : Addr} {u : HO} (h : Rd H a u) (k : ∀ o, H a = some o → H' a = some o) : Rd H' a u := by
  rcases h with h | ⟨o, h⟩
  · exact .inl (k _ h)
  · exact .inr ⟨o, k _ h⟩
theorem R.keep (h : R w K cad H vs ds F) : (∀ a o, (a ∈ F ∨ ¬ Mut (some o)) → H a = some o → H' a = some o) → R w K cad H' vs ds F := by
  induction h with
  | nil => exact fun _ => .nil
  | atom a _ ih => exact fun k => .atom a (ih k)
  | scr e _ ih => exact fun k => .scr (e.imp (fun ⟨o, e⟩ => ⟨o, k _ _ (.inr (fun z => z)) e⟩) id) (ih k)
  | lst e l _ _ i1 i2 => exact fun k => .lst (k _ _ (.inl (by simp)) e) l (i1 fun a o q => k a o (q.imp (by simp; exact fun z => .inr (.inl z)) id)) (i2 fun a o q => k a o (q.imp (by simp; exact fun z => .inr (.inr z)) id))
  | tup e l _ _ i1 i2 =>
    refine fun k => .tup ?_ l (i1 fun a o q => k a o (q.imp (by simp; exact fun z => .inl z) id)) (i2 fun a o q => k a o (q.imp (by simp; exact fun z => .inr z) id))
    rcases e with (e | ⟨o, e⟩) | e
    · exact .inl (.inl (k _ _ (.inr fun z => z) e))
    · exact .inl (.inr ⟨o, k _ _ (.inr fun z => z) e⟩)
    · exact .inr e
  | dk e l m t _ _ i1 i2 =>
    exact fun k => .dk (Rd.keep e fun o q => k _ o (.inl (by simp)) q) l m t (i1 fun a o q => k a o (q.imp (by simp; exact fun z => .inr (.inl z)) id)) (i2 fun a o q => k a o (q.imp (by simp; exact fun z => .inr (.inr z)) id))
  | dt e l m nd t _ _ _ i0 i1 i2 =>
    exact fun k => .dt (Rd.keep e fun o q => k _ o (.inl (by simp)) q) l m nd t (i0 fun a o q => k a o (q.imp (fun z => nomatch z) id)) (i1 fun a o q => k a o (q.imp (by simp; exact fun z => .inr (.inl z)) id)) (i2 fun a o q => k a o (q.imp (by simp; exact fun z => .inr (.inr z)) id))
  | obj e m t _ _ i1 i2 => exact fun k => .obj (k _ _ (.inl (by simp)) e) m t (i1 fun a o q => k a o (q.imp (by simp; exact fun z => .inr (.inl z)) id)) (i2 fun a o q => k a o (q.imp (by simp; exact fun z => .inr (.inr z)) id))
/-- what has a place stands there -/
theorem R.there (h : R w K cad H vs ds F) : ∀ a ∈ F, ∃ o, H a = some o := by
  induction h with
  | nil => exact fun a z => nomatch z
  | atom _ _ ih => exact ih
  | scr _ _ ih => exact ih
  | tup _ _ _ _ i1 i2 => exact fun a z => (List.mem_append.mp z).elim (i1 a) (i2 a)
  | dk e _ _ _ _ _ i1 i2 =>
    intro a z
    rcases List.mem_cons.mp z with rfl | z
    · rcases e with e | ⟨o, e⟩
      · exact ⟨_, e⟩
      · exact ⟨_, e⟩
    · exact (List.mem_append.mp z).elim (i1 a) (i2 a)
  | dt e _ _ _ _ _ _ _ _ i1 i2 =>
    intro a z
    rcases List.mem_cons.mp z with rfl | z
    · rcases e with e | ⟨o, e⟩
      · exact ⟨_, e⟩
      · exact ⟨_, e⟩
    · exact (List.mem_append.mp z).elim (i1 a) (i2 a)
  | lst e _ _ _ i1 i2 =>
    intro a z
    rcases List.mem_cons.mp z with rfl | z
    · exact ⟨_, e⟩
    · exact (List.mem_append.mp z).elim (i1 a) (i2 a)
  | obj e _ _ _ _ i1 i2 =>
    intro a z
    rcases List.mem_cons.mp z with rfl | z
    · exact ⟨_, e⟩
    · exact (List.mem_append.mp z).elim (i1 a) (i2 a)
theorem R.app (h : R w K cad H vs ds F) (h' : R w K cad H vs' ds' G) : R w K cad H (vs ++ vs') (ds ++ ds') (F ++ G) := by
  induction h with
  | nil => exact h'
  | atom a _ ih => exact .atom a ih
  | scr e _ ih => exact .scr e ih
  | lst e l r _ _ i2 => simpa [List.append_assoc] using R.lst e l r i2
  | tup e l r _ _ i2 => simpa [List.append_assoc] using R.tup e l r i2
  | dk e l m t r _ _ i2 => simpa [List.append_assoc] using R.dk e l m t r i2
  | dt e l m nd t r0 r _ _ _ i2 => simpa [List.append_assoc] using R.dt e l m nd t r0 r i2
  | obj e m t r _ _ i2 => simpa [List.append_assoc] using R.obj e m t r i2
theorem R.cons {v : V} {d : D} (h : R w K cad H [v] [d] F) (h' : R w K cad H vs ds G) : R w K cad H (v :: vs) (d :: ds) (F ++ G) := h.app h'
theorem R.split {v : V} {d : D} (h : R w K cad H (v :: vs) (d :: ds) F) : ∃ F1 F2, F = F1 ++ F2 ∧ R w K cad H [v] [d] F1 ∧ R w K cad H vs ds F2 := by
  cases h with
  | atom a r => exact ⟨[], _, rfl, .atom a .nil, r⟩
  | scr e r => exact ⟨[], _, rfl, .scr e .nil, r⟩
  | lst e l r r' => exact ⟨_ :: _, _, rfl, by simpa using R.lst e l r .nil, r'⟩
  | tup e l r r' => exact ⟨_, _, rfl, by simpa using R.tup e l r .nil, r'⟩
  | dk e l m t r r' => exact ⟨_ :: _, _, rfl, by simpa using R.dk e l m t r .nil, r'⟩
  | dt e l m nd t r0 r r' => exact ⟨_ :: _, _, rfl, by simpa using R.dt e l m nd t r0 r .nil, r'⟩
  | obj e m t r r' => exact ⟨_ :: _, _, rfl, by simpa using R.obj e m t r .nil, r'⟩
theorem R.nil_of (h : R w K cad H [] ds F) : ds = [] ∧ F = [] := by cases h; exact ⟨rfl, rfl⟩
theorem R.nil_of' (h : R w K cad H vs [] F) : vs = [] ∧ F = [] := by cases h; exact ⟨rfl, rfl⟩
/-- an item, with what stands ahead of it and behind -/
theorem R.at {d : D} : ∀ {i : Nat} {vs : List V} {ds : List D} {F : List Addr}, R w K cad H vs ds F → ds[i]? = some d → ∃ v A E B, vs[i]? = some v ∧ F = A ++ (E ++ B) ∧ R w K cad H [v] [d] E ∧ R w K cad H (vs.take i) (ds.take i) A ∧ R w K cad H (vs.drop (i + 1)) (ds.drop (i + 1)) B
  | 0, [], _, _, h, e => by obtain ⟨rfl, _⟩ := h.nil_of; simp at e
  | _ + 1, [], _, _, h, e => by obtain ⟨rfl, _⟩ := h.nil_of; simp at e
  | i, v :: vs, [], _, h, e => by simp at e
  | 0, v :: vs, x :: ds, F, h, e => by
    obtain ⟨F1, F2, rfl, h1, h2⟩ := h.split
    obtain rfl : x = d := by simpa using e
    exact ⟨v, [], F1, F2, rfl, rfl, h1, .nil, h2⟩
  | i + 1, v :: vs, x :: ds, F, h, e => by
    obtain ⟨F1, F2, rfl, h1, h2⟩ := h.split
    obtain ⟨u, A, E, B, e1, e2, r1, r2, r3⟩ := h2.at (i := i) (by simpa using e)
    exact ⟨u, F1 ++ A, E, B, by simpa using e1, by rw [e2]; simp [List.append_assoc], r1, h1.cons r2, by simpa using r3⟩
theorem R.take (n : Nat) : ∀ {vs : List V} {ds : List D} {F : List Addr}, R w K cad H vs ds F → ∃ A B, F = A ++ B ∧ R w K cad H (vs.take n) (ds.take n) A ∧ R w K cad H (vs.drop n) (ds.drop n) B := by
  induction n with
  | zero => exact fun {vs ds F} h => ⟨[], F, rfl, .nil, h⟩
  | succ n ih =>
    intro vs ds F h
    cases vs with
    | nil => obtain ⟨rfl, rfl⟩ := h.nil_of; exact ⟨[], [], rfl, .nil, .nil⟩
    | cons v vs =>
      cases ds with
      | nil => have := h.length; simp at this
      | cons d ds =>
        obtain ⟨F1, F2, rfl, h1, h2⟩ := h.split
        obtain ⟨A, B, rfl, r1, r2⟩ := ih h2
        exact ⟨F1 ++ A, B, by simp [List.append_assoc], h1.cons r1, by simpa using r2⟩
/-- flat things have no place -/
theorem R.flatN : ∀ (n : Nat) {vs : List V} {ds : List D} {F : List Addr}, R w K cad H vs ds F → (ds.all (Al.flatN n)) = true → F = [] := by
  intro n
  induction n with
  | zero =>
    intro vs ds F h
    induction h with
    | nil => exact fun _ => rfl
    | atom _ _ ih => intro q; simp only [List.all_cons, Bool.and_eq_true] at q; exact ih q.2
    | scr _ _ ih => intro q; simp only [List.all_cons, Bool.and_eq_true] at q; exact ih q.2
    | _ => intro q; simp [Al.flatN] at q
  | succ n ihn =>
    intro vs ds F h
    induction h with
    | nil => exact fun _ => rfl
    | atom _ _ ih => intro q; simp only [List.all_cons, Bool.and_eq_true] at q; exact ih q.2
    | scr _ _ ih => intro q; simp only [List.all_cons, Bool.and_eq_true] at q; exact ih q.2
    | tup _ _ r _ _ ih => intro q; simp only [List.all_cons, Bool.and_eq_true, Al.flatN] at q; rw [ih q.2, ihn r q.1]; rfl
    | _ => intro q; simp [Al.flatN] at q
theorem R.flat {v : V} {d : D} (h : R w K cad H [v] [d] F) (f : flat d = true) : F = [] := h.flatN 4 (by simpa [Al.flat] using f)
theorem R.flats (h : R w K cad H vs ds F) (f : (ds.all Al.flat) = true) : F = [] := h.flatN 4 (by simpa [Al.flat] using f)
end
end Al
/-! A3: the state of a frame against the slots of the language; temporaries; steps. -/
namespace Al
open PySem L2

/-- of a def's frame: the classes, the heap at its entry, what it may change, what may stand still for it -/
structure Fx where
  w : World
  K : PySem.W.Frag
  cad : Nat → Addr
  H0 : Hp
  B : Addr → Prop
  SB : Addr → Prop
  hB : ∀ a, H0 a = none → B a
  hSB : ∀ a, B a → SB a
abbrev Fx.R (f : Fx) : Hp → List V → List D → List Addr → Prop := Al.R f.w f.K f.cad

def Ext (H H' : Hp) : Prop := ∀ a o, H a = some o → H' a = some o
theorem Ext.refl (H : Hp) : Ext H H := fun _ _ e => e
theorem Ext.trans {H H1 H2 : Hp} (a : Ext H H1) (b : Ext H1 H2) : Ext H H2 := fun x o e => b x o (a x o e)
theorem Ext.new {H : Hp} {p : Addr} {o : HO} (hp : H p = none) : Ext H (upd H p o) := fun a q e => by
  rw [upd_ne (ne_of_none e hp)]; exact e
theorem Ext.free {H H' : Hp} (x : Ext H H') {a : Addr} (e : H' a = none) : H a = none := by
  cases q : H a with
  | none => rfl
  | some o => rw [x a o q] at e; cases e
theorem R.ext {f : Fx} {H H' : Hp} {vs : List V} {ds : List D} {F : List Addr} (h : f.R H vs ds F) (x : Ext H H') : f.R H' vs ds F := h.keep fun a o _ e => x a o e

/-- the slots ρ say what stands at σ; O: what is the frame's own, by the slot; S: what stands still -/
structure Rel (f : Fx) (σ : St) (H : Hp) (ρ : Env) (O : Nat → List Addr) (S : Addr → Prop) : Prop where
  len : σ.length = ρ.length
  slot : ∀ i d k, ρ[i]? = some (some (d, k)) → ∃ v F, σ[i]? = some (some v) ∧ f.R H [v] [d] F ∧ (∀ a ∈ F, f.SB a) ∧ (k = .fr → F = O i) ∧ (k = .st → ∀ a ∈ F, S a)
  own : ∀ i a, a ∈ O i → (∃ d, ρ[i]? = some (some (d, .fr))) ∧ Mut (H a) ∧ f.B a ∧ ¬ S a
  nod : ∀ i, (O i).Nodup
  dis : ∀ i j a, a ∈ O i → a ∈ O j → i = j
  stb : ∀ a, S a → f.SB a ∧ ∃ o, H a = some o
  kept : ∀ a o, ¬ f.B a → f.H0 a = some o → H a = some o
theorem Rel.fresh {f : Fx} {σ : St} {H : Hp} {ρ : Env} {O : Nat → List Addr} {S : Addr → Prop} (h : Rel f σ H ρ O S) {a : Addr} (e : H a = none) : f.B a := by
  cases q : f.H0 a with
  | none => exact f.hB a q
  | some o =>
    by_cases b : f.B a
    · exact b
    · rw [h.kept a o b q] at e; cases e

/-- a thing in hand: N: what is new, or was the frame's own, when the reckoning began -/
structure Tm (f : Fx) (N : Addr → Prop) (H : Hp) (O : Nat → List Addr) (S : Addr → Prop) (v : V) (d : D) (k : Kd) (F : List Addr) : Prop where
  r : f.R H [v] [d] F
  al : ∀ a ∈ F, f.SB a
  fr : k = .fr → F.Nodup ∧ ∀ a ∈ F, Mut (H a) ∧ f.B a ∧ ¬ S a ∧ N a ∧ ∀ i, a ∉ O i
  st : k = .st → ∀ a ∈ F, S a

/-- from one state to a later one -/
structure Stp (H : Hp) (O : Nat → List Addr) (S : Addr → Prop) (H' : Hp) (O' : Nat → List Addr) (S' : Addr → Prop) : Prop where
  keep : ∀ a o, (∀ i, a ∉ O i) → H a = some o → H' a = some o
  own' : ∀ i a, a ∈ O' i → (∃ j, a ∈ O j) ∨ H a = none
  st' : ∀ a, S' a → S a ∨ (∃ j, a ∈ O j) ∨ H a = none
  mono : ∀ a, S a → S' a
/-- what is new, or the frame's own -/
def New (H : Hp) (O : Nat → List Addr) : Addr → Prop := fun a => (∃ j, a ∈ O j) ∨ H a = none

section
variable {f : Fx} {σ σ' : St} {H H1 H2 : Hp} {ρ ρ1 : Env} {O O1 O2 : Nat → List Addr} {S S1 S2 : Addr → Prop} {N N' : Addr → Prop} {v : V} {d : D} {k : Kd} {F : List Addr}

theorem Stp.refl : Stp H O S H O S := ⟨fun _ _ _ e => e, fun i _ h => .inl ⟨i, h⟩, fun _ h => .inl h, fun _ h => h⟩
theorem Stp.back (s : Stp H O S H1 O1 S1) {a : Addr} (h : New H1 O1 a) : New H O a := by
  rcases h with ⟨j, h⟩ | h
  · exact s.own' j a h
  · by_cases q : ∃ j, a ∈ O j
    · exact .inl q
    · refine .inr ?_
      cases e : H a with
      | none => rfl
      | some o => rw [s.keep a o (fun i z => q ⟨i, z⟩) e] at h; cases h
theorem Stp.trans (s : Stp H O S H1 O1 S1) (t : Stp H1 O1 S1 H2 O2 S2) : Stp H O S H2 O2 S2 where
  keep := fun a o hn e => by
    have e1 := s.keep a o hn e
    refine t.keep a o (fun i z => ?_) e1
    rcases s.own' i a z with ⟨j, q⟩ | q
    · exact hn j q
    · rw [e] at q; cases q
  own' := fun i a h => s.back (t.own' i a h)
  st' := fun a h => by
    rcases t.st' a h with q | q
    · exact s.st' a q
    · exact .inr (s.back q)
  mono := fun a h => t.mono a (s.mono a h)
theorem Stp.of_ext (x : Ext H H1) : Stp H O S H1 O S := ⟨fun a o _ e => x a o e, fun i _ h => .inl ⟨i, h⟩, fun _ h => .inl h, fun _ h => h⟩

/-- a thing in hand is kept over a step -/
theorem Tm.carry (t : Tm f N H O S v d k F) (hr : Rel f σ H ρ O S) (s : Stp H O S H1 O1 S1) (hk : k ≠ .bo ∨ Ext H H1) (hN : ∀ a, N a → N' a) : Tm f N' H1 O1 S1 v d k F := by
  have hin : ∀ a ∈ F, ∃ o, H a = some o := t.r.there
  have hO : ∀ a ∈ F, k ≠ .bo → ∀ i, a ∉ O i := fun a ha hk i z => by
    cases k with
    | fr => exact (t.fr rfl).2 a ha |>.2.2.2.2 i z
    | st => exact (hr.own i a z).2.2.2 (t.st rfl a ha)
    | bo => exact hk rfl
  refine ⟨?_, t.al, fun hf => ?_, fun hs a ha => s.mono a (t.st hs a ha)⟩
  · rcases hk with hk | x
    · refine t.r.keep fun a o ha e => ?_
      rcases ha with ha | ha
      · exact s.keep a o (hO a ha hk) e
      · refine s.keep a o (fun i z => ha ?_) e
        have := (hr.own i a z).2.1
        rwa [e] at this
    · exact R.ext t.r x
  · obtain ⟨nd, q⟩ := t.fr hf
    refine ⟨nd, fun a ha => ?_⟩
    obtain ⟨m, b, ns, n, no⟩ := q a ha
    obtain ⟨o, e⟩ := hin a ha
    have e1 := s.keep a o no e
    refine ⟨by rw [e1, ← e]; exact m, b, fun z => ?_, hN a n, fun i z => ?_⟩
    · rcases s.st' a z with z | ⟨j, z⟩ | z
      · exact ns z
      · exact no j z
      · rw [e] at z; cases z
    · rcases s.own' i a z with ⟨j, z⟩ | z
      · exact no j z
      · rw [e] at z; cases z
theorem Tm.weaken (t : Tm f N H O S v d k F) (hN : ∀ a, N a → N' a) : Tm f N' H O S v d k F :=
  ⟨t.r, t.al, fun h => ⟨(t.fr h).1, fun a ha => let ⟨m, b, c, n, o⟩ := (t.fr h).2 a ha; ⟨m, b, c, hN a n, o⟩⟩, t.st⟩
end

/-- several things in hand; G: those that are new -/
inductive Tms (f : Fx) (N : Addr → Prop) (H : Hp) (O : Nat → List Addr) (S : Addr → Prop) : List V → List (D × Kd) → List (List Addr) → Prop
  | nil : Tms f N H O S [] [] []
  | cons {v : V} {d : D} {k : Kd} {F : List Addr} {vs : List V} {ds : List (D × Kd)} {Fs : List (List Addr)} : Tm f N H O S v d k F → Tms f N H O S vs ds Fs →
      (k = .fr → ∀ p ∈ (ds.zip Fs), p.1.2 = .fr → ∀ a ∈ F, a ∉ p.2) → Tms f N H O S (v :: vs) ((d, k) :: ds) (F :: Fs)

/-- arguments: values that are data, with their kinds and places -/
inductive As (f : Fx) (H : Hp) : List V → List (D × Kd) → List (List Addr) → Prop
  | nil : As f H [] [] []
  | cons {v : V} {d : D} {k : Kd} {F : List Addr} {vs : List V} {ds : List (D × Kd)} {Fs : List (List Addr)} : f.R H [v] [d] F → (k = .fr → F.Nodup ∧ ∀ a ∈ F, Mut (H a)) → As f H vs ds Fs → As f H (v :: vs) ((d, k) :: ds) (F :: Fs)
theorem Tms.as {f : Fx} {N : Addr → Prop} {H : Hp} {O : Nat → List Addr} {S : Addr → Prop} {vs : List V} {ds : List (D × Kd)} {Fs : List (List Addr)} (t : Tms f N H O S vs ds Fs) : As f H vs ds Fs := by
  induction t with
  | nil => exact .nil
  | cons h _ _ ih => exact .cons h.r (fun q => ⟨(h.fr q).1, fun a ha => ((h.fr q).2 a ha).1⟩) ih

/-- behind an operation on values: what has come, of what -/
structure Pst (f : Fx) (H : Hp) (as : List ((D × Kd) × List Addr)) (d : D) (k : Kd) (v : V) (H' : Hp) (F : List Addr) : Prop where
  ext : Ext H H'
  r : f.R H' [v] [d] F
  src : ∀ a ∈ F, H a = none ∨ ∃ p ∈ as, a ∈ p.2
  fr : k = .fr → F.Nodup ∧ ∀ a ∈ F, Mut (H' a) ∧ (H a = none ∨ ∃ p ∈ as, p.1.2 = .fr ∧ a ∈ p.2)
  st : k = .st → ∀ a ∈ F, H a = none ∨ ∃ p ∈ as, p.1.2 ≠ .bo ∧ a ∈ p.2
/-- the reading of an operation by its meaning on data -/
def rPr (f : Fx) (p : Pr) : List V → Hp → VK → Prop := fun vs H Q => ∃ ds Fs d k, As f H vs ds Fs ∧ prD p ds = some (d, k) ∧ ∀ v H' F, Pst f H (ds.zip Fs) d k v H' F → Q v H'

section
variable {f : Fx} {σ : St} {H H1 : Hp} {ρ : Env} {O : Nat → List Addr} {S : Addr → Prop} {N : Addr → Prop} {vs : List V} {ds : List (D × Kd)} {Fs : List (List Addr)} {d : D} {k : Kd} {v : V} {F : List Addr}
theorem Tms.mem (t : Tms f N H O S vs ds Fs) : ∀ p ∈ ds.zip Fs, ∃ v, Tm f N H O S v p.1.1 p.1.2 p.2 := by
  induction t with
  | nil => exact fun p h => nomatch h
  | cons h _ _ ih =>
    intro p hp
    rcases List.mem_cons.mp (by simpa using hp) with rfl | hp
    · exact ⟨_, h⟩
    · exact ih p hp
/-- the slots stay over a heap that has grown; more may stand still -/
theorem Rel.grow (h : Rel f σ H ρ O S) (x : Ext H H1) (S1 : Addr → Prop) (h1 : ∀ a, S a → S1 a) (h2 : ∀ a, S1 a → f.SB a ∧ (∃ o, H1 a = some o) ∧ ∀ i, a ∉ O i) : Rel f σ H1 ρ O S1 where
  len := h.len
  slot := fun i d k e => by
    obtain ⟨v, F, e1, r, al, c1, c2⟩ := h.slot i d k e
    exact ⟨v, F, e1, R.ext r x, al, c1, fun q a ha => h1 a (c2 q a ha)⟩
  own := fun i a ha => by
    obtain ⟨c, m, b, ns⟩ := h.own i a ha
    refine ⟨c, ?_, b, fun z => (h2 a z).2.2 i ha⟩
    cases e : H a with
    | none => rw [e] at m; exact m.elim
    | some o => rw [x a o e]; rw [e] at m; exact m
  nod := h.nod
  dis := h.dis
  stb := fun a z => ⟨(h2 a z).1, (h2 a z).2.1⟩
  kept := fun a o hb e => x a o (h.kept a o hb e)
theorem Rel.ext (h : Rel f σ H ρ O S) (x : Ext H H1) : Rel f σ H1 ρ O S := h.grow x S (fun _ z => z) fun a z => ⟨(h.stb a z).1, let ⟨o, e⟩ := (h.stb a z).2; ⟨o, x a o e⟩, fun i q => (h.own i a q).2.2.2 z⟩

/-- an operation's end: the slots stay, what has come is in hand -/
theorem Pst.done (h : Rel f σ H ρ O S) (t : Tms f N H O S vs ds Fs) (hN : ∀ a, H a = none → N a) (p : Pst f H (ds.zip Fs) d k v H1 F) :
    ∃ S1, Rel f σ H1 ρ O S1 ∧ Tm f N H1 O S1 v d k F ∧ (∀ a, S a → S1 a) ∧ (∀ a, S1 a → S a ∨ N a) := by
  -- none of these places is the frame's own
  have hO : ∀ a ∈ F, (H a = none ∨ ∃ q ∈ ds.zip Fs, q.1.2 ≠ .bo ∧ a ∈ q.2) → ∀ i, a ∉ O i := fun a _ hs i z => by
    rcases hs with e | ⟨q, hq, hk, ha⟩
    · have := (h.own i a z).2.1
      rw [e] at this; exact this
    · obtain ⟨u, tm⟩ := t.mem q hq
      cases e : q.1.2 with
      | fr => exact ((tm.fr e).2 a ha).2.2.2.2 i z
      | st => exact (h.own i a z).2.2.2 (tm.st e a ha)
      | bo => exact hk e
  have hal : ∀ a ∈ F, f.SB a := fun a ha => by
    rcases p.src a ha with e | ⟨q, hq, hqa⟩
    · exact f.hSB a (h.fresh e)
    · obtain ⟨u, tm⟩ := t.mem q hq
      exact tm.al a hqa
  cases k with
  | bo => exact ⟨S, h.ext p.ext, ⟨p.r, hal, (fun q => nomatch q), (fun q => nomatch q)⟩, fun _ z => z, fun _ z => .inl z⟩
  | fr =>
    refine ⟨S, h.ext p.ext, ⟨p.r, hal, fun _ => ⟨(p.fr rfl).1, fun a ha => ?_⟩, (fun q => nomatch q)⟩, fun _ z => z, fun _ z => .inl z⟩
    obtain ⟨m, hs⟩ := (p.fr rfl).2 a ha
    rcases hs with e | ⟨q, hq, hk, hqa⟩
    · refine ⟨m, h.fresh e, fun z => ?_, hN a e, hO a ha (.inl e)⟩
      obtain ⟨o, e'⟩ := (h.stb a z).2
      rw [e] at e'; cases e'
    · obtain ⟨u, tm⟩ := t.mem q hq
      obtain ⟨_, b, ns, n, no⟩ := (tm.fr hk).2 a hqa
      exact ⟨m, b, ns, n, no⟩
  | st =>
    refine ⟨fun a => S a ∨ a ∈ F, h.grow p.ext _ (fun a z => .inl z) (fun a z => ?_), ⟨p.r, hal, (fun q => nomatch q), fun _ a ha => .inr ha⟩, fun a z => .inl z, fun a z => ?_⟩
    · rcases z with z | z
      · obtain ⟨sb, o, e⟩ := h.stb a z
        exact ⟨sb, ⟨o, p.ext a o e⟩, fun i q => (h.own i a q).2.2.2 z⟩
      · refine ⟨?_, p.r.there a z, hO a z (p.st rfl a z)⟩
        rcases p.st rfl a z with e | ⟨q, hq, hk, hqa⟩
        · exact f.hSB a (h.fresh e)
        · obtain ⟨u, tm⟩ := t.mem q hq
          cases e : q.1.2 with
          | fr => exact tm.al a hqa
          | st => exact (h.stb a (tm.st e a hqa)).1
          | bo => exact absurd e hk
    · rcases z with z | z
      · exact .inl z
      · rcases p.st rfl a z with e | ⟨q, hq, hk, hqa⟩
        · exact .inr (hN a e)
        · obtain ⟨u, tm⟩ := t.mem q hq
          cases e : q.1.2 with
          | fr => exact .inr ((tm.fr e).2 a hqa).2.2.2.1
          | st => exact .inl (tm.st e a hqa)
          | bo => exact absurd e hk
end
end Al
/-! A4: the operations of the language are Python's: operators, comparisons, subscripts, slices. -/
namespace Al
open PySem L2

/-! ### what a datum's value looks like -/
section
variable {f : Fx} {H : Hp} {v : V} {F : List Addr}
theorem R.int {i : Int} (h : f.R H [v] [.int i] F) : v = .int i ∧ F = [] := by
  cases h with
  | atom a r => cases a; exact ⟨rfl, r.nil_of.2⟩
theorem R.bl {b : Bool} (h : f.R H [v] [.bl b] F) : v = .bl b ∧ F = [] := by
  cases h with
  | atom a r => cases a; exact ⟨rfl, r.nil_of.2⟩
theorem R.non (h : f.R H [v] [.non] F) : v = .non ∧ F = [] := by
  cases h with
  | atom a r => cases a; exact ⟨rfl, r.nil_of.2⟩
theorem R.str {w : W} (h : f.R H [v] [.str w] F) : v = .str (mkS w) ∧ w.length ≤ LINE ∧ F = [] := by
  cases h with
  | atom a r => cases a with | str q => exact ⟨rfl, q, r.nil_of.2⟩
theorem R.scr' {ns : List Int} (h : f.R H [v] [.scr ns] F) : ∃ a, v = .ref a ∧ ScrAt f.K H a ns ∧ F = [] := by
  cases h with
  | atom a r => cases a
  | scr e r => exact ⟨_, rfl, e, r.nil_of.2⟩
theorem R.lst' {es : List D} (h : f.R H [v] [.lst es] F) : ∃ a xs E, v = .ref a ∧ H a = some (.lst xs) ∧ xs.length ≤ LINE ∧ f.R H xs es E ∧ F = a :: E := by
  cases h with
  | atom a r => cases a
  | lst e l r r' => obtain ⟨_, rfl⟩ := r'.nil_of; exact ⟨_, _, _, rfl, e, l, r, by simp⟩
theorem R.tup' {es : List D} (h : f.R H [v] [.tup es] F) : ∃ a xs, v = .ref a ∧ SqT f.K H a xs ∧ xs.length ≤ LINE ∧ f.R H xs es F := by
  cases h with
  | atom a r => cases a
  | tup e l r r' => obtain ⟨_, rfl⟩ := r'.nil_of; exact ⟨_, _, rfl, e, l, by simpa using r⟩
theorem R.obj' {c : Nat} {es : List (Nat × D)} (h : f.R H [v] [.obj c es] F) : ∃ a dx fs E, v = .ref a ∧ H a = some (.ins (f.cad c) dx fs) ∧ fs.map (·.1) = es.map (fun p => fname p.1) ∧ (es.all fun p => decide (p.1 ≤ 7)) = true ∧ f.R H (fs.map (·.2)) (es.map (·.2)) E ∧ F = a :: E := by
  cases h with
  | atom a r => cases a
  | obj e m t r r' => obtain ⟨_, rfl⟩ := r'.nil_of; exact ⟨_, _, _, _, rfl, e, m, t, r, by simp⟩
end
theorem As.one {f : Fx} {H : Hp} {x : V} {ds : List (D × Kd)} {Fs : List (List Addr)} (h : As f H [x] ds Fs) : ∃ d k F, ds = [(d, k)] ∧ Fs = [F] ∧ f.R H [x] [d] F ∧ (k = .fr → F.Nodup ∧ ∀ a ∈ F, Mut (H a)) := by
  cases h with
  | cons r q t => cases t; exact ⟨_, _, _, rfl, rfl, r, q⟩
theorem As.two {f : Fx} {H : Hp} {x y : V} {ds : List (D × Kd)} {Fs : List (List Addr)} (h : As f H [x, y] ds Fs) : ∃ d k F e l G, ds = [(d, k), (e, l)] ∧ Fs = [F, G] ∧ f.R H [x] [d] F ∧ f.R H [y] [e] G ∧ (k = .fr → F.Nodup ∧ ∀ a ∈ F, Mut (H a)) ∧ (l = .fr → G.Nodup ∧ ∀ a ∈ G, Mut (H a)) := by
  cases h with
  | cons r q t => cases t with | cons r' q' t' => cases t'; exact ⟨_, _, _, _, _, _, rfl, rfl, r, r', q, q'⟩
theorem As.three {f : Fx} {H : Hp} {x y z : V} {ds : List (D × Kd)} {Fs : List (List Addr)} (h : As f H [x, y, z] ds Fs) : ∃ d k F e l G c m E, ds = [(d, k), (e, l), (c, m)] ∧ Fs = [F, G, E] ∧ f.R H [x] [d] F ∧ f.R H [y] [e] G ∧ f.R H [z] [c] E := by
  cases h with
  | cons r q t => cases t with | cons r' q' t' => cases t' with | cons r2 q2 t2 => cases t2; exact ⟨_, _, _, _, _, _, _, _, _, rfl, rfl, r, r', r2⟩

/-! ### results -/
section
variable {f : Fx} {H : Hp} {as : List ((D × Kd) × List Addr)} {d : D} {k : Kd} {v : V}
theorem Pst.atom (a : Atom v d) : Pst f H as d k v H [] := ⟨Ext.refl H, .atom a .nil, (fun _ z => nomatch z), (fun _ => ⟨List.nodup_nil, (fun _ z => nomatch z)⟩), (fun _ _ z => nomatch z)⟩
theorem Pst.int {i : Int} : Pst f H as (.int i) k (.int i) H [] := .atom (.int i)
theorem Pst.bl {b : Bool} : Pst f H as (.bl b) k (.bl b) H [] := .atom (.bl b)
theorem Pst.str {w : W} (h : w.length ≤ LINE) : Pst f H as (.str w) k (.str (mkS w)) H [] := .atom (.str h)
theorem Pst.non : Pst f H as .non k .non H [] := .atom .non
/-- a part of an argument, as it stands -/
theorem Pst.part {F : List Addr} (r : f.R H [v] [d] F) (src : ∀ a ∈ F, ∃ p ∈ as, a ∈ p.2) (fr : k = .fr → F.Nodup ∧ ∀ a ∈ F, Mut (H a) ∧ ∃ p ∈ as, p.1.2 = .fr ∧ a ∈ p.2) (st : k = .st → ∀ a ∈ F, ∃ p ∈ as, p.1.2 ≠ .bo ∧ a ∈ p.2) : Pst f H as d k v H F :=
  ⟨Ext.refl H, r, fun a ha => .inr (src a ha), fun h => ⟨(fr h).1, fun a ha => ⟨((fr h).2 a ha).1, .inr ((fr h).2 a ha).2⟩⟩, fun h a ha => .inr (st h a ha)⟩
/-- a new list of things of the arguments -/
theorem Pst.list {p : Addr} {xs : List V} {es : List D} {E : List Addr} {kk : Kd} (hp : H p = none) (hl : xs.length ≤ LINE) (r : f.R H xs es E) (hk : kk ≠ .fr) (src : ∀ a ∈ E, ∃ q ∈ as, a ∈ q.2) (st : kk = .st → ∀ a ∈ E, ∃ q ∈ as, q.1.2 ≠ .bo ∧ a ∈ q.2) :
    Pst f H as (.lst es) (kdL es kk) (.ref p) (upd H p (.lst xs)) (p :: E) := by
  have x := Ext.new (o := .lst xs) hp
  refine ⟨x, by simpa using R.lst (vs := []) (ds := []) (F := []) upd_same hl (R.ext r x) .nil, fun a ha => ?_, fun h => ?_, fun h a ha => ?_⟩
  · rcases List.mem_cons.mp ha with rfl | ha
    · exact .inl hp
    · exact .inr (src a ha)
  · unfold kdL at h
    split at h
    · next q =>
      have e := r.flats q
      subst e
      refine ⟨by simp, fun a ha => ?_⟩
      obtain rfl : a = p := by simpa using ha
      exact ⟨by rw [upd_same]; trivial, .inl hp⟩
    · exact absurd h hk
  · unfold kdL at h
    split at h
    · cases h
    · rcases List.mem_cons.mp ha with rfl | ha
      · exact .inl hp
      · exact .inr (st h a ha)
theorem Pst.tuple {p : Addr} {xs : List V} {es : List D} {E : List Addr} {kk : Kd} (hp : H p = none) (hl : xs.length ≤ LINE) (r : f.R H xs es E) (hk : kk ≠ .fr) (src : ∀ a ∈ E, ∃ q ∈ as, a ∈ q.2) (st : kk = .st → ∀ a ∈ E, ∃ q ∈ as, q.1.2 ≠ .bo ∧ a ∈ q.2) :
    Pst f H as (.tup es) (kdT es kk) (.ref p) (upd H p (.tup xs)) E := by
  have x := Ext.new (o := .tup xs) hp
  refine ⟨x, by simpa using R.tup (vs := []) (ds := []) (F := []) (SqT.of upd_same) hl (R.ext r x) .nil, fun a ha => .inr (src a ha), fun h => ?_, fun h a ha => ?_⟩
  · unfold kdT at h
    split at h
    · cases h
    · exact absurd h hk
  · unfold kdT at h
    split at h
    · next q =>
      have hf : Al.flatN 3 |> fun g => es.all g := by simpa [Al.flat, Al.flatN] using q
      have e := r.flatN 3 hf
      subst e
      cases ha
    · exact .inr (st h a ha)
end
theorem jn_st_ne (k : Kd) : jn k .st ≠ .fr := by cases k <;> simp [jn]
theorem jn_st (k : Kd) (h : jn k .st = .st) : k ≠ .bo := by cases k <;> simp_all [jn]
theorem jn2_st (k l : Kd) (h : jn (jn k l) .st = .st) : k ≠ .bo ∧ l ≠ .bo := by cases k <;> cases l <;> simp_all [jn]

/-! ### operators -/
section
variable {X : Cx} {f : Fx}
theorem o_add : OpR X (binaryOp .Add) (fun x y => rPr f .add [x, y]) := by
  intro pins s σ H x y v u Q I rx ry h
  obtain ⟨ds, Fs, d, k, as, hp, q⟩ := h
  obtain ⟨a, ka, F, b, kb, G, rfl, rfl, ra, rb, fa, fb⟩ := as.two
  cases a <;> cases b <;> simp only [prD, p_add, p_sub, p_mod, p_fdiv, p_pow, p_neg, reduceCtorEq] at hp
  · next i j =>
    simp only [Option.some.injEq, Prod.mk.injEq] at hp
    obtain ⟨rfl, rfl⟩ := hp
    obtain ⟨rfl, rfl⟩ := ra.int
    obtain ⟨rfl, rfl⟩ := rb.int
    exact op_add pins s σ H _ _ v u Q I rx ry ⟨i, j, rfl, rfl, q _ _ _ .int⟩
  · next v' w' =>
    split at hp
    · next hl =>
      simp only [Option.some.injEq, Prod.mk.injEq] at hp
      obtain ⟨rfl, rfl⟩ := hp
      obtain ⟨rfl, l1, rfl⟩ := ra.str
      obtain ⟨rfl, l2, rfl⟩ := rb.str
      refine op_add_str pins s σ H _ _ v u Q I rx ry ⟨mkS v', mkS w', rfl, rfl, by rw [mkS_len, mkS_len, ← LINE_eq]; exact hl, ?_⟩
      have e : (mkS v' ++ mkS w' : Str) = mkS (v' ++ w') := by
        show Str.append _ _ = _
        simp [Str.append, mkS]
      rw [e]
      exact q _ _ _ (.str (by simpa using hl))
    · cases hp
  · next xs ys =>
    split at hp
    · next hl =>
      simp only [okL, Option.some.injEq, Prod.mk.injEq] at hp
      obtain ⟨rfl, rfl⟩ := hp
      obtain ⟨a, vs, E, rfl, ea, la, r1, rfl⟩ := ra.lst'
      obtain ⟨b, us, E', rfl, eb, lb, r2, rfl⟩ := rb.lst'
      have l1 := r1.length
      have l2 := r2.length
      refine op_cat pins s σ H _ _ v u Q I rx ry ⟨a, b, vs, us, rfl, rfl, ea, eb, by rw [← LINE_eq]; omega, fun p hp => q _ _ _ (Pst.list hp (by simp; omega) (r1.app r2) (jn_st_ne _) (fun c hc => ?_) (fun h c hc => ?_))⟩
      · rcases List.mem_append.mp hc with hc | hc
        · exact ⟨_, List.mem_cons_self, by simp [hc]⟩
        · exact ⟨_, List.mem_cons_of_mem _ List.mem_cons_self, by simp [hc]⟩
      · obtain ⟨h1, h2⟩ := jn2_st _ _ h
        rcases List.mem_append.mp hc with hc | hc
        · exact ⟨_, List.mem_cons_self, h1, by simp [hc]⟩
        · exact ⟨_, List.mem_cons_of_mem _ List.mem_cons_self, h2, by simp [hc]⟩
    · cases hp
theorem o_sub : OpR X (binaryOp .Sub) (fun x y => rPr f .sub [x, y]) := by
  intro pins s σ H x y v u Q I rx ry h
  obtain ⟨ds, Fs, d, k, as, hp, q⟩ := h
  obtain ⟨a, ka, F, b, kb, G, rfl, rfl, ra, rb, fa, fb⟩ := as.two
  cases a <;> cases b <;> simp only [prD, p_add, p_sub, p_mod, p_fdiv, p_pow, p_neg, reduceCtorEq] at hp
  next i j =>
  simp only [Option.some.injEq, Prod.mk.injEq] at hp
  obtain ⟨rfl, rfl⟩ := hp
  obtain ⟨rfl, rfl⟩ := ra.int
  obtain ⟨rfl, rfl⟩ := rb.int
  exact op_sub pins s σ H _ _ v u Q I rx ry ⟨i, j, rfl, rfl, q _ _ _ .int⟩
theorem o_mod : OpR X (binaryOp .Mod) (fun x y => rPr f .mod [x, y]) := by
  intro pins s σ H x y v u Q I rx ry h
  obtain ⟨ds, Fs, d, k, as, hp, q⟩ := h
  obtain ⟨a, ka, F, b, kb, G, rfl, rfl, ra, rb, fa, fb⟩ := as.two
  cases a <;> cases b <;> simp only [prD, p_add, p_sub, p_mod, p_fdiv, p_pow, p_neg, reduceCtorEq] at hp
  next i j =>
  split at hp
  · next hj =>
    simp only [Option.some.injEq, Prod.mk.injEq] at hp
    obtain ⟨rfl, rfl⟩ := hp
    obtain ⟨rfl, rfl⟩ := ra.int
    obtain ⟨rfl, rfl⟩ := rb.int
    exact op_mod pins s σ H _ _ v u Q I rx ry ⟨i, j, rfl, rfl, hj, q _ _ _ .int⟩
  · cases hp
theorem o_fdiv : OpR X (binaryOp .FloorDiv) (fun x y => rPr f .fdiv [x, y]) := by
  intro pins s σ H x y v u Q I rx ry h
  obtain ⟨ds, Fs, d, k, as, hp, q⟩ := h
  obtain ⟨a, ka, F, b, kb, G, rfl, rfl, ra, rb, fa, fb⟩ := as.two
  cases a <;> cases b <;> simp only [prD, p_add, p_sub, p_mod, p_fdiv, p_pow, p_neg, reduceCtorEq] at hp
  next i j =>
  split at hp
  · next hj =>
    simp only [Option.some.injEq, Prod.mk.injEq] at hp
    obtain ⟨rfl, rfl⟩ := hp
    obtain ⟨rfl, rfl⟩ := ra.int
    obtain ⟨rfl, rfl⟩ := rb.int
    have hb : j.natAbs < 2 ^ 250 := by
      have h2 : (10 : Int) ^ 70 < 2 ^ 250 := by decide +kernel
      have h3 : ((2 ^ 250 : Nat) : Int) = (2 : Int) ^ 250 := by norm_cast
      omega
    exact op_fdivW pins s σ H _ _ v u Q I rx ry ⟨i, j, rfl, rfl, wide_div hj.1 hb (by decide) (by decide), q _ _ _ .int⟩
  · cases hp
theorem o_pow : OpR X (binaryOp .Pow) (fun x y => rPr f .pow [x, y]) := by
  intro pins s σ H x y v u Q I rx ry h
  obtain ⟨ds, Fs, d, k, as, hp, q⟩ := h
  obtain ⟨a, ka, F, b, kb, G, rfl, rfl, ra, rb, fa, fb⟩ := as.two
  cases a <;> cases b <;> simp only [prD, p_add, p_sub, p_mod, p_fdiv, p_pow, p_neg, reduceCtorEq] at hp
  next i j =>
  split at hp
  · next hj =>
    simp only [Option.some.injEq, Prod.mk.injEq] at hp
    obtain ⟨rfl, rfl⟩ := hp
    obtain ⟨rfl, rfl⟩ := ra.int
    obtain ⟨rfl, rfl⟩ := rb.int
    exact op_pow pins s σ H _ _ v u Q I rx ry ⟨i, j, rfl, rfl, ⟨hj.1, by omega, Nat.lt_trans hj.2.2 (by decide)⟩, q _ _ _ .int⟩
  · cases hp
/-- a text times an int -/
theorem str_rep {z : Str} {i : Int} {t u : Tok} {A : Around} {E : Value → Shared → Prop} {prog : Program} {w : World} {s : Shared} {Q : Value → Shared → Prop} : True := trivial
theorem o_neg : UnR X (unaryOp .USub) (fun x => rPr f .neg [x]) := by
  intro pins s σ H x v Q I rx h
  obtain ⟨ds, Fs, d, k, as, hp, q⟩ := h
  obtain ⟨a, ka, F, rfl, rfl, ra, fa⟩ := as.one
  cases a <;> simp only [prD, p_add, p_sub, p_mod, p_fdiv, p_pow, p_neg, reduceCtorEq] at hp
  next i =>
  simp only [Option.some.injEq, Prod.mk.injEq] at hp
  obtain ⟨rfl, rfl⟩ := hp
  obtain ⟨rfl, rfl⟩ := ra.int
  exact un_neg pins s σ H _ v Q I rx ⟨i, rfl, q _ _ _ .int⟩
end
end Al
/-! A4b: products, equality, order, subscripts, slices. -/
namespace Al
open PySem L2

theorem ixI_eq (n : Nat) (i : Int) : ixI n i = L2.ixN n i := rfl
theorem atL_eq {α : Type} (xs : List α) (i : Int) : atL xs i = L2.atI xs i := rfl
theorem sIx_eq (n d : Nat) (o : Option Int) : sIx n d o = HT.sIx n d o := by cases o <;> rfl

/-! ### data as the library has them -/
mutual
def toPy : D → PyData
  | .non => .none
  | .bl b => .bool b
  | .int i => .int i
  | .str w => .str (mkS w)
  | .lst xs => .list (toPys xs)
  | .tup xs => .tuple (toPys xs)
  | _ => .none
def toPys : List D → List PyData
  | [] => []
  | d :: r => toPy d :: toPys r
end
theorem toPys_map : ∀ xs : List D, toPys xs = xs.map toPy
  | [] => rfl
  | d :: r => by simp [toPys, toPys_map r]
theorem plain_py : ∀ n, (∀ d, plainN n d = true → (toPy d).plain = true ∧ (toPy d).depth ≤ n) := by
  intro n
  induction n with
  | zero => intro d h; cases d <;> simp_all [plainN, toPy, PyData.plain, PyData.depth]
  | succ n ih =>
    have all : ∀ xs : List D, (xs.all (plainN n)) = true → PyData.plainAll (toPys xs) = true ∧ PyData.depthAll (toPys xs) ≤ n := by
      intro xs
      induction xs with
      | nil => intro _; simp [toPys, PyData.plainAll, PyData.depthAll]
      | cons x xs ihx =>
        intro h
        simp only [List.all_cons, Bool.and_eq_true] at h
        obtain ⟨a, b⟩ := ih x h.1
        obtain ⟨c, e⟩ := ihx h.2
        simp only [toPys, PyData.plainAll, PyData.depthAll, a, c, Bool.and_self, true_and]
        omega
    intro d h
    cases d <;> simp_all [plainN, toPy, PyData.plain, PyData.depth]
theorem mkS_eq {v w : W} : (mkS v == mkS w) = (v == w) := by
  rw [Bool.beq_eq_decide_eq, Bool.beq_eq_decide_eq]
  by_cases h : v = w
  · subst h; simp
  · rw [decide_eq_false h, decide_eq_false (fun z => h (mkS_inj z))]
theorem eq_py : ∀ n (a b : D), plainN n a = true → plainN n b = true → eqN n a b = PyData.eqv (toPy a) (toPy b) := by
  intro n
  induction n with
  | zero =>
    intro a b ha hb
    cases a <;> cases b <;> simp_all [plainN, eqN, toPy, PyData.eqv, b2i, mkS_eq]
  | succ n ih =>
    have all : ∀ xs ys : List D, (xs.all (plainN n)) = true → (ys.all (plainN n)) = true → eqL (eqN n) xs ys = PyData.eqvAll (toPys xs) (toPys ys) := by
      intro xs
      induction xs with
      | nil => intro ys _ _; cases ys <;> simp [eqL, toPys, PyData.eqvAll]
      | cons x xs ihx =>
        intro ys h1 h2
        cases ys with
        | nil => simp [eqL, toPys, PyData.eqvAll]
        | cons y ys =>
          simp only [List.all_cons, Bool.and_eq_true] at h1 h2
          simp only [eqL, toPys, PyData.eqvAll]
          rw [ih x y h1.1 h2.1, ihx ys h1.2 h2.2]
    intro a b ha hb
    cases a <;> cases b <;> simp_all [plainN, eqN, toPy, PyData.eqv, b2i, mkS_eq]
section
variable {X : Cx} {f : Fx} {pins : List (Addr × Obj)} {σ : St} {H : Hp} {s : Shared}
theorem R.reads (hK : X.K = f.K) (I : Inv X pins σ H s) {vs : List V} {ds : List D} {F : List Addr} (h : f.R H vs ds F) : ∀ (n : Nat) (us : List Value), Vals vs us → (ds.all (plainN n)) = true → ∃ as, ReadsAll s.heap us (toPys ds) as := by
  induction h with
  | nil => intro n us r _; cases r; exact ⟨_, .nil⟩
  | atom a _ ih =>
    intro n us r q
    simp only [List.all_cons, Bool.and_eq_true] at q
    cases r with
    | cons r1 r2 =>
      obtain ⟨as, h⟩ := ih n _ r2 q.2
      cases a with
      | non => cases r1; exact ⟨_, .cons .none h⟩
      | bl b => cases r1; exact ⟨_, .cons (.bool b) h⟩
      | int i => obtain ⟨t, rfl⟩ := r1; exact ⟨_, .cons (.int i t) h⟩
      | str hl => obtain ⟨t, rfl⟩ := r1; exact ⟨_, .cons (.str _ t) h⟩
  | scr e _ ih => intro n us r q; cases n <;> simp [plainN] at q
  | lst e l r' _ i1 i2 =>
    intro n us r q
    cases n with
    | zero => simp [plainN] at q
    | succ n =>
      simp only [List.all_cons, Bool.and_eq_true, plainN] at q
      cases r with
      | cons r1 r2 =>
        cases r1
        obtain ⟨its, rv, ⟨o, m, ho, hc, _, hd⟩, _⟩ := I.list (SqL.of e)
        obtain ⟨as, h1⟩ := i1 n its rv q.1
        obtain ⟨bs, h2⟩ := i2 (n + 1) _ r2 q.2
        exact ⟨_, .cons (.list ho hc hd h1) h2⟩
  | tup e l r' _ i1 i2 =>
    intro n us r q
    cases n with
    | zero => simp [plainN] at q
    | succ n =>
      simp only [List.all_cons, Bool.and_eq_true, plainN] at q
      cases r with
      | cons r1 r2 =>
        cases r1
        obtain ⟨its, rv, ⟨o, ho, hc, m, hd⟩, _⟩ := I.tuple (by rw [hK]; exact e)
        obtain ⟨as, h1⟩ := i1 n its rv q.1
        obtain ⟨bs, h2⟩ := i2 (n + 1) _ r2 q.2
        exact ⟨_, .cons (.tuple ho hc hd h1) h2⟩
  | dk => intro n us r q; cases n <;> simp [plainN] at q
  | dt => intro n us r q; cases n <;> simp [plainN] at q
  | obj => intro n us r q; cases n <;> simp [plainN] at q
theorem R.read (hK : X.K = f.K) (I : Inv X pins σ H s) {v : V} {d : D} {F : List Addr} (h : f.R H [v] [d] F) {u : Value} (r : RelV v u) (p : plain d = true) : ∃ as, Reads s.heap u (toPy d) as := by
  obtain ⟨as, q⟩ := R.reads hK I h DEEP [u] (.cons r .nil) (by simpa [plain] using p)
  cases q with
  | cons q1 _ => exact ⟨_, q1⟩
theorem o_eq (hK : X.K = f.K) (hu : X.A.units + 64 < cLine) : OpR X (compareOp .Eq) (fun x y => rPr f .eq [x, y]) := by
  intro pins s σ H x y v u Q I rx ry h
  obtain ⟨ds, Fs, d, k, as, hp, q⟩ := h
  obtain ⟨a, ka, F, b, kb, G, rfl, rfl, ra, rb, fa, fb⟩ := as.two
  simp only [prD, p_eq] at hp
  split at hp
  · next hpl =>
    simp only [Bool.and_eq_true] at hpl
    simp only [Option.some.injEq, Prod.mk.injEq] at hp
    obtain ⟨rfl, rfl⟩ := hp
    obtain ⟨as, r1⟩ := R.read hK I ra rx hpl.1
    obtain ⟨bs, r2⟩ := R.read hK I rb ry hpl.2
    obtain ⟨p1, d1⟩ := plain_py _ a hpl.1
    obtain ⟨p2, d2⟩ := plain_py _ b hpl.2
    refine SeqAt.eq_plain r1 r2 p1 p2 (by unfold DEEP at d1; omega) ⟨.bl _, H, I, rfl, ?_⟩
    rw [← eq_py _ a b hpl.1 hpl.2]
    exact q _ _ _ .bl
  · cases hp
theorem o_ne (hK : X.K = f.K) (hu : X.A.units + 64 < cLine) : OpR X (compareOp .NotEq) (fun x y => rPr f .ne [x, y]) := by
  intro pins s σ H x y v u Q I rx ry h
  obtain ⟨ds, Fs, d, k, as, hp, q⟩ := h
  obtain ⟨a, ka, F, b, kb, G, rfl, rfl, ra, rb, fa, fb⟩ := as.two
  simp only [prD, p_ne] at hp
  split at hp
  · next hpl =>
    simp only [Bool.and_eq_true] at hpl
    simp only [Option.some.injEq, Prod.mk.injEq] at hp
    obtain ⟨rfl, rfl⟩ := hp
    obtain ⟨as, r1⟩ := R.read hK I ra rx hpl.1
    obtain ⟨bs, r2⟩ := R.read hK I rb ry hpl.2
    obtain ⟨p1, d1⟩ := plain_py _ a hpl.1
    obtain ⟨p2, d2⟩ := plain_py _ b hpl.2
    refine SeqAt.ne_plain r1 r2 p1 p2 (by unfold DEEP at d1; omega) ⟨.bl _, H, I, rfl, ?_⟩
    rw [← eq_py _ a b hpl.1 hpl.2]
    exact q _ _ _ .bl
  · cases hp
theorem rep_flat {α : Type} (n : Nat) (xs : List α) : (List.replicate n xs).flatten.length = n * xs.length := by
  induction n with
  | zero => simp
  | succ n ih => rw [List.replicate_succ, List.flatten_cons, List.length_append, ih, Nat.succ_mul]; omega
theorem rep_arr (xs : Array Nat) : ∀ (n : Nat) (acc : Array Nat), (List.replicate n xs).foldl (· ++ ·) acc = (acc.toList ++ (List.replicate n xs.toList).flatten).toArray := by
  intro n
  induction n with
  | zero => intro acc; simp
  | succ n ih => intro acc; rw [List.replicate_succ, List.foldl_cons, ih]; simp [List.replicate_succ, List.append_assoc]
theorem R.rep {vs : List V} {ds : List D} (h : f.R H vs ds []) : ∀ n, f.R H (List.replicate n vs).flatten (List.replicate n ds).flatten [] := by
  intro n
  induction n with
  | zero => exact .nil
  | succ n ih => rw [List.replicate_succ, List.replicate_succ]; exact h.app ih
theorem o_mul : OpR X (binaryOp .Mult) (fun x y => rPr f .mul [x, y]) := by
  intro pins s σ H x y v u Q I rx ry h
  obtain ⟨ds, Fs, d, k, as, hp, q⟩ := h
  obtain ⟨a, ka, F, b, kb, G, rfl, rfl, ra, rb, fa, fb⟩ := as.two
  have hLINE := LINE_eq
  have hsz : sizeLine = 16777216 := sizeLine_eq
  cases a <;> cases b <;> simp only [prD, p_mul, reduceCtorEq] at hp
  · next i j =>
    split at hp
    · next hc =>
      simp only [Option.some.injEq, Prod.mk.injEq] at hp
      obtain ⟨rfl, rfl⟩ := hp
      obtain ⟨rfl, rfl⟩ := ra.int
      obtain ⟨rfl, rfl⟩ := rb.int
      have e : LIM = 2 ^ 64 := by decide
      rw [e] at hc
      exact op_mul pins s σ H _ _ v u Q I rx ry ⟨i, j, rfl, rfl, hc, q _ _ _ .int⟩
    · cases hp
  · next w' j =>
    split at hp
    · next hc =>
      simp only [Option.some.injEq, Prod.mk.injEq] at hp
      obtain ⟨rfl, rfl⟩ := hp
      obtain ⟨rfl, l1, rfl⟩ := ra.str
      obtain ⟨rfl, rfl⟩ := rb.int
      obtain ⟨t, rfl⟩ := rx
      obtain ⟨t', rfl⟩ := ry
      obtain ⟨h1, h2, h3⟩ := hc
      have hlen : ((List.replicate j.toNat w').flatten).length ≤ LINE := by rw [rep_flat, Nat.mul_comm]; exact h1
      have hq := q _ _ _ (Pst.str (f := f) (H := H) (as := [((D.str w', ka), []), ((D.int j, kb), [])]) (k := .st) hlen)
      refine PySem.P.mul_str ?_ ?_ ?_ ?_
      · have e1 : decide (j < -(2 ^ 63 : Int)) = false := decide_eq_false (by omega)
        have e2 : decide (j ≥ (2 ^ 63 : Int)) = false := decide_eq_false (by omega)
        rw [e1, e2]; rfl
      · intro h4 h5
        rw [mkS_len]
        have h6 : (w'.length : Int) * j ≤ 16777216 := by
          have : ((w'.length * j.toNat : Nat) : Int) ≤ 16777216 := by rw [hLINE, hsz] at h1; omega
          rw [Int.natCast_mul, Int.toNat_of_nonneg (by omega)] at this
          exact this
        intro h7
        have h8 : ((w'.length : Int)) * j > (2 ^ 63 - 1) / j * j := Int.mul_lt_mul_of_pos_right h7 (by omega)
        have h9 : (2 ^ 63 - 1) / j * j + (2 ^ 63 - 1) % j = 2 ^ 63 - 1 := Int.ediv_mul_add_emod _ _
        have h10 : (2 ^ 63 - 1 : Int) % j < j := Int.emod_lt_of_pos _ (by omega)
        omega
      · intro h4 h5
        rw [mkS_len]
        unfold Builtin.Str.tooLong
        rw [hLINE] at h1
        have : ¬ (w'.length * j.toNat > sizeLine) := by omega
        simpa using this
      · split
        · next h4 =>
          have e : j.toNat = 0 := by omega
          rw [e] at hq
          exact ⟨by decide, .str _, H, I.tok _, ⟨_, rfl⟩, hq⟩
        · next h4 =>
          split
          · next h5 =>
            have e : (List.replicate j.toNat w').flatten = w' := by
              simp only [Bool.or_eq_true, beq_iff_eq] at h5
              rcases h5 with h5 | h5
              · have : j.toNat = 1 := by omega
                rw [this]; simp
              · rw [mkS_len] at h5
                have : w' = [] := List.eq_nil_of_length_eq_zero h5
                subst this
                simp
            rw [e] at hq
            exact ⟨.str _, H, I, ⟨_, rfl⟩, hq⟩
          · next h5 =>
            refine ⟨?_, .str _, H, I.tok _, ⟨_, rfl⟩, ?_⟩
            · rw [rep_arr]
              simp only [Str.length, Array.toList_empty, List.nil_append, List.size_toArray]
              rw [hLINE] at hlen
              simpa [mkS] using hlen
            · rw [rep_arr]
              simpa [mkS] using hq
    · cases hp
  · next xs j =>
    split at hp
    · next hc =>
      simp only [okL, Option.some.injEq, Prod.mk.injEq] at hp
      obtain ⟨rfl, rfl⟩ := hp
      obtain ⟨a, vs, E, rfl, ea, la, r1, rfl⟩ := ra.lst'
      obtain ⟨rfl, rfl⟩ := rb.int
      have l1 := r1.length
      refine op_rep pins s σ H _ _ v u Q I rx ry ⟨a, j, vs, rfl, rfl, ea, by omega, by omega, by rw [← hLINE, l1]; exact hc.1, fun p hp => ?_⟩
      have hlen : ((List.replicate j.toNat vs).flatten).length ≤ LINE := by rw [rep_flat, Nat.mul_comm, l1]; exact hc.1
      -- the places of the copies
      have hr : ∀ n, ∃ G, f.R H (List.replicate n vs).flatten (List.replicate n xs).flatten G ∧ ∀ c ∈ G, c ∈ E := by
        intro n
        induction n with
        | zero => exact ⟨[], .nil, fun _ z => nomatch z⟩
        | succ n ih =>
          obtain ⟨G, r, hG⟩ := ih
          refine ⟨E ++ G, by rw [List.replicate_succ, List.replicate_succ]; exact r1.app r, fun c hc => (List.mem_append.mp hc).elim id (hG c)⟩
      obtain ⟨G, r, hG⟩ := hr j.toNat
      exact q _ _ _ (Pst.list hp hlen r (jn_st_ne _) (fun c hc => ⟨_, List.mem_cons_self, by simp [hG c hc]⟩) (fun h c hc => ⟨_, List.mem_cons_self, jn_st _ h, by simp [hG c hc]⟩))
    · cases hp
end
end Al
/-! A4c: order, membership, length, subscripts, slices. -/
namespace Al
open PySem L2

section
variable {X : Cx} {f : Fx}
theorem lexLt_dec : ∀ ns ms : List Int, HT.lexLt ns ms = decide (ns < ms)
  | [], [] => by simp [HT.lexLt]
  | [], m :: ms => by simp [HT.lexLt]
  | n :: ns, [] => by simp [HT.lexLt]
  | n :: ns, m :: ms => by
    rw [HT.lexLt_cons]
    split
    · next h =>
      subst h
      rw [lexLt_dec ns ms]
      by_cases q : ns < ms
      · rw [decide_eq_true q, eq_comm, decide_eq_true_eq]
        exact List.Lex.cons q
      · rw [decide_eq_false q, eq_comm, decide_eq_false_iff_not]
        intro z
        cases z with
        | rel h => omega
        | cons h => exact q h
    · next hne =>
      by_cases q : n < m
      · rw [decide_eq_true q, eq_comm, decide_eq_true_eq]
        exact List.Lex.rel q
      · rw [decide_eq_false q, eq_comm, decide_eq_false_iff_not]
        intro z
        cases z with
        | rel h => exact q h
        | cons h => exact hne rfl
theorem asInts_map : ∀ {xs : List D} {ns : List Int}, asInts xs = some ns → xs = ns.map D.int
  | [], ns, h => by simp [asInts] at h; subst h; rfl
  | .int i :: r, ns, h => by
    simp only [asInts, Option.map_eq_some_iff] at h
    obtain ⟨ms, h1, rfl⟩ := h
    rw [asInts_map h1]; rfl
  | .non :: _, _, h => by simp [asInts] at h
  | .bl _ :: _, _, h => by simp [asInts] at h
  | .str _ :: _, _, h => by simp [asInts] at h
  | .scr _ :: _, _, h => by simp [asInts] at h
  | .lst _ :: _, _, h => by simp [asInts] at h
  | .tup _ :: _, _, h => by simp [asInts] at h
  | .dic _ _ :: _, _, h => by simp [asInts] at h
  | .obj _ _ :: _, _, h => by simp [asInts] at h
  | .exc _ :: _, _, h => by simp [asInts] at h
theorem asStrs_map : ∀ {xs : List D} {ws : List W}, asStrs xs = some ws → xs = ws.map D.str
  | [], ns, h => by simp [asStrs] at h; subst h; rfl
  | .str i :: r, ns, h => by
    simp only [asStrs, Option.map_eq_some_iff] at h
    obtain ⟨ms, h1, rfl⟩ := h
    rw [asStrs_map h1]; rfl
  | .non :: _, _, h => by simp [asStrs] at h
  | .bl _ :: _, _, h => by simp [asStrs] at h
  | .int _ :: _, _, h => by simp [asStrs] at h
  | .scr _ :: _, _, h => by simp [asStrs] at h
  | .lst _ :: _, _, h => by simp [asStrs] at h
  | .tup _ :: _, _, h => by simp [asStrs] at h
  | .dic _ _ :: _, _, h => by simp [asStrs] at h
  | .obj _ _ :: _, _, h => by simp [asStrs] at h
  | .exc _ :: _, _, h => by simp [asStrs] at h
theorem asBls_map : ∀ {xs : List D} {bs : List Bool}, asBls xs = some bs → xs = bs.map D.bl
  | [], ns, h => by simp [asBls] at h; subst h; rfl
  | .bl i :: r, ns, h => by
    simp only [asBls, Option.map_eq_some_iff] at h
    obtain ⟨ms, h1, rfl⟩ := h
    rw [asBls_map h1]; rfl
  | .non :: _, _, h => by simp [asBls] at h
  | .str _ :: _, _, h => by simp [asBls] at h
  | .int _ :: _, _, h => by simp [asBls] at h
  | .scr _ :: _, _, h => by simp [asBls] at h
  | .lst _ :: _, _, h => by simp [asBls] at h
  | .tup _ :: _, _, h => by simp [asBls] at h
  | .dic _ _ :: _, _, h => by simp [asBls] at h
  | .obj _ _ :: _, _, h => by simp [asBls] at h
  | .exc _ :: _, _, h => by simp [asBls] at h
/-- a list of ints, texts, truths: its values -/
theorem R.ints {H : Hp} : ∀ {ns : List Int} {vs : List V} {F : List Addr}, f.R H vs (ns.map D.int) F → vs = ns.map V.int ∧ F = []
  | [], vs, F, h => by obtain ⟨rfl, rfl⟩ := h.nil_of'; exact ⟨rfl, rfl⟩
  | n :: ns, [], F, h => by have := h.length; simp at this
  | n :: ns, v :: vs, F, h => by
    obtain ⟨F1, F2, rfl, h1, h2⟩ := h.split
    obtain ⟨rfl, rfl⟩ := R.int h1
    obtain ⟨rfl, rfl⟩ := R.ints h2
    exact ⟨rfl, rfl⟩
theorem R.strs {H : Hp} : ∀ {ws : List W} {vs : List V} {F : List Addr}, f.R H vs (ws.map D.str) F → vs = (ws.map mkS).map V.str ∧ F = [] ∧ ∀ w ∈ ws, w.length ≤ LINE
  | [], vs, F, h => by obtain ⟨rfl, rfl⟩ := h.nil_of'; exact ⟨rfl, rfl, fun _ z => nomatch z⟩
  | n :: ns, [], F, h => by have := h.length; simp at this
  | n :: ns, v :: vs, F, h => by
    obtain ⟨F1, F2, rfl, h1, h2⟩ := h.split
    obtain ⟨rfl, hl, rfl⟩ := R.str h1
    obtain ⟨rfl, rfl, hs⟩ := R.strs h2
    exact ⟨rfl, rfl, fun w hw => by rcases List.mem_cons.mp hw with rfl | hw; exact hl; exact hs w hw⟩
theorem R.bls {H : Hp} : ∀ {bs : List Bool} {vs : List V} {F : List Addr}, f.R H vs (bs.map D.bl) F → vs = bs.map V.bl ∧ F = []
  | [], vs, F, h => by obtain ⟨rfl, rfl⟩ := h.nil_of'; exact ⟨rfl, rfl⟩
  | n :: ns, [], F, h => by have := h.length; simp at this
  | n :: ns, v :: vs, F, h => by
    obtain ⟨F1, F2, rfl, h1, h2⟩ := h.split
    obtain ⟨rfl, rfl⟩ := R.bl h1
    obtain ⟨rfl, rfl⟩ := R.bls h2
    exact ⟨rfl, rfl⟩
theorem R.of_ints {H : Hp} : ∀ (ns : List Int), f.R H (ns.map V.int) (ns.map D.int) []
  | [] => .nil
  | n :: ns => .atom (.int n) (R.of_ints ns)
theorem R.of_strs {H : Hp} : ∀ (ws : List W), (∀ w ∈ ws, w.length ≤ LINE) → f.R H ((ws.map mkS).map V.str) (ws.map D.str) []
  | [], _ => .nil
  | w :: ws, h => .atom (.str (h w List.mem_cons_self)) (R.of_strs ws fun x hx => h x (List.mem_cons_of_mem _ hx))
theorem R.of_bls {H : Hp} : ∀ (bs : List Bool), f.R H (bs.map V.bl) (bs.map D.bl) []
  | [] => .nil
  | n :: ns => .atom (.bl n) (R.of_bls ns)

theorem o_lt (hK : X.K = f.K) (hu : X.A.units < cLine) : OpR X (compareOp .Lt) (fun x y => rPr f .lt [x, y]) := by
  intro pins s σ H x y v u Q I rx ry h
  obtain ⟨ds, Fs, d, k, as, hp, q⟩ := h
  obtain ⟨a, ka, F, b, kb, G, rfl, rfl, ra, rb, fa, fb⟩ := as.two
  cases a <;> cases b <;> simp only [prD, p_lt, reduceCtorEq] at hp
  · next i j =>
    simp only [Option.some.injEq, Prod.mk.injEq] at hp
    obtain ⟨rfl, rfl⟩ := hp
    obtain ⟨rfl, rfl⟩ := ra.int
    obtain ⟨rfl, rfl⟩ := rb.int
    exact op_lt pins s σ H _ _ v u Q I rx ry ⟨i, j, rfl, rfl, q _ _ _ .bl⟩
  · next v' w' =>
    simp only [Option.some.injEq, Prod.mk.injEq] at hp
    obtain ⟨rfl, rfl⟩ := hp
    obtain ⟨rfl, l1, rfl⟩ := ra.str
    obtain ⟨rfl, l2, rfl⟩ := rb.str
    exact op_lt_str pins s σ H _ _ v u Q I rx ry ⟨_, _, rfl, rfl, by rw [mkS_list, mkS_list]; exact q _ _ _ .bl⟩
  · next xs ys =>
    split at hp
    · next ns ms e1 e2 =>
      simp only [Option.some.injEq, Prod.mk.injEq] at hp
      obtain ⟨rfl, rfl⟩ := hp
      obtain ⟨a, vs, rfl, ea, la, r1⟩ := ra.tup'
      obtain ⟨b, us, rfl, eb, lb, r2⟩ := rb.tup'
      rw [asInts_map e1] at r1
      rw [asInts_map e2] at r2
      obtain ⟨rfl, rfl⟩ := r1.ints
      obtain ⟨rfl, rfl⟩ := r2.ints
      exact op_ltT hu pins s σ H _ _ v u Q I rx ry ⟨a, b, ns, ms, rfl, rfl, by rw [hK]; exact ea, by rw [hK]; exact eb, by rw [lexLt_dec]; exact q _ _ _ .bl⟩
    · cases hp
theorem o_gt : OpR X (compareOp .Gt) (fun x y => rPr f .gt [x, y]) := by
  intro pins s σ H x y v u Q I rx ry h
  obtain ⟨ds, Fs, d, k, as, hp, q⟩ := h
  obtain ⟨a, ka, F, b, kb, G, rfl, rfl, ra, rb, fa, fb⟩ := as.two
  cases a <;> cases b <;> simp only [prD, p_gt, reduceCtorEq] at hp
  · next i j =>
    simp only [Option.some.injEq, Prod.mk.injEq] at hp
    obtain ⟨rfl, rfl⟩ := hp
    obtain ⟨rfl, rfl⟩ := ra.int
    obtain ⟨rfl, rfl⟩ := rb.int
    exact op_gt pins s σ H _ _ v u Q I rx ry ⟨i, j, rfl, rfl, q _ _ _ .bl⟩
  · next v' w' =>
    simp only [Option.some.injEq, Prod.mk.injEq] at hp
    obtain ⟨rfl, rfl⟩ := hp
    obtain ⟨rfl, l1, rfl⟩ := ra.str
    obtain ⟨rfl, l2, rfl⟩ := rb.str
    exact op_gt_str pins s σ H _ _ v u Q I rx ry ⟨_, _, rfl, rfl, by rw [mkS_list, mkS_list]; exact q _ _ _ .bl⟩
theorem o_ge : OpR X (compareOp .GtE) (fun x y => rPr f .ge [x, y]) := by
  intro pins s σ H x y v u Q I rx ry h
  obtain ⟨ds, Fs, d, k, as, hp, q⟩ := h
  obtain ⟨a, ka, F, b, kb, G, rfl, rfl, ra, rb, fa, fb⟩ := as.two
  cases a <;> cases b <;> simp only [prD, p_ge, reduceCtorEq] at hp
  · next i j =>
    simp only [Option.some.injEq, Prod.mk.injEq] at hp
    obtain ⟨rfl, rfl⟩ := hp
    obtain ⟨rfl, rfl⟩ := ra.int
    obtain ⟨rfl, rfl⟩ := rb.int
    exact op_ge pins s σ H _ _ v u Q I rx ry ⟨i, j, rfl, rfl, q _ _ _ .bl⟩
  · next v' w' =>
    simp only [Option.some.injEq, Prod.mk.injEq] at hp
    obtain ⟨rfl, rfl⟩ := hp
    obtain ⟨rfl, l1, rfl⟩ := ra.str
    obtain ⟨rfl, l2, rfl⟩ := rb.str
    exact op_ge_str pins s σ H _ _ v u Q I rx ry ⟨_, _, rfl, rfl, by rw [mkS_list, mkS_list]; exact q _ _ _ .bl⟩
theorem o_le (hK : X.K = f.K) (hu : X.A.units < cLine) : OpR X (compareOp .LtE) (fun x y => rPr f .le [x, y]) := by
  intro pins s σ H x y v u Q I rx ry h
  obtain ⟨ds, Fs, d, k, as, hp, q⟩ := h
  obtain ⟨a, ka, F, b, kb, G, rfl, rfl, ra, rb, fa, fb⟩ := as.two
  simp only [prD] at hp
  unfold p_le at hp
  split at hp
  · next i _ j _ e =>
    simp only [List.cons.injEq, Prod.mk.injEq, and_true] at e
    obtain ⟨⟨rfl, rfl⟩, rfl, rfl⟩ := e
    simp only [Option.some.injEq, Prod.mk.injEq] at hp
    obtain ⟨rfl, rfl⟩ := hp
    obtain ⟨rfl, rfl⟩ := ra.int
    obtain ⟨rfl, rfl⟩ := rb.int
    exact op_le pins s σ H _ _ v u Q I rx ry ⟨i, j, rfl, rfl, q _ _ _ .bl⟩
  · next v' _ w' _ e =>
    simp only [List.cons.injEq, Prod.mk.injEq, and_true] at e
    obtain ⟨⟨rfl, rfl⟩, rfl, rfl⟩ := e
    simp only [Option.some.injEq, Prod.mk.injEq] at hp
    obtain ⟨rfl, rfl⟩ := hp
    obtain ⟨rfl, l1, rfl⟩ := ra.str
    obtain ⟨rfl, l2, rfl⟩ := rb.str
    exact op_le_str pins s σ H _ _ v u Q I rx ry ⟨_, _, rfl, rfl, by rw [mkS_list, mkS_list]; exact q _ _ _ .bl⟩
  · next i v' _ j w' _ e =>
    simp only [List.cons.injEq, Prod.mk.injEq, and_true] at e
    obtain ⟨⟨rfl, rfl⟩, rfl, rfl⟩ := e
    simp only [Option.some.injEq, Prod.mk.injEq] at hp
    obtain ⟨rfl, rfl⟩ := hp
    obtain ⟨a, vs, rfl, ea, la, r1⟩ := ra.tup'
    obtain ⟨b, us, rfl, eb, lb, r2⟩ := rb.tup'
    cases rx
    cases ry
    have i2 : ∀ {vs : List V} {i : Int} {w : W} {F : List Addr}, f.R H vs [.int i, .str w] F → vs = [.int i, .str (mkS w)] := fun {vs i w F} r => by
      cases vs with
      | nil => have := r.length; simp at this
      | cons v1 vs =>
        obtain ⟨_, _, _, q1, q2⟩ := r.split
        obtain ⟨rfl, _⟩ := q1.int
        cases vs with
        | nil => have := q2.length; simp at this
        | cons v2 vs =>
          obtain ⟨_, _, _, q3, q4⟩ := q2.split
          obtain ⟨rfl, _⟩ := q3.str
          obtain ⟨rfl, _⟩ := q4.nil_of'
          rfl
    rw [i2 r1] at ea
    rw [i2 r2] at eb
    obtain ⟨its, rv, p1, _⟩ := I.tuple (by rw [hK]; exact ea)
    obtain ⟨its2, rv2, p2, _⟩ := I.tuple (by rw [hK]; exact eb)
    obtain ⟨u1, u2, rfl, ⟨t1, rfl⟩, ⟨t2, rfl⟩⟩ := vals2 rv
    obtain ⟨u3, u4, rfl, ⟨t3, rfl⟩, ⟨t4, rfl⟩⟩ := vals2 rv2
    have R := Ob.RcOp.tuples_le (A := X.A) (s := s) (e := fun n => if n = 0 then (i == j) else (v' == w')) (r := fun n => if n = 0 then decide (i ≤ j) else !decide (w' < v')) p1 p2 hu (fun n h1 h2 => by
      have hn : n = 0 ∨ n = 1 := by simp at h1; omega
      rcases hn with rfl | rfl
      · exact SeqAt.EqAt.int_int _ _ _ _
      · show SeqAt.EqAt _ _ _ _ (v' == w')
        rw [← mkS_eq]
        exact SeqAt.EqAt.str_str _ _ _ _) (fun n h1 h2 _ => by
      have hn : n = 0 ∨ n = 1 := by simp at h1; omega
      rcases hn with rfl | rfl
      · exact Ob.RcOp.le_int _ _ _ _
      · intro prog w E Q' hq
        refine PySem.P.le_str ?_
        rw [mkS_list, mkS_list]
        exact hq)
    have z := R X.prog X.w X.xe (EP X pins σ Q) ⟨.bl _, H, I, rfl, ?_⟩
    · exact z
    · have e : Ob.lexAt (fun n => if n = 0 then (i == j) else (v' == w')) (fun n => if n = 0 then decide (i ≤ j) else !decide (w' < v')) (decide (2 ≤ 2)) 0 (min 2 2) = (if i = j then !decide (w' < v') else decide (i ≤ j)) := by
        show Ob.lexAt _ _ _ 0 2 = _
        rw [Ob.lexAt_succ, Ob.lexAt_succ, Ob.lexAt_zero]
        by_cases hij : i = j
        · subst hij
          simp only [beq_self_eq_true, if_true, if_pos]
          by_cases hvw : v' = w'
          · subst hvw
            simp
          · simp [hvw]
        · simp [hij]
      have z := q _ _ _ (.bl (f := f) (H := H) (as := [((D.tup [.int i, .str v'], ka), F), ((D.tup [.int j, .str w'], kb), G)]) (k := .st))
      rw [← e] at z
      exact z
  · cases hp
end
end Al
/-! A4d: dicts looked into; membership, length, subscripts. -/
namespace Al
open PySem L2

/-! ### dicts with ints and texts as keys -/
theorem keq_int (i j : Int) : keq (.int i) (.int j) = (i == j) := rfl
theorem keq_str (v w : W) : keq (.str v) (.str w) = (v == w) := rfl
theorem keq_keyD (a b : Key) : keq (keyD a) (keyD b) = decide (a = b) := by
  cases a with
  | inl i =>
    cases b with
    | inl j =>
      show (i == j) = _
      rw [key_ll]
    | inr y => rfl
  | inr x =>
    cases b with
    | inl j => rfl
    | inr y =>
      show (x.cps.toList == y.cps.toList) = _
      rw [key_rr, Bool.beq_eq_decide_eq]
      by_cases h : x = y
      · subst h; simp
      · rw [decide_eq_false h, decide_eq_false]
        intro z
        apply h
        cases x; cases y
        simpa using z
theorem key_of_KS {f : Fx} {H : Hp} {v : V} {d : D} {F : List Addr} (r : f.R H [v] [d] F) (h : isKS d = true) : ∃ k : Key, v = kV k ∧ d = keyD k ∧ F = [] ∧ ∀ x, k = Sum.inr x → x.length ≤ LINE := by
  cases d <;> simp only [isKS, Bool.false_eq_true] at h
  · next i => obtain ⟨rfl, rfl⟩ := R.int r; exact ⟨.inl i, rfl, rfl, rfl, fun _ z => nomatch z⟩
  · next w => obtain ⟨rfl, hl, rfl⟩ := R.str r; exact ⟨.inr (mkS w), rfl, by simp [keyD, mkS], rfl, fun x z => by cases z; rw [mkS_len]; exact hl⟩
section
variable {f : Fx} {H : Hp}
theorem dk_get : ∀ {kvs : List (Key × V)} {es : List (D × D)} {E : List Addr}, kvs.map (fun p => keyD p.1) = es.map (·.1) → f.R H (kvs.map (·.2)) (es.map (·.2)) E → ∀ k : Key,
    (getK es (keyD k) = none ∧ valV kvs k = none) ∨ ∃ d v A E' B, getK es (keyD k) = some d ∧ valV kvs k = some v ∧ f.R H [v] [d] E' ∧ E = A ++ (E' ++ B)
  | [], es, E, e, r, k => by
    cases es with
    | nil => exact .inl ⟨rfl, rfl⟩
    | cons p r => simp at e
  | p :: kvs, [], E, e, r, k => by simp at e
  | p :: kvs, q :: es, E, e, r, k => by
    simp only [List.map_cons, List.cons.injEq] at e
    obtain ⟨F1, F2, rfl, h1, h2⟩ := R.split (v := p.2) (d := q.2) r
    have hk : keq q.1 (keyD k) = decide (p.1 = k) := by rw [← e.1, keq_keyD]
    by_cases c : p.1 = k
    · right
      refine ⟨q.2, p.2, [], F1, F2, ?_, ?_, h1, rfl⟩
      · simp [getK, hk, c]
      · simp [valV, c]
    · rcases dk_get e.2 h2 k with ⟨g1, g2⟩ | ⟨d, v, A, E', B, g1, g2, g3, rfl⟩
      · left
        refine ⟨?_, ?_⟩
        · have := g1
          simp only [getK, List.find?_cons, hk, decide_eq_false c] at this ⊢
          exact this
        · have := g2
          simp only [valV, List.find?_cons, decide_eq_false c] at this ⊢
          exact this
      · right
        refine ⟨d, v, F1 ++ A, E', B, ?_, ?_, g3, by simp [List.append_assoc]⟩
        · have := g1
          simp only [getK, List.find?_cons, hk, decide_eq_false c] at this ⊢
          exact this
        · have := g2
          simp only [valV, List.find?_cons, decide_eq_false c] at this ⊢
          exact this
theorem R.dk' {v : V} {es : List (D × D)} {F : List Addr} (h : f.R H [v] [.dic false es] F) : ∃ a kvs E, v = .ref a ∧ Rd H a (.dK kvs) ∧ kvs.length ≤ LINE ∧ kvs.map (fun p => keyD p.1) = es.map (·.1) ∧ KeysOk kvs ∧ f.R H (kvs.map (·.2)) (es.map (·.2)) E ∧ F = a :: E := by
  cases h with
  | atom a r => cases a
  | dk e l m t r r' => obtain ⟨_, rfl⟩ := r'.nil_of; exact ⟨_, _, _, rfl, e, l, m, t, r, by simp⟩
theorem R.dt' {v : V} {es : List (D × D)} {F : List Addr} (h : f.R H [v] [.dic true es] F) : ∃ a L E, v = .ref a ∧ Rd H a (dtO f.w a L) ∧ L.length ≤ LINE ∧ L.map (·.1) = es.map (fun p => nkey p.1) ∧ (L.map (·.1)).Nodup ∧ (es.all fun p => isKT p.1) = true ∧
    f.R H (L.map (fun p => V.ref p.2.1)) (es.map (·.1)) [] ∧ f.R H (L.map (·.2.2)) (es.map (·.2)) E ∧ F = a :: E := by
  cases h with
  | atom a r => cases a
  | dt e l m nd t r0 r r' => obtain ⟨_, rfl⟩ := r'.nil_of; exact ⟨_, _, _, rfl, e, l, m, nd, t, r0, r, by simp⟩
end

/-! ### dicts with tuples as keys -/
theorem nkeys_map : ∀ xs : List D, nkeys xs = xs.map nkey
  | [] => rfl
  | d :: r => by simp [nkeys, nkeys_map r]
theorem nkey_depth : ∀ n, ∀ d, keyN n d = true → (nkey d).depth ≤ n := by
  intro n
  induction n with
  | zero => intro d h; cases d <;> simp_all [keyN, nkey, NestedKey.depth]
  | succ n ih =>
    have all : ∀ xs : List D, (xs.all (keyN n)) = true → NestedKey.depthAll (nkeys xs) ≤ n := by
      intro xs
      induction xs with
      | nil => intro _; simp [nkeys, NestedKey.depthAll]
      | cons x xs ihx =>
        intro h
        simp only [List.all_cons, Bool.and_eq_true] at h
        have a := ih x h.1
        have c := ihx h.2
        simp only [nkeys, NestedKey.depthAll]
        omega
    intro d h
    cases d <;> simp_all [keyN, nkey, NestedKey.depth]
/-- two keys are one key just where they are equal -/
theorem keq_nkey : ∀ n (a b : D), keyN n a = true → keyN n b = true → eqN n a b = NestedKey.beq (nkey a) (nkey b) := by
  have dec : ∀ i j : Int, (i == j) = decide (i = j) := fun i j => by rw [Bool.beq_eq_decide_eq]
  have decS : ∀ v w : W, (v == w) = decide (mkS v = mkS w) := fun v w => by rw [← mkS_eq, Bool.beq_eq_decide_eq]
  intro n
  induction n with
  | zero =>
    intro a b ha hb
    cases a <;> cases b <;> simp_all [keyN, eqN, nkey, NestedKey.beq, b2i]
    next x y => cases x <;> cases y <;> rfl
  | succ n ih =>
    have all : ∀ xs ys : List D, (xs.all (keyN n)) = true → (ys.all (keyN n)) = true → eqL (eqN n) xs ys = NestedKey.beqAll (nkeys xs) (nkeys ys) := by
      intro xs
      induction xs with
      | nil => intro ys _ _; cases ys <;> simp [eqL, nkeys, NestedKey.beqAll]
      | cons x xs ihx =>
        intro ys h1 h2
        cases ys with
        | nil => simp [eqL, nkeys, NestedKey.beqAll]
        | cons y ys =>
          simp only [List.all_cons, Bool.and_eq_true] at h1 h2
          simp only [eqL, nkeys, NestedKey.beqAll]
          rw [ih x y h1.1 h2.1, ihx ys h1.2 h2.2]
    intro a b ha hb
    cases a <;> cases b <;> simp_all [keyN, eqN, nkey, NestedKey.beq, b2i]
    next x y => cases x <;> cases y <;> rfl
theorem eqN_mono : ∀ n m (a b : D), keyN n a = true → keyN n b = true → n ≤ m → eqN m a b = eqN n a b := by
  intro n
  induction n with
  | zero =>
    intro m a b ha hb _
    cases m <;> cases a <;> cases b <;> simp_all [keyN, eqN]
  | succ n ih =>
    intro m a b ha hb hm
    cases m with
    | zero => omega
    | succ m =>
      have all : ∀ xs ys : List D, (xs.all (keyN n)) = true → (ys.all (keyN n)) = true → eqL (eqN m) xs ys = eqL (eqN n) xs ys := by
        intro xs
        induction xs with
        | nil => intro ys _ _; cases ys <;> rfl
        | cons x xs ihx =>
          intro ys h1 h2
          cases ys with
          | nil => rfl
          | cons y ys =>
            simp only [List.all_cons, Bool.and_eq_true] at h1 h2
            simp only [eqL]
            rw [ih m x y h1.1 h2.1 (by omega), ihx ys h1.2 h2.2]
      cases a <;> cases b <;> simp_all [keyN, eqN]
theorem isKT_keyN {d : D} (h : isKT d = true) : keyN 4 d = true := by
  cases d <;> simp_all [isKT, keyN]
theorem keq_KT {a b : D} (ha : isKT a = true) (hb : isKT b = true) : keq a b = decide (nkey a = nkey b) := by
  rw [NestedKey.decide_eq]
  show eqN 5 a b = _
  rw [eqN_mono 4 5 a b (isKT_keyN ha) (isKT_keyN hb) (by omega), keq_nkey 4 a b (isKT_keyN ha) (isKT_keyN hb)]
section
variable {X : Cx} {f : Fx} {pins : List (Addr × Obj)} {σ : St} {H : Hp} {s : Shared}
/-- a key's value is that key to the library -/
theorem R.nested (hK : X.K = f.K) (I : L2.Inv X pins σ H s) {vs : List V} {ds : List D} {F : List Addr} (h : f.R H vs ds F) : ∀ (n : Nat) (us : List Value), Vals vs us → (ds.all (keyN n)) = true → NestedAll s.heap (nkeys ds) us := by
  induction h with
  | nil => intro n us r _; cases r; exact .nil
  | atom a _ ih =>
    intro n us r q
    simp only [List.all_cons, Bool.and_eq_true] at q
    cases r with
    | cons r1 r2 =>
      have h := ih n _ r2 q.2
      cases a with
      | non => cases n <;> simp [keyN] at q
      | bl b => cases r1; exact .cons (.bool rfl) h
      | int i => obtain ⟨t, rfl⟩ := r1; exact .cons (.int i t) h
      | str hl => obtain ⟨t, rfl⟩ := r1; exact .cons (.text _ t) h
  | scr e _ ih => intro n us r q; cases n <;> simp [keyN] at q
  | lst => intro n us r q; cases n <;> simp [keyN] at q
  | tup e l r' _ i1 i2 =>
    intro n us r q
    cases n with
    | zero => simp [keyN] at q
    | succ n =>
      simp only [List.all_cons, Bool.and_eq_true, keyN] at q
      cases r with
      | cons r1 r2 =>
        cases r1
        obtain ⟨its, rv, ⟨o, ho, hc, m, hd⟩, _⟩ := I.tuple (by rw [hK]; exact e)
        exact .cons (.tup ho hc hd (by simpa using i1 n its rv q.1)) (i2 (n + 1) _ r2 q.2)
  | dk => intro n us r q; cases n <;> simp [keyN] at q
  | dt => intro n us r q; cases n <;> simp [keyN] at q
  | obj => intro n us r q; cases n <;> simp [keyN] at q
theorem R.isKey (hK : X.K = f.K) (I : L2.Inv X pins σ H s) {a : Addr} {d : D} {F : List Addr} (h : f.R H [.ref a] [d] F) (p : isKT d = true) : (nestedKind X.prog X.w).is s.heap (nkey d) a := by
  have q := R.nested hK I h 4 [.ref a] (.cons rfl .nil) (by simpa using isKT_keyN p)
  cases q with
  | cons q1 _ => exact ⟨q1, Nat.le_trans (nkey_depth 4 d (isKT_keyN p)) (by decide)⟩
theorem key_of_KT {v : V} {d : D} {F : List Addr} (r : f.R H [v] [d] F) (h : isKT d = true) : ∃ a, v = .ref a := by
  cases d <;> simp only [isKT, Bool.false_eq_true] at h
  obtain ⟨a, xs, rfl, _⟩ := R.tup' r
  exact ⟨a, rfl⟩
abbrev DTP (L : List (NestedKey × Addr × V)) (xs : List (NestedKey × Addr × Value)) : Prop := Paired (fun (p : NestedKey × Addr × V) (q : NestedKey × Addr × Value) => p.1 = q.1 ∧ p.2.1 = q.2.1 ∧ RelV p.2.2 q.2.2) L xs
theorem paired_mem : ∀ {L : List (NestedKey × Addr × V)} {xs : List (NestedKey × Addr × Value)}, DTP L xs → ∀ x ∈ xs, ∃ p ∈ L, p.1 = x.1 ∧ p.2.1 = x.2.1
  | _, _, .nil, _, h => nomatch h
  | _, _, .cons h t, x, hx => by
    rcases List.mem_cons.mp hx with rfl | hx
    · exact ⟨_, List.mem_cons_self, h.1, h.2.1⟩
    · obtain ⟨p, hp, e⟩ := paired_mem t x hx
      exact ⟨p, List.mem_cons_of_mem _ hp, e⟩
theorem paired_keys : ∀ {L : List (NestedKey × Addr × V)} {xs : List (NestedKey × Addr × Value)}, DTP L xs → L.map (·.1) = xs.map (·.1)
  | _, _, .nil => rfl
  | _, _, .cons h t => by rw [List.map_cons, List.map_cons, h.1, paired_keys t]
/-- the dict as the library has it -/
theorem dt_of (hK : X.K = f.K) (hw : X.w = f.w) (I : L2.Inv X pins σ H s) {a : Addr} {L : List (NestedKey × Addr × V)} {es : List (D × D)} (e : Rd H a (dtO f.w a L)) (m : L.map (·.1) = es.map (fun p => nkey p.1)) (t : (es.all fun p => isKT p.1) = true)
    (r : f.R H (L.map (fun p => V.ref p.2.1)) (es.map (·.1)) []) (nd : (L.map (·.1)).Nodup) : (a == sysModules) = false ∧ ∃ xs : List (NestedKey × Addr × Value), s.heap.DictOfH (nestedKind X.prog X.w) a xs ∧ Paired (fun (p : NestedKey × Addr × V) (q : NestedKey × Addr × Value) => p.1 = q.1 ∧ p.2.1 = q.2.1 ∧ RelV p.2.2 q.2.2) L xs := by
  obtain ⟨h1, o, ents, ep, ho, hx, hd, pr⟩ : (a == sysModules) = false ∧ ∃ o es ep, s.heap.get? a = some o ∧ o.ExactDict ∧ o.data = .dict es ep ∧ Paired (fun (p : NestedKey × Addr × V) (e : DictEntry) => e.key = .ref p.2.1 ∧ e.hash = p.1.hash f.w ∧ RelV p.2.2 e.val) L es.toList := by
    have ok := e.ok I.hok
    exact ok.1
  refine ⟨h1, ?_⟩
  have keys : ∀ p ∈ L, (nestedKind X.prog X.w).is s.heap p.1 p.2.1 := by
    clear ho hx hd pr e nd
    induction L generalizing es with
    | nil => exact fun p hp => nomatch hp
    | cons p L ih =>
      cases es with
      | nil => simp at m
      | cons q es =>
        simp only [List.map_cons, List.cons.injEq] at m
        simp only [List.all_cons, Bool.and_eq_true] at t
        obtain ⟨F1, F2, e2, r1, r2⟩ := R.split (v := V.ref p.2.1) (d := q.1) r
        obtain ⟨rfl, rfl⟩ := List.append_eq_nil_iff.mp e2.symm
        intro x hx
        rcases List.mem_cons.mp hx with rfl | hx
        · rw [m.1]; exact R.isKey hK I r1 t.1
        · exact ih m.2 t.2 r2 x hx
  obtain ⟨xs, hxs, pq⟩ : ∃ xs : List (NestedKey × Addr × Value), ents.toList = xs.map (entryOfKey (nestedKind X.prog X.w)) ∧ Paired (fun (p : NestedKey × Addr × V) (q : NestedKey × Addr × Value) => p.1 = q.1 ∧ p.2.1 = q.2.1 ∧ RelV p.2.2 q.2.2) L xs := by
    generalize ents.toList = l at pr
    clear ho hx hd e keys m r nd
    induction pr with
    | nil => exact ⟨[], rfl, .nil⟩
    | @cons p en L' l' h _ ih =>
      obtain ⟨xs, e1, e2⟩ := ih
      obtain ⟨k1, k2, k3⟩ := h
      refine ⟨(p.1, p.2.1, en.val) :: xs, ?_, .cons ⟨rfl, rfl, k3⟩ e2⟩
      rw [List.map_cons, ← e1]
      congr 1
      cases en
      simp only at k1 k2
      subst k1
      simp only [entryOfKey]
      rw [k2, ← hw]
      rfl
  refine ⟨xs, ⟨o, ents, ep, ho, hx, hd, hxs, fun x hx => ?_, ?_⟩, pq⟩
  · obtain ⟨p, hp, e1, e2⟩ := paired_mem pq x hx
    rw [← e1, ← e2]
    exact keys p hp
  · rw [← paired_keys pq]
    exact nd
end
end Al
/-! A4e: None, membership, length, kinds, sums. -/
namespace Al
open PySem L2

section
variable {X : Cx} {f : Fx}
theorem R.isN {H : Hp} {v : V} {d : D} {F : List Addr} (h : f.R H [v] [d] F) : decide (v = .non) = isNon d := by
  cases d with
  | non => obtain ⟨rfl, _⟩ := R.non h; rfl
  | bl b => obtain ⟨rfl, _⟩ := R.bl h; rfl
  | int b => obtain ⟨rfl, _⟩ := R.int h; rfl
  | str b => obtain ⟨rfl, _⟩ := R.str h; rfl
  | scr b => obtain ⟨_, rfl, _⟩ := R.scr' h; rfl
  | lst b => obtain ⟨_, _, _, rfl, _⟩ := R.lst' h; rfl
  | tup b => obtain ⟨_, _, rfl, _⟩ := R.tup' h; rfl
  | dic t b =>
    cases t with
    | false => obtain ⟨_, _, _, rfl, _⟩ := R.dk' h; rfl
    | true => obtain ⟨_, _, _, rfl, _⟩ := R.dt' h; rfl
  | obj c b => obtain ⟨_, _, _, _, rfl, _⟩ := R.obj' h; rfl
  | exc c => cases h; next a _ => cases a
theorem r_isN {x : V} {H : Hp} {Q : VK} (h : rPr f .isN [x] H Q) : rIsN x .non H Q := by
  obtain ⟨ds, Fs, d, k, as, hp, q⟩ := h
  obtain ⟨a, ka, F, rfl, rfl, ra, fa⟩ := as.one
  simp only [prD, p_isN, Option.some.injEq, Prod.mk.injEq] at hp
  obtain ⟨rfl, rfl⟩ := hp
  refine ⟨rfl, ?_⟩
  rw [R.isN ra]
  exact q _ _ _ .bl
theorem r_notN {x : V} {H : Hp} {Q : VK} (h : rPr f .notN [x] H Q) : rNotN x .non H Q := by
  obtain ⟨ds, Fs, d, k, as, hp, q⟩ := h
  obtain ⟨a, ka, F, rfl, rfl, ra, fa⟩ := as.one
  simp only [prD, p_notN, Option.some.injEq, Prod.mk.injEq] at hp
  obtain ⟨rfl, rfl⟩ := hp
  refine ⟨rfl, ?_⟩
  rw [R.isN ra]
  exact q _ _ _ .bl

/-! ### membership -/
theorem isPre_iff : ∀ (v w : W), isPre v w = true ↔ w.take v.length = v
  | [], w => by simp [isPre]
  | x :: xs, [] => by simp [isPre]
  | x :: xs, y :: ys => by
    simp only [isPre, Bool.and_eq_true, beq_iff_eq, isPre_iff xs ys, List.length_cons, List.take_succ_cons, List.cons.injEq]
    constructor
    · rintro ⟨rfl, h⟩; exact ⟨rfl, h⟩
    · rintro ⟨rfl, h⟩; exact ⟨rfl, h⟩
theorem isIn_iff (v : W) : ∀ w : W, isIn v w = true ↔ ∃ i, i + v.length ≤ w.length ∧ (w.drop i).take v.length = v
  | [] => by
    simp only [isIn, isPre_iff, List.length_nil, List.drop_nil, List.take_nil]
    constructor
    · rintro rfl; exact ⟨0, by simp, rfl⟩
    · rintro ⟨i, h, e⟩; exact e
  | c :: r => by
    simp only [isIn, Bool.or_eq_true, isPre_iff, isIn_iff v r]
    constructor
    · rintro (h | ⟨i, h1, h2⟩)
      · refine ⟨0, ?_, by simpa using h⟩
        have := congrArg List.length h
        rw [List.length_take] at this
        omega
      · exact ⟨i + 1, by simp; omega, by simpa using h2⟩
    · rintro ⟨i, h1, h2⟩
      cases i with
      | zero => exact .inl (by simpa using h2)
      | succ i => exact .inr ⟨i, by simp at h1; omega, by simpa using h2⟩
theorem occ_isIn (v w : W) : (!(Builtin.Str.occurrences (mkS w) (mkS v) 0 (mkS w).length 1).isEmpty) = isIn v w := by
  rw [Bool.eq_iff_iff, StrLaws.found_iff, isIn_iff]
  constructor
  · rintro ⟨i, h1, h2⟩
    rw [mkS_len, mkS_len] at h1
    refine ⟨i, h1, ?_⟩
    unfold Builtin.Str.subAt at h2
    rw [beq_iff_eq, mkS_len] at h2
    have := congrArg Array.toList h2
    simp only [mkS, Array.toList_extract] at this
    simpa using this
  · rintro ⟨i, h1, h2⟩
    refine ⟨i, by rw [mkS_len, mkS_len]; exact h1, ?_⟩
    unfold Builtin.Str.subAt
    rw [beq_iff_eq, mkS_len]
    apply Array.toList_inj.mp
    simp only [mkS, Array.toList_extract]
    simpa using h2
theorem any_py {a : D} (ha : plain a = true) : ∀ {xs : List D}, (xs.all plain) = true → ((toPys xs).any fun y => PyData.eqv y (toPy a)) = xs.any fun x => eqD x a
  | [], _ => rfl
  | x :: xs, h => by
    simp only [List.all_cons, Bool.and_eq_true] at h
    simp only [toPys, List.any_cons]
    rw [any_py ha h.2]
    show (PyData.eqv (toPy x) (toPy a) || _) = (eqN DEEP x a || _)
    rw [eq_py _ x a h.1 ha]
theorem plains {xs : List D} (h : (xs.all plain) = true) : PyData.plainAll (toPys xs) = true ∧ PyData.depthAll (toPys xs) ≤ DEEP := by
  have p : plainN 9 (.lst xs) = true := h
  obtain ⟨a, b⟩ := plain_py 9 (.lst xs) p
  simp only [toPy, PyData.plain, PyData.depth] at a b
  exact ⟨a, by unfold DEEP; omega⟩
theorem in_lst (hK : X.K = f.K) (hu : X.A.units + 64 < cLine) {neg : Bool} {pins : List (Addr × Obj)} {s : Shared} {σ : St} {H : Hp} {x y : V} {v u : Value} {F G : List Addr} {Q : VK} {a : D} {xs : List D} (I : L2.Inv X pins σ H s) (rx : RelV x v) (ry : RelV y u) (ra : f.R H [x] [a] F) (rb : f.R H [y] [.lst xs] G) (h1 : plain a = true) (h2 : (xs.all plain) = true)
    (q : Q (.bl (if neg then !(xs.any fun x => eqD x a) else xs.any fun x => eqD x a)) H) : wpAny (model X.prog X.w) X.A (compareOp (if neg then .NotIn else .In) v u) (EP X pins σ Q) X.xe s := by
  obtain ⟨as, r1⟩ := R.read hK I ra rx h1
  obtain ⟨bs, r2⟩ := R.reads hK I rb 9 [u] (.cons ry .nil) (by rw [List.all_cons, List.all_nil, Bool.and_true]; exact h2)
  cases r2 with
  | cons r2 _ =>
    obtain ⟨p1, d1⟩ := plain_py _ a h1
    obtain ⟨p2, d2⟩ := plains h2
    have hd : X.A.units + 1 + min (PyData.depthAll (toPys xs)) (toPy a).depth < cLine := by unfold DEEP at d1 d2; omega
    cases neg with
    | true =>
      refine SeqAt.notIn_list_data r2 r1 p2 p1 hd ⟨.bl _, H, I, rfl, ?_⟩
      rw [any_py h1 h2]; exact q
    | false =>
      refine SeqAt.in_list_data r2 r1 p2 p1 hd ⟨.bl _, H, I, rfl, ?_⟩
      rw [any_py h1 h2]; exact q
theorem in_tup (hK : X.K = f.K) (hu : X.A.units + 64 < cLine) {neg : Bool} {pins : List (Addr × Obj)} {s : Shared} {σ : St} {H : Hp} {x y : V} {v u : Value} {F G : List Addr} {Q : VK} {a : D} {xs : List D} (I : L2.Inv X pins σ H s) (rx : RelV x v) (ry : RelV y u) (ra : f.R H [x] [a] F) (rb : f.R H [y] [.tup xs] G) (h1 : plain a = true) (h2 : (xs.all plain) = true)
    (q : Q (.bl (if neg then !(xs.any fun x => eqD x a) else xs.any fun x => eqD x a)) H) : wpAny (model X.prog X.w) X.A (compareOp (if neg then .NotIn else .In) v u) (EP X pins σ Q) X.xe s := by
  obtain ⟨as, r1⟩ := R.read hK I ra rx h1
  obtain ⟨bs, r2⟩ := R.reads hK I rb 9 [u] (.cons ry .nil) (by rw [List.all_cons, List.all_nil, Bool.and_true]; exact h2)
  cases r2 with
  | cons r2 _ =>
    obtain ⟨p1, d1⟩ := plain_py _ a h1
    obtain ⟨p2, d2⟩ := plains h2
    have hd : X.A.units + 1 + min (PyData.depthAll (toPys xs)) (toPy a).depth < cLine := by unfold DEEP at d1 d2; omega
    cases neg with
    | true =>
      refine SeqAt.notIn_tuple_data r2 r1 p2 p1 hd ⟨.bl _, H, I, rfl, ?_⟩
      rw [any_py h1 h2]; exact q
    | false =>
      refine SeqAt.in_tuple_data r2 r1 p2 p1 hd ⟨.bl _, H, I, rfl, ?_⟩
      rw [any_py h1 h2]; exact q
/-- what is found by a key among tuples -/
theorem dt_get {H : Hp} {a : D} (ha : isKT a = true) : ∀ {L : List (NestedKey × Addr × V)} {es : List (D × D)} {E : List Addr}, L.map (·.1) = es.map (fun p => nkey p.1) → (es.all fun p => isKT p.1) = true → f.R H (L.map (·.2.2)) (es.map (·.2)) E →
    (getK es a = none ∧ L.find? (fun p => decide (p.1 = nkey a)) = none) ∨ ∃ d p A E' B, getK es a = some d ∧ L.find? (fun p => decide (p.1 = nkey a)) = some p ∧ f.R H [p.2.2] [d] E' ∧ E = A ++ (E' ++ B)
  | [], [], E, m, t, r => .inl ⟨rfl, rfl⟩
  | [], q :: es, E, m, t, r => by simp at m
  | p :: L, [], E, m, t, r => by simp at m
  | p :: L, q :: es, E, m, t, r => by
    simp only [List.map_cons, List.cons.injEq] at m
    simp only [List.all_cons, Bool.and_eq_true] at t
    obtain ⟨F1, F2, rfl, h1, h2⟩ := R.split (v := p.2.2) (d := q.2) r
    have hk : keq q.1 a = decide (p.1 = nkey a) := by rw [m.1, keq_KT t.1 ha]
    by_cases c : p.1 = nkey a
    · right
      refine ⟨q.2, p, [], F1, F2, ?_, ?_, h1, rfl⟩
      · simp [getK, hk, c]
      · simp [c]
    · rcases dt_get ha m.2 t.2 h2 with ⟨g1, g2⟩ | ⟨d, v, A, E', B, g1, g2, g3, rfl⟩
      · left
        refine ⟨?_, ?_⟩
        · have := g1
          simp only [getK, List.find?_cons, hk, decide_eq_false c] at this ⊢
          exact this
        · simp only [List.find?_cons, decide_eq_false c]
          exact g2
      · right
        refine ⟨d, v, F1 ++ A, E', B, ?_, ?_, g3, by simp [List.append_assoc]⟩
        · have := g1
          simp only [getK, List.find?_cons, hk, decide_eq_false c] at this ⊢
          exact this
        · simp only [List.find?_cons, decide_eq_false c]
          exact g2
theorem dtp_find (k : NestedKey) : ∀ {L : List (NestedKey × Addr × V)} {xs : List (NestedKey × Addr × Value)}, DTP L xs → (L.find? (fun p => decide (p.1 = k)) = none ∧ valueAt (xs.map fun q => (q.1, q.2.2)) k = none) ∨ ∃ p u, L.find? (fun p => decide (p.1 = k)) = some p ∧ valueAt (xs.map fun q => (q.1, q.2.2)) k = some u ∧ RelV p.2.2 u
  | _, _, .nil => .inl ⟨rfl, rfl⟩
  | _, _, .cons (a := p) (b := x) (l₁ := L) (l₂ := xs) h t => by
    obtain ⟨e1, e2, e3⟩ := h
    by_cases c : p.1 = k
    · right
      refine ⟨p, x.2.2, by simp [c], ?_, e3⟩
      simp only [valueAt, List.map_cons, List.find?_cons]
      rw [← e1]
      simp [c]
    · rcases dtp_find k t with ⟨g1, g2⟩ | ⟨p', u, g1, g2, g3⟩
      · left
        refine ⟨by simp only [List.find?_cons, decide_eq_false c]; exact g1, ?_⟩
        simp only [valueAt, List.map_cons, List.find?_cons] at g2 ⊢
        rw [← e1]
        simp only [c, decide_false]
        exact g2
      · right
        refine ⟨p', u, by simp only [List.find?_cons, decide_eq_false c]; exact g1, ?_, g3⟩
        simp only [valueAt, List.map_cons, List.find?_cons] at g2 ⊢
        rw [← e1]
        simp only [c, decide_false]
        exact g2
/-- the value at a key among tuples -/
theorem dt_find (hK : X.K = f.K) (hw : X.w = f.w) {pins : List (Addr × Obj)} {s : Shared} {σ : St} {H : Hp} (I : L2.Inv X pins σ H s) {x y : V} {G F : List Addr} {a : D} {es : List (D × D)} (rb : f.R H [y] [.dic true es] G) (ra : f.R H [x] [a] F) (hk : isKT a = true) :
    ∃ p b kvs, y = .ref p ∧ x = .ref b ∧ (p == sysModules) = false ∧ (nestedKind X.prog X.w).is s.heap (nkey a) b ∧ s.heap.DictKeyed (nestedKind X.prog X.w) p kvs ∧
      ((getK es a = none ∧ valueAt kvs (nkey a) = none) ∨ ∃ d v u A E B, getK es a = some d ∧ valueAt kvs (nkey a) = some u ∧ RelV v u ∧ f.R H [v] [d] E ∧ G = p :: (A ++ (E ++ B))) := by
  obtain ⟨p, L, E, rfl, e, hl, m, nd, t, r0, r, rfl⟩ := rb.dt'
  obtain ⟨b, rfl⟩ := key_of_KT ra hk
  obtain ⟨hs, xs, hd, pr⟩ := dt_of hK hw I e m t r0 nd
  refine ⟨p, b, _, rfl, rfl, hs, R.isKey hK I ra hk, ⟨xs, hd, rfl⟩, ?_⟩
  have ep : pairsH xs = xs.map fun q => (q.1, q.2.2) := rfl
  rw [ep]
  rcases dt_get hk m t r with ⟨g1, g2⟩ | ⟨d, q, A, E', B, g1, g2, g3, rfl⟩
  · rcases dtp_find (nkey a) pr with ⟨h1, h2⟩ | ⟨_, _, h1, _⟩
    · exact .inl ⟨g1, h2⟩
    · rw [g2] at h1; cases h1
  · rcases dtp_find (nkey a) pr with ⟨h1, h2⟩ | ⟨q', u, h1, h2, h3⟩
    · rw [g2] at h1; cases h1
    · rw [g2] at h1
      cases h1
      exact .inr ⟨d, _, u, A, E', B, g1, h2, h3, g3, rfl⟩
theorem in_dt (hK : X.K = f.K) (hw : X.w = f.w) (hu : X.A.units + 64 < cLine) {neg : Bool} {pins : List (Addr × Obj)} {s : Shared} {σ : St} {H : Hp} {x y : V} {v u : Value} {F G : List Addr} {Q : VK} {a : D} {es : List (D × D)} (I : L2.Inv X pins σ H s) (rx : RelV x v) (ry : RelV y u) (ra : f.R H [x] [a] F) (rb : f.R H [y] [.dic true es] G) (hk : isKT a = true)
    (q : Q (.bl (if neg then !(getK es a).isSome else (getK es a).isSome)) H) : wpAny (model X.prog X.w) X.A (compareOp (if neg then .NotIn else .In) v u) (EP X pins σ Q) X.xe s := by
  obtain ⟨p, b, kvs, rfl, rfl, hs, ik, hd, hor⟩ := dt_find hK hw I rb ra hk
  cases rx
  cases ry
  have e : (valueAt kvs (nkey a)).isSome = (getK es a).isSome := by
    rcases hor with ⟨g1, g2⟩ | ⟨_, _, _, _, _, _, g1, g2, _⟩ <;> rw [g1, g2] <;> rfl
  have hr : (nestedKind X.prog X.w).room X.A.in1 := by show X.A.units + 1 + 8 < cLine; omega
  cases neg with
  | true => exact notIn_keyed hr ik hs hd ⟨.bl _, H, I.tok _, rfl, by rw [e]; exact q⟩
  | false => exact in_keyed hr ik hs hd ⟨.bl _, H, I.tok _, rfl, by rw [e]; exact q⟩
theorem DGet.dk {H : Hp} {a : Addr} {kvs : List (Key × V)} (e : Rd H a (.dK kvs)) (k : Key) : DGet H a (kV k) (valV kvs k) := .inl ⟨kvs, k, e, rfl, rfl⟩
/-- a key in a dict of ints and texts -/
theorem dk_find {H : Hp} {y : V} {es : List (D × D)} {G : List Addr} {x : V} {a : D} {F : List Addr} (rb : f.R H [y] [.dic false es] G) (ra : f.R H [x] [a] F) (hk : isKS a = true) :
    ∃ p o, y = .ref p ∧ DGet H p x o ∧ ((getK es a = none ∧ o = none) ∨ ∃ d v A E B, getK es a = some d ∧ o = some v ∧ f.R H [v] [d] E ∧ G = p :: (A ++ (E ++ B))) := by
  obtain ⟨k, rfl, rfl, rfl, _⟩ := key_of_KS ra hk
  obtain ⟨p, kvs, E, rfl, e, hl, m, t, r, rfl⟩ := rb.dk'
  refine ⟨p, valV kvs k, rfl, DGet.dk e k, ?_⟩
  rcases dk_get m r k with ⟨g1, g2⟩ | ⟨d, v, A, E', B, g1, g2, g3, rfl⟩
  · exact .inl ⟨g1, g2⟩
  · exact .inr ⟨d, v, A, E', B, g1, g2, g3, rfl⟩
theorem o_isin (hK : X.K = f.K) (hw : X.w = f.w) (hu : X.A.units + 64 < cLine) : OpR X (compareOp .In) (fun x y => rPr f .isin [x, y]) := by
  intro pins s σ H x y v u Q I rx ry h
  obtain ⟨ds, Fs, d, k, as, hp, q⟩ := h
  obtain ⟨a, ka, F, b, kb, G, rfl, rfl, ra, rb, fa, fb⟩ := as.two
  simp only [prD] at hp
  unfold p_isin at hp
  split at hp
  · next v' _ w' _ e =>
    simp only [List.cons.injEq, Prod.mk.injEq, and_true] at e
    obtain ⟨⟨rfl, rfl⟩, rfl, rfl⟩ := e
    simp only [Option.some.injEq, Prod.mk.injEq] at hp
    obtain ⟨rfl, rfl⟩ := hp
    obtain ⟨rfl, l1, rfl⟩ := ra.str
    obtain ⟨rfl, l2, rfl⟩ := rb.str
    refine op_in_str pins s σ H _ _ v u Q I rx ry ⟨_, _, rfl, rfl, ?_⟩
    rw [occ_isIn]
    exact q _ _ _ .bl
  · next a' _ xs _ _ e =>
    simp only [List.cons.injEq, Prod.mk.injEq, and_true] at e
    obtain ⟨⟨rfl, rfl⟩, rfl, rfl⟩ := e
    split at hp
    · next hc =>
      simp only [Bool.and_eq_true] at hc
      simp only [Option.some.injEq, Prod.mk.injEq] at hp
      obtain ⟨rfl, rfl⟩ := hp
      exact in_lst hK hu (neg := false) I rx ry ra rb hc.1 hc.2 (q _ _ _ .bl)
    · cases hp
  · next a' _ xs _ _ e =>
    simp only [List.cons.injEq, Prod.mk.injEq, and_true] at e
    obtain ⟨⟨rfl, rfl⟩, rfl, rfl⟩ := e
    split at hp
    · next hc =>
      simp only [Bool.and_eq_true] at hc
      simp only [Option.some.injEq, Prod.mk.injEq] at hp
      obtain ⟨rfl, rfl⟩ := hp
      exact in_tup hK hu (neg := false) I rx ry ra rb hc.1 hc.2 (q _ _ _ .bl)
    · cases hp
  · next a' _ t es _ e =>
    simp only [List.cons.injEq, Prod.mk.injEq, and_true] at e
    obtain ⟨⟨rfl, rfl⟩, rfl, rfl⟩ := e
    split at hp
    · next hc =>
      simp only [Option.some.injEq, Prod.mk.injEq] at hp
      obtain ⟨rfl, rfl⟩ := hp
      cases t with
      | false =>
        obtain ⟨p, o, rfl, hg, hor⟩ := dk_find rb ra (by simpa [keyOk] using hc)
        cases ry
        refine d_in (by omega) I hg rx fun s' I' => ⟨.bl _, H, I', rfl, ?_⟩
        have e : o.isSome = (getK es a).isSome := by
          rcases hor with ⟨g1, g2⟩ | ⟨_, _, _, _, _, g1, g2, _⟩ <;> rw [g1, g2] <;> rfl
        rw [e]
        exact q _ _ _ .bl
      | true => exact in_dt hK hw hu (neg := false) I rx ry ra rb (by simpa [keyOk] using hc) (q _ _ _ .bl)
    · cases hp
  · cases hp
theorem o_notin (hK : X.K = f.K) (hw : X.w = f.w) (hu : X.A.units + 64 < cLine) : OpR X (compareOp .NotIn) (fun x y => rPr f .notin [x, y]) := by
  intro pins s σ H x y v u Q I rx ry h
  obtain ⟨ds, Fs, d, k, as, hp, q⟩ := h
  obtain ⟨a, ka, F, b, kb, G, rfl, rfl, ra, rb, fa, fb⟩ := as.two
  simp only [prD] at hp
  unfold p_notin at hp
  split at hp
  · next v' _ w' _ e =>
    simp only [List.cons.injEq, Prod.mk.injEq, and_true] at e
    obtain ⟨⟨rfl, rfl⟩, rfl, rfl⟩ := e
    simp only [Option.some.injEq, Prod.mk.injEq] at hp
    obtain ⟨rfl, rfl⟩ := hp
    obtain ⟨rfl, l1, rfl⟩ := ra.str
    obtain ⟨rfl, l2, rfl⟩ := rb.str
    refine op_notIn_str pins s σ H _ _ v u Q I rx ry ⟨_, _, rfl, rfl, ?_⟩
    rw [occ_isIn]
    exact q _ _ _ .bl
  · next a' _ xs _ _ e =>
    simp only [List.cons.injEq, Prod.mk.injEq, and_true] at e
    obtain ⟨⟨rfl, rfl⟩, rfl, rfl⟩ := e
    split at hp
    · next hc =>
      simp only [Bool.and_eq_true] at hc
      simp only [Option.some.injEq, Prod.mk.injEq] at hp
      obtain ⟨rfl, rfl⟩ := hp
      exact in_lst hK hu (neg := true) I rx ry ra rb hc.1 hc.2 (q _ _ _ .bl)
    · cases hp
  · next a' _ xs _ _ e =>
    simp only [List.cons.injEq, Prod.mk.injEq, and_true] at e
    obtain ⟨⟨rfl, rfl⟩, rfl, rfl⟩ := e
    split at hp
    · next hc =>
      simp only [Bool.and_eq_true] at hc
      simp only [Option.some.injEq, Prod.mk.injEq] at hp
      obtain ⟨rfl, rfl⟩ := hp
      exact in_tup hK hu (neg := true) I rx ry ra rb hc.1 hc.2 (q _ _ _ .bl)
    · cases hp
  · next a' _ t es _ e =>
    simp only [List.cons.injEq, Prod.mk.injEq, and_true] at e
    obtain ⟨⟨rfl, rfl⟩, rfl, rfl⟩ := e
    split at hp
    · next hc =>
      simp only [Option.some.injEq, Prod.mk.injEq] at hp
      obtain ⟨rfl, rfl⟩ := hp
      cases t with
      | false =>
        obtain ⟨p, o, rfl, hg, hor⟩ := dk_find rb ra (by simpa [keyOk] using hc)
        cases ry
        refine d_notIn (by omega) I hg rx fun s' I' => ⟨.bl _, H, I', rfl, ?_⟩
        have e : o.isSome = (getK es a).isSome := by
          rcases hor with ⟨g1, g2⟩ | ⟨_, _, _, _, _, g1, g2, _⟩ <;> rw [g1, g2] <;> rfl
        rw [e]
        exact q _ _ _ .bl
      | true => exact in_dt hK hw hu (neg := true) I rx ry ra rb (by simpa [keyOk] using hc) (q _ _ _ .bl)
    · cases hp
  · cases hp

/-! ### calls of builtins -/
theorem Rd.sql {K : PySem.W.Frag} {H : Hp} {a : Addr} {xs : List V} (e : H a = some (.lst xs)) : SqL K H a xs := SqL.of e
theorem R.scrL {H : Hp} {v : V} {ns : List Int} {F : List Addr} (h : f.R H [v] [.scr ns] F) : ∃ a, v = .ref a ∧ SqL f.K H a (ns.map V.int) ∧ F = [] := by
  obtain ⟨a, rfl, e, rfl⟩ := R.scr' h
  exact ⟨a, rfl, e.sql, rfl⟩
theorem As.d1 {H : Hp} {xs : List V} {d : D} {k : Kd} {Fs : List (List Addr)} (h : As f H xs [(d, k)] Fs) : ∃ x F, xs = [x] ∧ Fs = [F] ∧ f.R H [x] [d] F ∧ (k = .fr → F.Nodup ∧ ∀ a ∈ F, Mut (H a)) := by
  cases h with
  | cons r q t => cases t; exact ⟨_, _, rfl, rfl, r, q⟩
theorem As.d2 {H : Hp} {xs : List V} {d e : D} {k l : Kd} {Fs : List (List Addr)} (h : As f H xs [(d, k), (e, l)] Fs) : ∃ x y F G, xs = [x, y] ∧ Fs = [F, G] ∧ f.R H [x] [d] F ∧ f.R H [y] [e] G := by
  cases h with
  | cons r q t => obtain ⟨y, G, rfl, rfl, r2, _⟩ := t.d1; exact ⟨_, _, _, _, rfl, rfl, r, r2⟩
theorem As.d3 {H : Hp} {xs : List V} {d e c : D} {k l m : Kd} {Fs : List (List Addr)} (h : As f H xs [(d, k), (e, l), (c, m)] Fs) : ∃ x y z F G E, xs = [x, y, z] ∧ Fs = [F, G, E] ∧ f.R H [x] [d] F ∧ f.R H [y] [e] G ∧ f.R H [z] [c] E := by
  cases h with
  | cons r q t => obtain ⟨y, z, G, E, rfl, rfl, r2, r3⟩ := t.d2; exact ⟨_, _, _, _, _, _, rfl, rfl, r, r2, r3⟩
theorem vals1r {x : V} {us : List Value} (h : Vals [x] us) : ∃ u, us = [u] ∧ RelV x u := by
  cases h with
  | cons r t => cases t; exact ⟨_, rfl, r⟩
theorem c_len (hK : X.K = f.K) (hw : X.w = f.w) : CallR X (.builtin "len") (fun xs => rPr f .len xs) := by
  intro pins s σ H xs us Q I r h
  obtain ⟨ds, Fs, d, k, as, hp, q⟩ := h
  simp only [prD] at hp
  unfold p_len at hp
  have hL := LINE_eq
  split at hp
  · next w _ =>
    obtain ⟨x, F, rfl, rfl, ra, _⟩ := as.d1
    simp only [Option.some.injEq, Prod.mk.injEq] at hp
    obtain ⟨rfl, rfl⟩ := hp
    obtain ⟨rfl, l1, rfl⟩ := ra.str
    exact call_len pins s σ H _ us Q I r ⟨_, w.length, rfl, ⟨by rw [mkS_len, ← hL]; exact l1, (mkS_len w).symm⟩, q _ _ _ .int⟩
  · next es _ =>
    obtain ⟨x, F, rfl, rfl, ra, _⟩ := as.d1
    simp only [Option.some.injEq, Prod.mk.injEq] at hp
    obtain ⟨rfl, rfl⟩ := hp
    obtain ⟨a, vs, E, rfl, ea, la, r1, rfl⟩ := ra.lst'
    exact call_len pins s σ H _ us Q I r ⟨_, es.length, rfl, .inl ⟨vs, SqL.of ea, r1.length.symm⟩, q _ _ _ .int⟩
  · next es _ =>
    obtain ⟨x, F, rfl, rfl, ra, _⟩ := as.d1
    simp only [Option.some.injEq, Prod.mk.injEq] at hp
    obtain ⟨rfl, rfl⟩ := hp
    obtain ⟨a, vs, rfl, ea, la, r1⟩ := ra.tup'
    exact call_len pins s σ H _ us Q I r ⟨_, es.length, rfl, .inr ⟨vs, by rw [hK]; exact ea, r1.length.symm⟩, q _ _ _ .int⟩
  · next t es _ =>
    obtain ⟨x, F, rfl, rfl, ra, _⟩ := as.d1
    simp only [Option.some.injEq, Prod.mk.injEq] at hp
    obtain ⟨rfl, rfl⟩ := hp
    obtain ⟨u, rfl, ru⟩ := vals1r r
    cases t with
    | false =>
      obtain ⟨a, kvs, E, rfl, ea, la, m, tt, r1, rfl⟩ := ra.dk'
      cases ru
      refine d_len I ea fun t s' I' => ⟨.int kvs.length, H, I', ⟨t, rfl⟩, ?_⟩
      have : kvs.length = es.length := by have := congrArg List.length m; simpa using this
      rw [this]
      exact q _ _ _ .int
    | true =>
      obtain ⟨p, L, E, rfl, e, hl, m, nd, t, r0, r1, rfl⟩ := ra.dt'
      cases ru
      obtain ⟨hs, zs, hd, pr⟩ := dt_of hK hw I e m t r0 nd
      have hz : zs.length = es.length := by
        have h1 := congrArg List.length (paired_keys pr)
        have h2 := congrArg List.length m
        simp only [List.length_map] at h1 h2
        omega
      have hl2 : L.length = es.length := by have h2 := congrArg List.length m; simpa using h2
      have hsz : sizeLine = 16777216 := sizeLine_eq
      have hk : s.heap.DictKeyed (nestedKind X.prog X.w) p (pairsH zs) := ⟨zs, hd, rfl⟩
      have hlen : (pairsH zs).length = es.length := by rw [← hz]; simp [pairsH]
      refine PyProof.Rows.call_len_slot (n := ((pairsH zs).length : Int)) hk.typeIs F.slot_dict_len (fun Q' hq => len_keyed hs hk hq) (by omega) ?_ ⟨.int es.length, H, I.tok _, ⟨_, by rw [hlen]⟩, q _ _ _ .int⟩
      rw [hlen]
      unfold LINE at hl
      omega
  · next ns _ =>
    obtain ⟨x, F, rfl, rfl, ra, _⟩ := as.d1
    simp only [Option.some.injEq, Prod.mk.injEq] at hp
    obtain ⟨rfl, rfl⟩ := hp
    obtain ⟨a, rfl, ea, rfl⟩ := ra.scrL
    refine call_len pins s σ H _ us Q I r ⟨_, ns.length, rfl, .inl ⟨_, by rw [hK]; exact ea, by simp⟩, q _ _ _ .int⟩
  · cases hp
theorem asStrs_some {xs : List D} {ws : List W} (h : asStrs xs = some ws) : xs = ws.map D.str := asStrs_map h
theorem c_sum (hK : X.K = f.K) (hc : X.calm = true) : CallR X (.builtin "sum") (fun xs => rPr f .sum xs) := by
  intro pins s σ H xs us Q I r h
  obtain ⟨ds, Fs, d, k, as, hp, q⟩ := h
  simp only [prD] at hp
  unfold p_sum at hp
  split at hp
  · next es _ =>
    obtain ⟨x, F, rfl, rfl, ra, _⟩ := as.d1
    simp only [Option.map_eq_some_iff, Prod.mk.injEq] at hp
    obtain ⟨ns, e, rfl, rfl⟩ := hp
    obtain ⟨a, vs, E, rfl, ea, la, r1, rfl⟩ := ra.lst'
    rw [asInts_map e] at r1
    obtain ⟨rfl, rfl⟩ := r1.ints
    exact cr_sum hc pins s σ H _ us Q I r ⟨a, ns, rfl, SqL.of ea, q _ _ _ .int⟩
  · cases hp
theorem c_all (hK : X.K = f.K) (hc : X.calm = true) : CallR X (.builtin "all") (fun xs => rPr f .all xs) := by
  intro pins s σ H xs us Q I r h
  obtain ⟨ds, Fs, d, k, as, hp, q⟩ := h
  simp only [prD] at hp
  unfold p_all at hp
  split at hp
  · next es _ =>
    obtain ⟨x, F, rfl, rfl, ra, _⟩ := as.d1
    simp only [Option.map_eq_some_iff, Prod.mk.injEq] at hp
    obtain ⟨ns, e, rfl, rfl⟩ := hp
    obtain ⟨a, vs, E, rfl, ea, la, r1, rfl⟩ := ra.lst'
    rw [asBls_map e] at r1
    obtain ⟨rfl, rfl⟩ := r1.bls
    exact cr_all hc pins s σ H _ us Q I r ⟨a, ns, rfl, SqL.of ea, q _ _ _ .bl⟩
  · cases hp
theorem c_any (hK : X.K = f.K) (hc : X.calm = true) : CallR X (.builtin "any") (fun xs => rPr f .any xs) := by
  intro pins s σ H xs us Q I r h
  obtain ⟨ds, Fs, d, k, as, hp, q⟩ := h
  simp only [prD] at hp
  unfold p_any at hp
  split at hp
  · next es _ =>
    obtain ⟨x, F, rfl, rfl, ra, _⟩ := as.d1
    simp only [Option.map_eq_some_iff, Prod.mk.injEq] at hp
    obtain ⟨ns, e, rfl, rfl⟩ := hp
    obtain ⟨a, vs, E, rfl, ea, la, r1, rfl⟩ := ra.lst'
    rw [asBls_map e] at r1
    obtain ⟨rfl, rfl⟩ := r1.bls
    exact cr_any hc pins s σ H _ us Q I r ⟨a, ns, rfl, SqL.of ea, q _ _ _ .bl⟩
  · cases hp
theorem c_min2 (hc : X.calm = true) : CallR X (.builtin "min") (fun xs => rPr f .min2 xs) := by
  intro pins s σ H xs us Q I r h
  obtain ⟨ds, Fs, d, k, as, hp, q⟩ := h
  simp only [prD] at hp
  unfold p_min2 at hp
  split at hp
  · next i _ j _ =>
    obtain ⟨x, y, F, G, rfl, rfl, ra, rb⟩ := as.d2
    simp only [Option.some.injEq, Prod.mk.injEq] at hp
    obtain ⟨rfl, rfl⟩ := hp
    obtain ⟨rfl, rfl⟩ := ra.int
    obtain ⟨rfl, rfl⟩ := rb.int
    exact call_min2 hc pins s σ H _ us Q I r ⟨i, j, rfl, q _ _ _ .int⟩
  · cases hp
theorem c_max2 (hc : X.calm = true) : CallR X (.builtin "max") (fun xs => rPr f .max2 xs) := by
  intro pins s σ H xs us Q I r h
  obtain ⟨ds, Fs, d, k, as, hp, q⟩ := h
  simp only [prD] at hp
  unfold p_max2 at hp
  split at hp
  · next i _ j _ =>
    obtain ⟨x, y, F, G, rfl, rfl, ra, rb⟩ := as.d2
    simp only [Option.some.injEq, Prod.mk.injEq] at hp
    obtain ⟨rfl, rfl⟩ := hp
    obtain ⟨rfl, rfl⟩ := ra.int
    obtain ⟨rfl, rfl⟩ := rb.int
    exact call_max2 hc pins s σ H _ us Q I r ⟨i, j, rfl, q _ _ _ .int⟩
  · cases hp
theorem foldl_max_le (ns : List Int) : ∀ n, (∀ y ∈ n :: ns, y ≤ ns.foldl max n) ∧ ns.foldl max n ∈ n :: ns := by
  induction ns with
  | nil => intro n; simp
  | cons m ns ih =>
    intro n
    obtain ⟨h1, h2⟩ := ih (max n m)
    simp only [List.foldl_cons]
    refine ⟨fun y hy => ?_, ?_⟩
    · have h0 := h1 (max n m) List.mem_cons_self
      rcases List.mem_cons.mp hy with rfl | hy
      · omega
      · rcases List.mem_cons.mp hy with rfl | hy
        · omega
        · exact h1 y (List.mem_cons_of_mem _ hy)
    · rcases List.mem_cons.mp h2 with e | h2
      · rw [e]
        by_cases h : n ≤ m
        · rw [Int.max_eq_right h]; simp
        · rw [Int.max_eq_left (by omega)]; simp
      · simp [h2]
theorem c_max1 (hK : X.K = f.K) (hc : X.calm = true) : CallR X (.builtin "max") (fun xs => rPr f .max1 xs) := by
  intro pins s σ H xs us Q I r h
  obtain ⟨ds, Fs, d, k, as, hp, q⟩ := h
  simp only [prD] at hp
  unfold p_max1 at hp
  split at hp
  · next es _ =>
    obtain ⟨x, F, rfl, rfl, ra, _⟩ := as.d1
    split at hp
    · next n ns e =>
      simp only [Option.some.injEq, Prod.mk.injEq] at hp
      obtain ⟨rfl, rfl⟩ := hp
      obtain ⟨a, vs, E, rfl, ea, la, r1, rfl⟩ := ra.lst'
      rw [asInts_map e] at r1
      obtain ⟨rfl, rfl⟩ := r1.ints
      obtain ⟨h1, h2⟩ := foldl_max_le ns n
      refine cr_max hc pins s σ H _ us Q I r ⟨a, n :: ns, rfl, SqL.of ea, by simp, fun m hm hle => ?_⟩
      have e : m = ns.foldl max n := by
        have a1 := h1 m hm
        have a2 := hle _ h2
        omega
      rw [e]
      exact q _ _ _ .int
    · cases hp
  · cases hp
theorem strs_R {H : Hp} {w : W} (hl : 1 ≤ LINE) : f.R H ((w.map fun c => V.str (mkS [c]))) (w.map fun c => D.str [c]) [] := by
  induction w with
  | nil => exact .nil
  | cons c r ih => exact .atom (.str hl) ih
end
end Al
/-! A4f: subscripts, slices, lists and tuples of things, kinds. -/
namespace Al
open PySem L2

section
variable {X : Cx} {f : Fx}
/-- an item of a list of values by its place -/
theorem R.atL {H : Hp} {vs : List V} {es : List D} {F : List Addr} (h : f.R H vs es F) {i : Int} {d : D} (e : atL es i = some d) : ∃ v A E B, L2.atI vs i = some v ∧ f.R H [v] [d] E ∧ F = A ++ (E ++ B) := by
  have hl := h.length
  unfold Al.atL at e
  rw [ixI_eq] at e
  unfold L2.atI
  rw [hl]
  cases hx : L2.ixN es.length i with
  | none => rw [hx] at e; cases e
  | some j =>
    rw [hx] at e
    simp only [Option.bind_some] at e ⊢
    obtain ⟨v, A, E, B, e1, e2, r, _⟩ := R.at h e
    exact ⟨v, A, E, B, e1, r, e2⟩
theorem kd_fr {d : D} {k : Kd} (h : kd d k = .fr) : flat d = false ∧ k = .fr := by
  unfold kd at h
  split at h
  · cases h
  · next q => exact ⟨by simpa using q, h⟩
theorem kd_st {d : D} {k : Kd} (h : kd d k = .st) : flat d = true ∨ k = .st := by
  unfold kd at h
  split at h
  · next q => exact .inl q
  · exact .inr h
/-- a part of something in hand -/
theorem Pst.ofPart {H : Hp} {as : List ((D × Kd) × List Addr)} {d e : D} {k : Kd} {v : V} {A E B G : List Addr} (r : f.R H [v] [d] E) (hG : G = A ++ (E ++ B)) (hm : ((e, k), G) ∈ as) (hf : k = .fr → G.Nodup ∧ ∀ a ∈ G, Mut (H a)) : Pst f H as d (kd d k) v H E := by
  have hin : ∀ a ∈ E, a ∈ G := fun a ha => by rw [hG]; simp [ha]
  refine Pst.part r (fun a ha => ⟨_, hm, hin a ha⟩) (fun h => ?_) (fun h a ha => ?_)
  · obtain ⟨_, hk⟩ := kd_fr h
    obtain ⟨nd, m⟩ := hf hk
    refine ⟨?_, fun a ha => ⟨m a (hin a ha), _, hm, hk, hin a ha⟩⟩
    rw [hG] at nd
    exact (List.nodup_append.mp (List.nodup_append.mp nd).2.1).1
  · rcases kd_st h with h | h
    · rw [r.flat h] at ha; cases ha
    · exact ⟨_, hm, (by rw [h]; intro z; cases z), hin a ha⟩
/-- .. that is never the frame's own -/
theorem Pst.ofPart2 {H : Hp} {as : List ((D × Kd) × List Addr)} {d e : D} {k : Kd} {v : V} {A E B G : List Addr} (r : f.R H [v] [d] E) (hG : G = A ++ (E ++ B)) (hm : ((e, k), G) ∈ as) : Pst f H as d (kd d (jn k .st)) v H E := by
  have hin : ∀ a ∈ E, a ∈ G := fun a ha => by rw [hG]; simp [ha]
  refine Pst.part r (fun a ha => ⟨_, hm, hin a ha⟩) (fun h => ?_) (fun h a ha => ?_)
  · exact absurd (kd_fr h).2 (jn_st_ne _)
  · rcases kd_st h with h | h
    · rw [r.flat h] at ha; cases ha
    · exact ⟨_, hm, jn_st _ h, hin a ha⟩
theorem i_idx (hK : X.K = f.K) (hw : X.w = f.w) (hu : X.A.units + 64 < cLine) : IxR X (fun x y => rPr f .idx [x, y]) := by
  intro value slice pins s σ H x y v u Q I rx ry h hs
  obtain ⟨ds, Fs, d, k, as, hp, q⟩ := h
  obtain ⟨a, ka, F, b, kb, G, rfl, rfl, ra, rb, fa, fb⟩ := as.two
  simp only [prD] at hp
  unfold p_idx at hp
  have hL := LINE_eq
  split at hp
  · next es _ i _ e =>
    simp only [List.cons.injEq, Prod.mk.injEq, and_true] at e
    obtain ⟨⟨rfl, rfl⟩, rfl, rfl⟩ := e
    simp only [Option.map_eq_some_iff, Prod.mk.injEq] at hp
    obtain ⟨d', e, rfl, rfl⟩ := hp
    obtain ⟨rfl, rfl⟩ := rb.int
    obtain ⟨p, vs, E, rfl, ea, la, r1, rfl⟩ := ra.lst'
    obtain ⟨w, A, E', B, e1, r2, rfl⟩ := r1.atL e
    exact ix_list value slice pins s σ H _ _ v u Q I rx ry ⟨p, vs, i, w, rfl, rfl, SqL.of ea, e1, q _ _ _ (Pst.ofPart (A := p :: A) r2 rfl List.mem_cons_self fa)⟩ hs
  · next es _ i _ e =>
    simp only [List.cons.injEq, Prod.mk.injEq, and_true] at e
    obtain ⟨⟨rfl, rfl⟩, rfl, rfl⟩ := e
    simp only [Option.map_eq_some_iff, Prod.mk.injEq] at hp
    obtain ⟨d', e, rfl, rfl⟩ := hp
    obtain ⟨rfl, rfl⟩ := rb.int
    obtain ⟨p, vs, rfl, ea, la, r1⟩ := ra.tup'
    obtain ⟨w, A, E', B, e1, r2, rfl⟩ := r1.atL e
    exact ix_tup value slice pins s σ H _ _ v u Q I rx ry ⟨p, vs, i, w, rfl, rfl, by rw [hK]; exact ea, e1, q _ _ _ (Pst.ofPart (A := A) r2 rfl List.mem_cons_self fa)⟩ hs
  · next ns _ i _ e =>
    simp only [List.cons.injEq, Prod.mk.injEq, and_true] at e
    obtain ⟨⟨rfl, rfl⟩, rfl, rfl⟩ := e
    simp only [Option.map_eq_some_iff, Prod.mk.injEq] at hp
    obtain ⟨n, e, rfl, rfl⟩ := hp
    obtain ⟨rfl, rfl⟩ := rb.int
    obtain ⟨p, rfl, ea, rfl⟩ := ra.scrL
    have e1 : L2.atI (ns.map V.int) i = some (.int n) := by
      unfold Al.atL at e
      rw [ixI_eq] at e
      unfold L2.atI
      rw [List.length_map]
      cases hx : L2.ixN ns.length i with
      | none => rw [hx] at e; cases e
      | some j =>
        rw [hx] at e
        simp only [Option.bind_some, List.getElem?_map] at e ⊢
        rw [e]; rfl
    exact ix_list value slice pins s σ H _ _ v u Q I rx ry ⟨p, _, i, _, rfl, rfl, by rw [hK]; exact ea, e1, q _ _ _ .int⟩ hs
  · next w _ i _ e =>
    simp only [List.cons.injEq, Prod.mk.injEq, and_true] at e
    obtain ⟨⟨rfl, rfl⟩, rfl, rfl⟩ := e
    simp only [Option.map_eq_some_iff, Prod.mk.injEq] at hp
    obtain ⟨c, e, rfl, rfl⟩ := hp
    obtain ⟨rfl, rfl⟩ := rb.int
    obtain ⟨rfl, l1, rfl⟩ := ra.str
    refine ix_str value slice pins s σ H _ _ v u Q I rx ry ⟨mkS w, i, c, rfl, rfl, by rw [mkS_len, ← hL]; exact l1, by rw [mkS_list]; exact e, q _ _ _ (Pst.str (w := [c]) ?_)⟩ hs
    unfold LINE; simp
  · next t es _ a' _ e =>
    simp only [List.cons.injEq, Prod.mk.injEq, and_true] at e
    obtain ⟨⟨rfl, rfl⟩, rfl, rfl⟩ := e
    split at hp
    · next hc =>
      simp only [Option.map_eq_some_iff, Prod.mk.injEq] at hp
      obtain ⟨d', e, rfl, rfl⟩ := hp
      cases t with
      | false =>
        obtain ⟨p, o, rfl, hg, hor⟩ := dk_find ra rb (by simpa [keyOk] using hc)
        rcases hor with ⟨g1, g2⟩ | ⟨d2, w, A, E, B, g1, g2, g3, rfl⟩
        · rw [g1] at e; cases e
        · rw [e] at g1
          cases g1
          subst g2
          cases rx
          refine PyProof.Rows.tail_any (dict_typeIs I hg) (Slot.lookup F.slot_dict_getitem) (d_getItem (by omega) I hg ry fun w' s3 I3 rw' => ⟨w, H, I3, rw', q _ _ E ?_⟩) hs
          exact Pst.ofPart2 (A := p :: A) (B := B) g3 rfl List.mem_cons_self
      | true =>
        obtain ⟨p, b, kvs, rfl, rfl, hsm, ik, hd, hor⟩ := dt_find hK hw I ra rb (by simpa [keyOk] using hc)
        rcases hor with ⟨g1, g2⟩ | ⟨d2, w, u', A, E, B, g1, g2, rv, g3, rfl⟩
        · rw [g1] at e; cases e
        · rw [e] at g1
          cases g1
          cases rx
          cases ry
          have hr : (nestedKind X.prog X.w).room X.A.in1 := by show X.A.units + 1 + 8 < cLine; omega
          refine PyProof.Rows.tail_any hd.typeIs (Slot.lookup F.slot_dict_getitem) (getItem_keyed hr ik hd g2 ⟨w, H, I.tok _, rv, q _ _ E ?_⟩) hs
          exact Pst.ofPart2 (A := p :: A) (B := B) g3 rfl List.mem_cons_self
    · cases hp
  · cases hp

/-! ### slices -/
theorem R.cut {H : Hp} {vs : List V} {es : List D} {F : List Addr} (h : f.R H vs es F) (lo hi : Option Int) : ∃ A E B, F = A ++ (E ++ B) ∧ f.R H (L2.cutV vs lo hi) (cutL es lo hi) E := by
  have hl := h.length
  unfold L2.cutV cutL
  rw [hl, sIx_eq, sIx_eq]
  obtain ⟨A, B, rfl, _, r2⟩ := R.take (HT.sIx es.length 0 lo) h
  obtain ⟨A2, B2, rfl, r3, _⟩ := R.take (HT.sIx es.length es.length hi - HT.sIx es.length 0 lo) r2
  exact ⟨A, A2, B2, rfl, r3⟩
theorem cutL_len {α : Type} (xs : List α) (lo hi : Option Int) : (cutL xs lo hi).length ≤ xs.length := by
  unfold cutL
  rw [List.length_take, List.length_drop]
  omega
theorem cutS_mk (w : W) (lo hi : Option Int) : L2.cutS (mkS w) lo hi = mkS (cutL w lo hi) := by
  unfold L2.cutS cutL mkS
  simp [sIx_eq, Str.length]
/-- a slice of a text or a list -/
theorem s_cut {p : Pr} {lo hi : Option Int} {x : V} {H : Hp} {Q : VK} {d : D} {k : Kd} {F : List Addr} {as : List ((D × Kd) × List Addr)} {d' : D} {k' : Kd} (ra : f.R H [x] [d] F) (hm : ((d, k), F) ∈ as)
    (hp : (∃ w, d = .str w ∧ d' = .str (cutL w lo hi) ∧ k' = .st) ∨ (∃ es, d = .lst es ∧ d' = .lst (cutL es lo hi) ∧ k' = kdL (cutL es lo hi) (jn k .st)))
    (q : ∀ v H' F, Pst f H as d' k' v H' F → Q v H') : L2.rSlS x lo hi H Q ∨ L2.rSlL f.K x lo hi H Q := by
  have hL := LINE_eq
  rcases hp with ⟨w, rfl, rfl, rfl⟩ | ⟨es, rfl, rfl, rfl⟩
  · obtain ⟨rfl, l1, rfl⟩ := ra.str
    refine .inl ⟨mkS w, rfl, by rw [mkS_len, ← hL]; exact l1, ?_⟩
    rw [cutS_mk]
    exact q _ _ _ (.str (Nat.le_trans (cutL_len _ _ _) l1))
  · obtain ⟨a, vs, E, rfl, ea, la, r1, rfl⟩ := ra.lst'
    obtain ⟨A, E', B, rfl, r2⟩ := r1.cut lo hi
    have hl2 := r2.length
    refine .inr ⟨a, vs, rfl, SqL.of ea, fun p hp => q _ _ _ (Pst.list hp ?_ r2 (jn_st_ne _) (fun c hc => ⟨_, hm, by simp [hc]⟩) fun h c hc => ⟨_, hm, jn_st _ h, by simp [hc]⟩)⟩
    have := cutL_len es lo hi
    have := r1.length
    omega
theorem SlR.toK {r : V → Option Int → Option Int → Hp → VK → Prop} (hK : X.K = f.K) (h : ∀ x lo hi H Q, r x lo hi H Q → L2.rSlS x lo hi H Q ∨ L2.rSlL f.K x lo hi H Q) : SlR X r := by
  intro pins s σ H x v vl vu lo hi sl Q I rx h1 h2 h3 h4
  rcases h _ _ _ _ _ h4 with h5 | h5
  · exact sl_str pins s σ H x v vl vu lo hi sl Q I rx h1 h2 h3 h5
  · exact sl_list pins s σ H x v vl vu lo hi sl Q I rx h1 h2 h3 (by rw [hK]; exact h5)
/-- the reading of a slice with both bounds -/
def rCut (f : Fx) : V → Option Int → Option Int → Hp → VK → Prop := fun x lo hi H Q => ∃ i j, lo = some i ∧ hi = some j ∧ rPr f .cut [x, .int i, .int j] H Q
def rCutTo (f : Fx) : V → Option Int → Option Int → Hp → VK → Prop := fun x lo hi H Q => ∃ j, lo = none ∧ hi = some j ∧ rPr f .cutTo [x, .int j] H Q
def rCutFrom (f : Fx) : V → Option Int → Option Int → Hp → VK → Prop := fun x lo hi H Q => ∃ i, lo = some i ∧ hi = none ∧ rPr f .cutFrom [x, .int i] H Q
theorem sl_cut (hK : X.K = f.K) : SlR X (rCut f) := by
  refine SlR.toK hK fun x lo hi H Q h => ?_
  obtain ⟨i, j, rfl, rfl, ds, Fs, d, k, as, hp, q⟩ := h
  obtain ⟨a, ka, F, b, kb, G, c, kc, E, rfl, rfl, ra, rb, rc⟩ := as.three
  obtain ⟨i', rfl⟩ : ∃ i', b = .int i' := by cases rb with | atom z _ => cases z; exact ⟨_, rfl⟩
  obtain ⟨e, rfl⟩ := rb.int
  cases e
  obtain ⟨j', rfl⟩ : ∃ j', c = .int j' := by cases rc with | atom z _ => cases z; exact ⟨_, rfl⟩
  obtain ⟨e, rfl⟩ := rc.int
  cases e
  simp only [prD] at hp
  unfold p_cut at hp
  split at hp
  · next w _ _ _ _ _ e =>
    simp only [List.cons.injEq, Prod.mk.injEq, and_true, D.int.injEq] at e
    obtain ⟨⟨rfl, rfl⟩, ⟨rfl, rfl⟩, rfl, rfl⟩ := e
    simp only [Option.some.injEq, Prod.mk.injEq] at hp
    exact s_cut (p := .cut) ra List.mem_cons_self (.inl ⟨w, rfl, hp.1.symm, hp.2.symm⟩) q
  · next es _ _ _ _ _ e =>
    simp only [List.cons.injEq, Prod.mk.injEq, and_true, D.int.injEq] at e
    obtain ⟨⟨rfl, rfl⟩, ⟨rfl, rfl⟩, rfl, rfl⟩ := e
    simp only [okL, Option.some.injEq, Prod.mk.injEq] at hp
    exact s_cut (p := .cut) ra List.mem_cons_self (.inr ⟨es, rfl, hp.1.symm, hp.2.symm⟩) q
  · cases hp
theorem sl_cutFrom (hK : X.K = f.K) : SlR X (rCutFrom f) := by
  refine SlR.toK hK fun x lo hi H Q h => ?_
  obtain ⟨i, rfl, rfl, ds, Fs, d, k, as, hp, q⟩ := h
  obtain ⟨a, ka, F, b, kb, G, rfl, rfl, ra, rb, _, _⟩ := as.two
  obtain ⟨i', rfl⟩ : ∃ i', b = .int i' := by cases rb with | atom z _ => cases z; exact ⟨_, rfl⟩
  obtain ⟨e, rfl⟩ := rb.int
  cases e
  simp only [prD] at hp
  unfold p_cutFrom at hp
  split at hp
  · next w _ _ _ e =>
    simp only [List.cons.injEq, Prod.mk.injEq, and_true, D.int.injEq] at e
    obtain ⟨⟨rfl, rfl⟩, rfl, rfl⟩ := e
    simp only [Option.some.injEq, Prod.mk.injEq] at hp
    exact s_cut (p := .cut) ra List.mem_cons_self (.inl ⟨w, rfl, hp.1.symm, hp.2.symm⟩) q
  · next es _ _ _ e =>
    simp only [List.cons.injEq, Prod.mk.injEq, and_true, D.int.injEq] at e
    obtain ⟨⟨rfl, rfl⟩, rfl, rfl⟩ := e
    simp only [okL, Option.some.injEq, Prod.mk.injEq] at hp
    exact s_cut (p := .cut) ra List.mem_cons_self (.inr ⟨es, rfl, hp.1.symm, hp.2.symm⟩) q
  · cases hp
theorem sl_cutTo (hK : X.K = f.K) : SlR X (rCutTo f) := by
  intro pins s σ H x v vl vu lo hi sl Q I rx h1 h2 h3 h4
  have hL := LINE_eq
  obtain ⟨i, rfl, rfl, ds, Fs, d, k, as, hp, q⟩ := h4
  obtain ⟨a, ka, F, b, kb, G, rfl, rfl, ra, rb, _, _⟩ := as.two
  obtain ⟨i', rfl⟩ : ∃ i', b = .int i' := by cases rb with | atom z _ => cases z; exact ⟨_, rfl⟩
  obtain ⟨e, rfl⟩ := rb.int
  cases e
  simp only [prD] at hp
  unfold p_cutTo at hp
  split at hp
  · next w _ _ _ e =>
    simp only [List.cons.injEq, Prod.mk.injEq, and_true, D.int.injEq] at e
    obtain ⟨⟨rfl, rfl⟩, rfl, rfl⟩ := e
    simp only [Option.some.injEq, Prod.mk.injEq] at hp
    rcases s_cut (p := .cut) (Q := Q) ra List.mem_cons_self (.inl ⟨w, rfl, hp.1.symm, hp.2.symm⟩) q with h5 | h5
    · exact sl_str pins s σ H x v vl vu _ _ sl Q I rx h1 h2 h3 h5
    · exact sl_list pins s σ H x v vl vu _ _ sl Q I rx h1 h2 h3 (by rw [hK]; exact h5)
  · next es _ _ _ e =>
    simp only [List.cons.injEq, Prod.mk.injEq, and_true, D.int.injEq] at e
    obtain ⟨⟨rfl, rfl⟩, rfl, rfl⟩ := e
    simp only [okL, Option.some.injEq, Prod.mk.injEq] at hp
    rcases s_cut (p := .cut) (Q := Q) ra List.mem_cons_self (.inr ⟨es, rfl, hp.1.symm, hp.2.symm⟩) q with h5 | h5
    · exact sl_str pins s σ H x v vl vu _ _ sl Q I rx h1 h2 h3 h5
    · exact sl_list pins s σ H x v vl vu _ _ sl Q I rx h1 h2 h3 (by rw [hK]; exact h5)
  · next es _ _ _ e =>
    simp only [List.cons.injEq, Prod.mk.injEq, and_true, D.int.injEq] at e
    obtain ⟨⟨rfl, rfl⟩, rfl, rfl⟩ := e
    split at hp
    · cases hp
    · next hc =>
      simp only [Option.some.injEq, Prod.mk.injEq] at hp
      obtain ⟨rfl, rfl⟩ := hp
      obtain ⟨a, vs, rfl, ea, la, r1⟩ := ra.tup'
      obtain ⟨A, E', B, rfl, r2⟩ := r1.cut none (some i)
      have hl1 := r1.length
      refine sl_tup pins s σ H _ v vl vu _ _ sl Q I rx h1 h2 h3 ⟨a, vs, rfl, by rw [hK]; exact ea, fun z => hc (.inr ?_), fun p hp => q _ _ _ (Pst.tuple hp ?_ r2 (jn_st_ne _) (fun c hc => ⟨_, List.mem_cons_self, by simp [hc]⟩) fun h c hc => ⟨_, List.mem_cons_self, jn_st _ h, by simp [hc]⟩)⟩
      · unfold cutL
        rw [sIx_eq, sIx_eq, ← hl1, z.1, z.2]
        simp [hl1]
      · have := cutL_len es none (some i)
        have := r2.length
        omega
  · cases hp
end
end Al
/-! A4g: kinds, lists of things, texts joined and split, dicts asked. -/
namespace Al
open PySem L2

/-- the classes' names -/
def tyS : Nat → String
  | 0 => "str" | 1 => "list" | 2 => "int" | 3 => "bool" | _ => "tuple"
theorem kit_non {T : Nat} (h : T ≤ 4) {K : PySem.W.Frag} : PySem.W.kitOne K (.type "NoneType") (.type (tyS T)) = some false := by
  match T, h with
  | 0, _ => exact kit_ty (by decide +kernel)
  | 1, _ => exact kit_ty (by decide +kernel)
  | 2, _ => exact kit_ty (by decide +kernel)
  | 3, _ => exact kit_ty (by decide +kernel)
  | 4, _ => exact kit_ty (by decide +kernel)
theorem kit_bl {T : Nat} (h : T ≤ 4) {K : PySem.W.Frag} : PySem.W.kitOne K (.type "bool") (.type (tyS T)) = some (T == 2 || T == 3) := by
  match T, h with
  | 0, _ => exact kit_ty (by decide +kernel)
  | 1, _ => exact kit_ty (by decide +kernel)
  | 2, _ => exact kit_ty (by decide +kernel)
  | 3, _ => exact kit_ty (by decide +kernel)
  | 4, _ => exact kit_ty (by decide +kernel)
theorem kit_int {T : Nat} (h : T ≤ 4) {K : PySem.W.Frag} : PySem.W.kitOne K (.type "int") (.type (tyS T)) = some (T == 2) := by
  match T, h with
  | 0, _ => exact kit_ty (by decide +kernel)
  | 1, _ => exact kit_ty (by decide +kernel)
  | 2, _ => exact kit_ty (by decide +kernel)
  | 3, _ => exact kit_ty (by decide +kernel)
  | 4, _ => exact kit_ty (by decide +kernel)
theorem kit_str {T : Nat} (h : T ≤ 4) {K : PySem.W.Frag} : PySem.W.kitOne K (.type "str") (.type (tyS T)) = some (T == 0) := by
  match T, h with
  | 0, _ => exact kit_ty (by decide +kernel)
  | 1, _ => exact kit_ty (by decide +kernel)
  | 2, _ => exact kit_ty (by decide +kernel)
  | 3, _ => exact kit_ty (by decide +kernel)
  | 4, _ => exact kit_ty (by decide +kernel)
theorem kit_lst {T : Nat} (h : T ≤ 4) {K : PySem.W.Frag} : PySem.W.kitOne K (.type "list") (.type (tyS T)) = some (T == 1) := by
  match T, h with
  | 0, _ => exact kit_ty (by decide +kernel)
  | 1, _ => exact kit_ty (by decide +kernel)
  | 2, _ => exact kit_ty (by decide +kernel)
  | 3, _ => exact kit_ty (by decide +kernel)
  | 4, _ => exact kit_ty (by decide +kernel)
theorem kit_tup {T : Nat} (h : T ≤ 4) {K : PySem.W.Frag} : PySem.W.kitOne K (.type "tuple") (.type (tyS T)) = some (T == 4) := by
  match T, h with
  | 0, _ => exact kit_ty (by decide +kernel)
  | 1, _ => exact kit_ty (by decide +kernel)
  | 2, _ => exact kit_ty (by decide +kernel)
  | 3, _ => exact kit_ty (by decide +kernel)
  | 4, _ => exact kit_ty (by decide +kernel)
theorem kit_dic {T : Nat} (h : T ≤ 4) {K : PySem.W.Frag} : PySem.W.kitOne K (.type "dict") (.type (tyS T)) = some false := by
  match T, h with
  | 0, _ => exact kit_ty (by decide +kernel)
  | 1, _ => exact kit_ty (by decide +kernel)
  | 2, _ => exact kit_ty (by decide +kernel)
  | 3, _ => exact kit_ty (by decide +kernel)
  | 4, _ => exact kit_ty (by decide +kernel)
section
variable {X : Cx} {f : Fx}
theorem c_isi (hK : X.K = f.K) {T : Nat} (hT : T ≤ 4) {x : V} {H : Hp} {Q : VK} (h : rPr f (.isi T) [x] H Q) : rIsi X.K [x, .ty (tyS T)] H Q := by
  obtain ⟨ds, Fs, d, k, as, hp, q⟩ := h
  obtain ⟨a, ka, F, rfl, rfl, ra, _⟩ := as.one
  simp only [prD, p_isi, Option.map_eq_some_iff, Prod.mk.injEq] at hp
  obtain ⟨b, e, rfl, rfl⟩ := hp
  have fin : ∀ t, TyX X.K H x t → PySem.W.kitOne X.K t (.type (tyS T)) = some b → rIsi X.K [x, .ty (tyS T)] H Q := fun t h1 h2 => ⟨x, _, t, _, b, rfl, .ty _, h1, h2, q _ _ _ .bl⟩
  cases a <;> try simp only [isiT, Option.some.injEq, reduceCtorEq] at e
  · subst e
    obtain ⟨rfl, _⟩ := ra.non
    exact fin _ (.base .non) (kit_non hT)
  · subst e
    obtain ⟨rfl, _⟩ := ra.bl
    exact fin _ (.base (.bl _)) (kit_bl hT)
  · subst e
    obtain ⟨rfl, _⟩ := ra.int
    exact fin _ (.base (.int _)) (kit_int hT)
  · subst e
    obtain ⟨rfl, _⟩ := ra.str
    exact fin _ (.base (.str _)) (kit_str hT)
  · subst e
    obtain ⟨a, vs, E, rfl, ea, _⟩ := ra.lst'
    exact fin _ (.base (.lst ea)) (kit_lst hT)
  · subst e
    obtain ⟨a, vs, rfl, ea, _⟩ := ra.tup'
    rw [← hK] at ea
    rcases ea with (ea | ⟨o, ea⟩) | ⟨o, its, n, e1, e2, _⟩
    · exact fin _ (.base (.tup ea)) (kit_tup hT)
    · exact fin _ (.fTuple ea) (kit_tup hT)
    · exact fin _ (.kTuple e1 e2) (kit_tup hT)
  · next t kvs =>
    cases t <;> simp only [isiT, Option.some.injEq, reduceCtorEq] at e
    subst e
    obtain ⟨a, vs, E, rfl, ea, _⟩ := ra.dk'
    rcases ea with ea | ⟨o, ea⟩
    · exact fin _ (.base (.dK ea)) (kit_dic hT)
    · exact fin _ (.fDict ea) (kit_dic hT)
theorem kV_R {H : Hp} : ∀ {kvs : List (Key × V)} {es : List (D × D)}, kvs.map (fun p => keyD p.1) = es.map (·.1) → (∀ p ∈ kvs, ∀ x, p.1 = Sum.inr x → x.length ≤ LINE) → f.R H (kvs.map fun kv => kV kv.1) (es.map (·.1)) []
  | [], [], _, _ => .nil
  | [], q :: es, m, _ => by simp at m
  | p :: kvs, [], m, _ => by simp at m
  | p :: kvs, q :: es, m, t => by
    simp only [List.map_cons, List.cons.injEq] at m ⊢
    have r := kV_R (H := H) m.2 fun x hx => t x (List.mem_cons_of_mem _ hx)
    rw [← m.1]
    cases hk : p.1 with
    | inl i => exact .atom (.int i) r
    | inr x =>
      have hl := t p List.mem_cons_self x hk
      have e : mkS x.cps.toList = x := by cases x; simp [mkS]
      have a : Atom (.str (mkS x.cps.toList)) (.str x.cps.toList) := .str (by simpa [Str.length] using hl)
      rw [e] at a
      exact .atom a r
theorem c_list (hK : X.K = f.K) (hc : X.calm = true) : CallR X (.type "list") (fun xs => rPr f .list xs) := by
  intro pins s σ H xs us Q I r h
  obtain ⟨ds, Fs, d, k, as, hp, q⟩ := h
  simp only [prD] at hp
  unfold p_list at hp
  split at hp
  · next es kk =>
    obtain ⟨x, F, rfl, rfl, ra, _⟩ := as.d1
    simp only [okL, Option.some.injEq, Prod.mk.injEq] at hp
    obtain ⟨rfl, rfl⟩ := hp
    obtain ⟨a, vs, E, rfl, ea, la, r1, rfl⟩ := ra.lst'
    exact call_list_of pins s σ H _ us Q I r ⟨a, vs, rfl, .inl (SqL.of ea), fun l hl => q _ _ _ (Pst.list hl la r1 (jn_st_ne _) (fun c hc => ⟨_, List.mem_cons_self, by simp [hc]⟩) fun h c hc => ⟨_, List.mem_cons_self, jn_st _ h, by simp [hc]⟩)⟩
  · next es kk =>
    obtain ⟨x, F, rfl, rfl, ra, _⟩ := as.d1
    simp only [okL, Option.some.injEq, Prod.mk.injEq] at hp
    obtain ⟨rfl, rfl⟩ := hp
    obtain ⟨a, vs, rfl, ea, la, r1⟩ := ra.tup'
    exact call_list_of pins s σ H _ us Q I r ⟨a, vs, rfl, .inr (by rw [hK]; exact ea), fun l hl => q _ _ _ (Pst.list hl la r1 (jn_st_ne _) (fun c hc => ⟨_, List.mem_cons_self, by simp [hc]⟩) fun h c hc => ⟨_, List.mem_cons_self, jn_st _ h, by simp [hc]⟩)⟩
  · next es kk =>
    obtain ⟨x, F, rfl, rfl, ra, _⟩ := as.d1
    simp only [Option.some.injEq, Prod.mk.injEq] at hp
    obtain ⟨rfl, rfl⟩ := hp
    obtain ⟨a, kvs, E, rfl, ea, la, m, t, r1, rfl⟩ := ra.dk'
    have r2 := kV_R (f := f) (H := H) m t.2
    have hkd : kdL (es.map (·.1)) .st = .fr := by
      unfold kdL
      rw [if_pos]
      rw [List.all_eq_true]
      intro d hd
      rw [← m] at hd
      obtain ⟨p, _, rfl⟩ := List.mem_map.mp hd
      cases p.1 <;> rfl
    exact call_listD hc pins s σ H _ us Q I r ⟨a, kvs, rfl, ea, fun p hp => q _ _ _ (by
      have := Pst.list (as := List.zip [(D.dic false es, kk)] [a :: E]) (kk := .st) hp (by simpa using la) r2 (fun z => nomatch z) (fun c hc => nomatch hc) (fun _ c hc => nomatch hc)
      rw [hkd] at this
      exact this)⟩
  · next w kk =>
    obtain ⟨x, F, rfl, rfl, ra, _⟩ := as.d1
    simp only [Option.some.injEq, Prod.mk.injEq] at hp
    obtain ⟨rfl, rfl⟩ := hp
    obtain ⟨rfl, l1, rfl⟩ := ra.str
    obtain ⟨u, rfl, rx⟩ := vals1r r
    obtain ⟨t, rfl⟩ := rx
    refine call_list_str (I.ok.hd hc) (mkS w) t (fun h' tk acc c' hk hD hacc => ?_) (by simp [mkS]; rw [← LINE_eq]; exact l1)
    have hv : Vals (w.map fun c => V.str (mkS [c])) acc.toList := by
      have key : ∀ (w : W) (us : List Value), us.length = w.length → (∀ (j : Nat) (v : Value), us[j]? = some v → ∃ c tk, w[j]? = some c ∧ v = .str (mkS [c]) tk) → Vals (w.map fun c => V.str (mkS [c])) us := by
        intro w
        induction w with
        | nil => intro us hl _; cases us with | nil => exact .nil | cons _ _ => simp at hl
        | cons c w ih =>
          intro us hl h
          cases us with
          | nil => simp at hl
          | cons u us =>
            obtain ⟨c', tk, e1, e2⟩ := h 0 u rfl
            cases e1
            exact .cons ⟨tk, e2⟩ (ih us (by simpa using hl) fun j v e => by
              obtain ⟨c', tk, a1, a2⟩ := h (j + 1) v (by simpa using e)
              exact ⟨c', tk, by simpa using a1, a2⟩)
      refine key w acc.toList (by rw [Array.length_toList, hacc.1]; simp [mkS]) fun j v e => ?_
      obtain ⟨c, u, e1, e2⟩ := hacc.2 j v (by rw [← Array.getElem?_toList]; exact e)
      exact ⟨c, u, by simpa [mkS] using e1, e2⟩
    have hs1 := strs_R (f := f) (H := H) (w := w) (by unfold LINE; omega)
    have hz : (w.map fun c => V.str (mkS [c])).length ≤ sizeLine := by rw [List.length_map, ← LINE_eq]; exact l1
    have hkd : kdL (w.map fun c => Al.D.str [c]) .st = .fr := by
      unfold kdL
      rw [if_pos]
      rw [List.all_eq_true]
      intro d hd
      obtain ⟨c, _, rfl⟩ := List.mem_map.mp hd
      rfl
    refine ⟨.ref s.heap.objs.size, upd H s.heap.objs.size (.lst (w.map fun c => V.str (mkS [c]))), I.laid (t' := tk) hk (Nat.le_refl _)
      (show ObjOk X.prog X.w _ _ _ (.lst (w.map fun c => V.str (mkS [c]))) from ⟨hz, acc.toList, c', hv, by rw [Array.toArray_toList]; exact hD⟩), rfl, ?_⟩
    have := Pst.list (as := List.zip [(Al.D.str w, kk)] [([] : List Addr)]) (kk := .st) (I.hok.fresh (Nat.le_refl _)) (by rw [List.length_map]; exact l1) hs1 (fun z => nomatch z) (fun c hc => nomatch hc) (fun _ c hc => nomatch hc)
    rw [hkd] at this
    exact q _ _ _ this
  · cases hp
theorem c_tuple (hK : X.K = f.K) : CallR X (.type "tuple") (fun xs => rPr f .tuple xs) := by
  intro pins s σ H xs us Q I r h
  obtain ⟨ds, Fs, d, k, as, hp, q⟩ := h
  simp only [prD] at hp
  unfold p_tuple at hp
  split at hp
  · next es kk =>
    obtain ⟨x, F, rfl, rfl, ra, _⟩ := as.d1
    simp only [Option.some.injEq, Prod.mk.injEq] at hp
    obtain ⟨rfl, rfl⟩ := hp
    obtain ⟨a, vs, E, rfl, ea, la, r1, rfl⟩ := ra.lst'
    exact call_tuple_of pins s σ H _ us Q I r ⟨a, vs, rfl, .inl ⟨SqL.of ea, fun l hl => q _ _ _ (Pst.tuple hl la r1 (jn_st_ne _) (fun c hc => ⟨_, List.mem_cons_self, by simp [hc]⟩) fun h c hc => ⟨_, List.mem_cons_self, jn_st _ h, by simp [hc]⟩)⟩⟩
  · cases hp
theorem figs_str (i : Int) : Str.ofString (toString i) = mkS (strI i) := by
  rw [Str.ofString_eq_toList]
  unfold mkS strI figs
  cases i with
  | ofNat m =>
    have h : ¬ ((Int.ofNat m : Int) < 0) := by show ¬ ((m : Int) < 0); omega
    rw [if_neg h]
    show Str.mk (List.map Char.toNat (String.ofList (Nat.toDigits 10 m)).toList).toArray = _
    rw [String.toList_ofList]
    rfl
  | negSucc m =>
    rw [if_pos (Int.negSucc_lt_zero m)]
    have e : (toString (Int.negSucc m)).toList = '-' :: Nat.toDigits 10 (m + 1) := by
      show ("-" ++ String.ofList (Nat.toDigits 10 (m + 1))).toList = _
      rw [String.toList_append, show (String.ofList (Nat.toDigits 10 (m + 1))).toList = Nat.toDigits 10 (m + 1) from String.toList_ofList]
      rfl
    rw [e]
    rfl
theorem c_str1 : CallR X (.type "str") (fun xs => rPr f .str1 xs) := by
  intro pins s σ H xs us Q I r h
  obtain ⟨ds, Fs, d, k, as, hp, q⟩ := h
  simp only [prD] at hp
  unfold p_str1 at hp
  split at hp
  · next i _ =>
    obtain ⟨x, F, rfl, rfl, ra, _⟩ := as.d1
    split at hp
    · next hi =>
      simp only [Option.some.injEq, Prod.mk.injEq] at hp
      obtain ⟨rfl, rfl⟩ := hp
      obtain ⟨rfl, rfl⟩ := ra.int
      have h1 : i.natAbs < 10 ^ 4300 := by
        have h2 : i.natAbs < 10 ^ 70 := by
          have h3 : ((10 ^ 70 : Nat) : Int) = (10 : Int) ^ 70 := by norm_cast
          omega
        exact Nat.lt_of_lt_of_le h2 (Nat.pow_le_pow_right (by decide) (by decide))
      have hlog : i.natAbs.log2 < 1920 := by
        have h2 : i.natAbs < 2 ^ 250 := by
          have h2 : (10 : Int) ^ 70 < 2 ^ 250 := by decide +kernel
          have h3 : ((2 ^ 250 : Nat) : Int) = (2 : Int) ^ 250 := by norm_cast
          omega
        by_cases h0 : i.natAbs = 0
        · rw [h0]; decide
        · exact Nat.lt_trans ((Nat.log2_lt h0).mpr h2) (by decide)
      have e := figs_str i
      have hfit := int_text_fits10 h1
      rw [e, mkS_len, ← LINE_eq] at hfit
      refine call_str_int pins s σ H _ us Q I r ⟨i, rfl, hlog, ?_⟩
      rw [e]
      exact q _ _ _ (.str hfit)
    · cases hp
  · cases hp
theorem figVal_eq (w : W) : figVal w = NumText.digitsVal w := rfl
theorem c_int1 : CallR X (.type "int") (fun xs => rPr f .int1 xs) := by
  intro pins s σ H xs us Q I r h
  obtain ⟨ds, Fs, d, k, as, hp, q⟩ := h
  simp only [prD] at hp
  unfold p_int1 at hp
  split at hp
  · next b _ =>
    obtain ⟨x, F, rfl, rfl, ra, _⟩ := as.d1
    simp only [Option.some.injEq, Prod.mk.injEq] at hp
    obtain ⟨rfl, rfl⟩ := hp
    obtain ⟨rfl, rfl⟩ := ra.bl
    exact call_int1 pins s σ H _ us Q I r (.inr ⟨b, rfl, q _ _ _ .int⟩)
  · next w _ =>
    obtain ⟨x, F, rfl, rfl, ra, _⟩ := as.d1
    split at hp
    · next hc =>
      simp only [Option.some.injEq, Prod.mk.injEq] at hp
      obtain ⟨rfl, rfl⟩ := hp
      obtain ⟨rfl, l1, rfl⟩ := ra.str
      obtain ⟨h1, h2, h3⟩ := hc
      refine call_int_str pins s σ H _ us Q I r ⟨mkS w, (figVal w : Nat), rfl, ?_, by rw [mkS_len]; omega, q _ _ _ .int⟩
      have := intText_digits (x := mkS w) (by
        rw [mkS_list]
        intro c hc
        have := List.all_eq_true.mp h2 c hc
        simpa using this) (by rw [mkS_list]; exact h1) (by rw [mkS_len]; omega)
      rw [mkS_list] at this
      rw [this, figVal_eq]
    · cases hp
  · cases hp

/-! ### texts -/
theorem asStrs_len {ws : List W} : (ws.map mkS).map (fun x => x.length) = ws.map List.length := by
  rw [List.map_map]
  exact List.map_congr_left fun w _ => mkS_len w
theorem glue_fold (g : Array Nat) : ∀ (ps : List W) (acc : Array Nat), ((ps.map mkS).foldl (fun acc p => acc ++ g ++ p.cps) acc).toList = acc.toList ++ (ps.map fun p => g.toList ++ p).flatten
  | [], acc => by simp
  | p :: ps, acc => by
    simp only [List.map_cons, List.foldl_cons, List.flatten_cons]
    rw [glue_fold g ps]
    simp [mkS, List.append_assoc]
theorem joinW_eq (s : W) : ∀ (p : W) (ps : List W), joinW s (p :: ps) = p ++ (ps.map fun q => s ++ q).flatten
  | p, [] => by simp [joinW]
  | p, q :: ps => by
    rw [joinW, joinW_eq s q ps]
    simp [List.append_assoc]
theorem join_mk (s : W) (ws : List W) : Txt.join (mkS s) (ws.map mkS) = mkS (joinW s ws) := by
  show Builtin.Str.glued _ _ = _
  unfold Builtin.Str.glued
  cases ws with
  | nil => rfl
  | cons p ps =>
    rw [joinW_eq]
    simp only [List.map_cons, List.headD_cons, List.drop_one, List.tail_cons]
    unfold mkS
    congr 1
    apply Array.toList_inj.mp
    have h := glue_fold (mkS s).cps ps (mkS p).cps
    have e : ps.map (fun w : W => (Str.mk w.toArray)) = ps.map mkS := rfl
    rw [e]
    exact h
theorem joinW_len (s : W) : ∀ ws : List W, (joinW s ws).length ≤ (ws.map List.length).sum + s.length * ws.length
  | [] => by simp [joinW]
  | [p] => by simp [joinW]
  | p :: q :: r => by
    have := joinW_len s (q :: r)
    simp only [joinW, List.length_append, List.map_cons, List.sum_cons, List.length_cons] at this ⊢
    have e : s.length * (r.length + 1 + 1) = s.length * (r.length + 1) + s.length := by rw [Nat.mul_succ]
    omega
/-- the reading of join: the glue, then the list -/
theorem r_join (hK : X.K = f.K) {x y : V} {H : Hp} {Q : VK} (h : rPr f .join [x, y] H Q) : ∃ a p, ∃ ys : List Str, x = .str a ∧ [y] = [.ref p] ∧ (SqL X.K H p (ys.map V.str) ∨ SqT X.K H p (ys.map V.str)) ∧ (ys.map (fun z => z.length)).sum + ys.length * a.length ≤ 16777216 ∧ Q (.str (Txt.join a ys)) H := by
  obtain ⟨ds, Fs, d, k, as, hp, q⟩ := h
  obtain ⟨a, ka, F, b, kb, G, rfl, rfl, ra, rb, fa, fb⟩ := as.two
  simp only [prD] at hp
  unfold p_join at hp
  split at hp
  · next w _ es _ e =>
    simp only [List.cons.injEq, Prod.mk.injEq, and_true] at e
    obtain ⟨⟨rfl, rfl⟩, rfl, rfl⟩ := e
    split at hp
    · next ws e =>
      split at hp
      · next hl =>
        simp only [Option.some.injEq, Prod.mk.injEq] at hp
        obtain ⟨rfl, rfl⟩ := hp
        obtain ⟨rfl, l1, rfl⟩ := ra.str
        obtain ⟨p, vs, E, rfl, ea, la, r1, rfl⟩ := rb.lst'
        rw [asStrs_map e] at r1
        obtain ⟨rfl, rfl, hs⟩ := r1.strs
        refine ⟨mkS w, p, ws.map mkS, rfl, rfl, .inl (SqL.of ea), ?_, ?_⟩
        · rw [asStrs_len, List.length_map, mkS_len, Nat.mul_comm]
          exact hl
        · rw [join_mk]
          exact q _ _ _ (.str (Nat.le_trans (joinW_len w ws) hl))
      · cases hp
    · cases hp
  · cases hp
end
end Al
/-! A4h: texts split, dicts asked by get. -/
namespace Al
open PySem L2

theorem splitW_ne (c : Nat) : ∀ w : W, splitW c w ≠ []
  | [] => fun z => nomatch z
  | x :: r => by
    unfold splitW
    split
    · exact fun z => nomatch z
    · split <;> exact fun z => nomatch z
theorem splitW_app (c : Nat) : ∀ (p r : W), c ∉ p → splitW c (p ++ c :: r) = p :: splitW c r
  | [], r, _ => by simp [splitW]
  | x :: p, r, h => by
    have h1 : ¬ x = c := fun z => h (by simp [z])
    have h2 : c ∉ p := fun z => h (by simp [z])
    rw [List.cons_append, splitW, if_neg h1, splitW_app c p r h2]
theorem splitW_free (c : Nat) : ∀ (p : W), c ∉ p → splitW c p = [p]
  | [], _ => rfl
  | x :: p, h => by
    have h1 : ¬ x = c := fun z => h (by simp [z])
    have h2 : c ∉ p := fun z => h (by simp [z])
    rw [splitW, if_neg h1, splitW_free c p h2]
theorem splitW_join (c : Nat) : ∀ (ps : List W), ps ≠ [] → (∀ p ∈ ps, c ∉ p) → splitW c (joinW [c] ps) = ps
  | [], h, _ => absurd rfl h
  | [p], _, h => by rw [joinW, splitW_free c p (h p List.mem_cons_self)]
  | p :: q :: r, _, h => by
    rw [joinW, List.singleton_append, splitW_app c p _ (h p List.mem_cons_self), splitW_join c (q :: r) (fun z => nomatch z) fun x hx => h x (List.mem_cons_of_mem _ hx)]
theorem split_mk (w : W) (c : Nat) : Txt.split (mkS w) (mkS [c]) = (splitW c w).map mkS := by
  have h1 := StrLaws.join_split (mkS w) (mkS [c])
  have h2 := StrLaws.split_free (mkS w) c
  have h2 : ∀ p ∈ Txt.split (mkS w) (mkS [c]), c ∉ p.cps.toList := h2
  generalize hp : Txt.split (mkS w) (mkS [c]) = ps at h1 h2
  have e : ps = (ps.map fun p => p.cps.toList).map mkS := by
    rw [List.map_map]
    conv => lhs; rw [← List.map_id ps]
    exact List.map_congr_left fun p _ => by cases p; simp [mkS]
  have hne : ps ≠ [] := by
    intro z
    rw [z] at hp
    unfold Txt.split at hp
    split at hp
    · cases hp
    · split at hp
      · cases hp
      · unfold Builtin.Str.partsBetween at hp
        simp only [List.map_eq_nil_iff, List.zip_eq_nil_iff] at hp
        rcases hp with hp | hp
        · cases hp
        · simp at hp
  generalize hq : (ps.map fun p => p.cps.toList) = qs at e
  have hj : joinW [c] qs = w := by
    have h3 : Str.join (mkS [c]) (qs.map mkS) = mkS w := by rw [← e]; exact h1
    rw [← StrLaws.glued_eq_join] at h3
    have h4 := join_mk [c] qs
    have h5 : mkS (joinW [c] qs) = mkS w := by rw [← h4]; exact h3
    exact mkS_inj h5
  have hqne : qs ≠ [] := by rw [← hq]; intro z; exact hne (List.map_eq_nil_iff.mp z)
  have hfree : ∀ p ∈ qs, c ∉ p := by
    rw [← hq]
    intro p hp
    obtain ⟨q, h, rfl⟩ := List.mem_map.mp hp
    exact h2 q h
  rw [e]
  congr 1
  rw [← hj, splitW_join c qs hqne hfree]
theorem splitW_len (c : Nat) : ∀ w : W, (splitW c w).length ≤ w.length + 1
  | [] => by simp [splitW]
  | x :: r => by
    have := splitW_len c r
    unfold splitW
    split
    · simp only [List.length_cons]; omega
    · split
      · simp
      · next h => rw [h] at this; simp only [List.length_cons] at this ⊢; omega
theorem splitW_part (c : Nat) : ∀ (w : W), ∀ p ∈ splitW c w, p.length ≤ w.length
  | [], p, h => by simp [splitW] at h; simp [h]
  | x :: r, p, h => by
    have ih := splitW_part c r
    unfold splitW at h
    split at h
    · rcases List.mem_cons.mp h with rfl | h
      · simp
      · have := ih p h; simp; omega
    · split at h
      · simp at h; simp [h]
      · next q q2 e =>
        rcases List.mem_cons.mp h with rfl | h
        · have := ih q (by rw [e]; exact List.mem_cons_self); simp; omega
        · have := ih p (by rw [e]; exact List.mem_cons_of_mem _ h); simp; omega
section
variable {X : Cx} {f : Fx}
theorem R_strs {H : Hp} : ∀ {ws : List W}, (∀ w ∈ ws, w.length ≤ LINE) → f.R H ((ws.map mkS).map V.str) (ws.map Al.D.str) []
  | [], _ => .nil
  | w :: ws, h => .atom (.str (h w List.mem_cons_self)) (R_strs fun x hx => h x (List.mem_cons_of_mem _ hx))
/-- the reading of split -/
theorem r_split {x y : V} {H : Hp} {Q : VK} (h : rPr f .split [x, y] H Q) : ∃ a b, x = .str a ∧ [y] = [.str b] ∧ (b.length == 0) = false ∧ a.length + 2 ≤ sizeLine ∧ rNewStrs (Txt.split a b) H Q := by
  obtain ⟨ds, Fs, d, k, as, hp, q⟩ := h
  obtain ⟨a, ka, F, b, kb, G, rfl, rfl, ra, rb, fa, fb⟩ := as.two
  simp only [prD] at hp
  unfold p_split at hp
  split at hp
  · next w _ c _ e =>
    simp only [List.cons.injEq, Prod.mk.injEq, and_true] at e
    obtain ⟨⟨rfl, rfl⟩, rfl, rfl⟩ := e
    split at hp
    · next hl =>
      simp only [Option.some.injEq, Prod.mk.injEq] at hp
      obtain ⟨rfl, rfl⟩ := hp
      obtain ⟨rfl, l1, rfl⟩ := ra.str
      obtain ⟨rfl, l2, rfl⟩ := rb.str
      refine ⟨_, _, rfl, rfl, by rw [mkS_len]; rfl, by rw [mkS_len, ← LINE_eq]; exact hl, fun p hp => ?_⟩
      rw [split_mk]
      have hz := splitW_len c w
      refine q _ _ [p] ⟨Ext.new hp, ?_, fun a ha => ?_, fun _ => ⟨List.nodup_cons.mpr ⟨(fun z => nomatch z), List.nodup_nil⟩, fun a ha => ?_⟩, fun z => nomatch z⟩
      · exact R.lst (E := []) (F := []) upd_same (by rw [List.length_map, List.length_map]; omega) (R_strs fun p hp => Nat.le_trans (splitW_part c w p hp) l1) .nil
      · rw [List.mem_singleton.mp ha]; exact .inl hp
      · rw [List.mem_singleton.mp ha]; exact ⟨by rw [upd_same]; trivial, .inl hp⟩
    · cases hp
  · cases hp
theorem r_get1 {x y : V} {H : Hp} {Q : VK} (h : rPr f .get1 [x, y] H Q) : ∃ a o, x = .ref a ∧ DGet H a y o ∧ Q (o.getD .non) H := by
  obtain ⟨ds, Fs, d, k, as, hp, q⟩ := h
  obtain ⟨a, ka, F, b, kb, G, rfl, rfl, ra, rb, fa, fb⟩ := as.two
  simp only [prD] at hp
  unfold p_get1 at hp
  split at hp
  · next es _ a' _ e =>
    simp only [List.cons.injEq, Prod.mk.injEq, and_true] at e
    obtain ⟨⟨rfl, rfl⟩, rfl, rfl⟩ := e
    split at hp
    · next hk =>
      simp only [Option.some.injEq, Prod.mk.injEq] at hp
      obtain ⟨rfl, rfl⟩ := hp
      obtain ⟨p, o, rfl, hg, hor⟩ := dk_find ra rb hk
      refine ⟨p, o, rfl, hg, ?_⟩
      rcases hor with ⟨g1, g2⟩ | ⟨d2, w, A, E, B, g1, g2, g3, rfl⟩
      · subst g2
        rw [g1] at q
        refine q _ _ [] ⟨Ext.refl H, .atom .non .nil, (fun _ z => nomatch z), fun _ => ⟨List.nodup_nil, fun _ z => nomatch z⟩, fun _ _ z => nomatch z⟩
      · subst g2
        rw [g1] at q
        exact q _ _ E (Pst.ofPart2 (A := p :: A) (B := B) g3 rfl List.mem_cons_self)
    · cases hp
  · cases hp
theorem r_get2 {x y z : V} {H : Hp} {Q : VK} (h : rPr f .get2 [x, y, z] H Q) : ∃ a o, x = .ref a ∧ DGet H a y o ∧ Q (o.getD z) H := by
  obtain ⟨ds, Fs, d, k, as, hp, q⟩ := h
  obtain ⟨a, ka, F, b, kb, G, c, kc, J, rfl, rfl, ra, rb, r3⟩ := as.three
  simp only [prD] at hp
  unfold p_get2 at hp
  split at hp
  · next es _ a' _ x' _ e =>
    simp only [List.cons.injEq, Prod.mk.injEq, and_true] at e
    obtain ⟨⟨rfl, rfl⟩, ⟨rfl, rfl⟩, rfl, rfl⟩ := e
    split at hp
    · next hk =>
      simp only [Option.some.injEq, Prod.mk.injEq] at hp
      obtain ⟨rfl, rfl⟩ := hp
      obtain ⟨p, o, rfl, hg, hor⟩ := dk_find ra rb hk
      refine ⟨p, o, rfl, hg, ?_⟩
      rcases hor with ⟨g1, g2⟩ | ⟨d2, w, A, E, B, g1, g2, g3, rfl⟩
      · subst g2
        rw [g1] at q
        refine q _ _ J (Pst.part r3 (fun a ha => ⟨((c, kc), J), by simp, ha⟩) (fun h => ?_) (fun h a ha => ?_))
        · exact absurd (kd_fr h).2 (jn_st_ne _)
        · rcases kd_st h with h | h
          · rw [r3.flat h] at ha; cases ha
          · refine ⟨((c, kc), J), by simp, ?_, ha⟩
            have h1 := jn_st _ h
            intro z
            subst z
            cases ka <;> simp [jn] at h1
      · subst g2
        rw [g1] at q
        refine q _ _ E (Pst.part g3 (fun a ha => ⟨_, List.mem_cons_self, by simp [ha]⟩) (fun h => ?_) (fun h a ha => ?_))
        · exact absurd (kd_fr h).2 (jn_st_ne _)
        · rcases kd_st h with h | h
          · rw [g3.flat h] at ha; cases ha
          · refine ⟨_, List.mem_cons_self, ?_, by simp [ha]⟩
            have h1 := jn_st _ h
            intro z
            simp only at z
            subst z
            simp [jn] at h1
    · cases hp
  · cases hp
end
end Al
/-! A4i: dicts are put into. -/
namespace Al
open PySem L2

theorem nodup_inj {α : Type} {l : List α} (nd : l.Nodup) {i j : Nat} {x : α} (h1 : l[i]? = some x) (h2 : l[j]? = some x) : i = j := by
  obtain ⟨l1, e1⟩ := List.getElem?_eq_some_iff.mp h1
  obtain ⟨l2, e2⟩ := List.getElem?_eq_some_iff.mp h2
  have hp := List.pairwise_iff_getElem.mp nd
  rcases Nat.lt_trichotomy i j with h | h | h
  · exact absurd (e1.trans e2.symm) (hp i j l1 l2 h)
  · exact h
  · exact absurd (e2.trans e1.symm) (hp j i l2 l1 h)
section
variable {X : Cx} {f : Fx} {H : Hp}
/-- an item replaced by another thing -/
theorem R.setVal {vs : List V} {ds : List Al.D} {E : List Addr} {i : Nat} {d0 : Al.D} (h : f.R H vs ds E) (e : ds[i]? = some d0) : ∃ A F0 B, E = A ++ (F0 ++ B) ∧ ∀ v d F, f.R H [v] [d] F → f.R H (vs.set i v) (ds.set i d) (A ++ (F ++ B)) := by
  obtain ⟨v0, A, F, B, e1, e2, r1, r2, r3⟩ := h.at e
  refine ⟨A, F, B, e2, fun v d F' r' => ?_⟩
  have hv : i < vs.length := (List.getElem?_eq_some_iff.mp e1).1
  have hd : i < ds.length := (List.getElem?_eq_some_iff.mp e).1
  have key := r2.app (r'.app r3)
  have ev : vs.take i ++ ([v] ++ vs.drop (i + 1)) = vs.set i v := by
    rw [List.set_eq_take_append_cons_drop, if_pos hv]
    rfl
  have ed : ds.take i ++ ([d] ++ ds.drop (i + 1)) = ds.set i d := by
    rw [List.set_eq_take_append_cons_drop, if_pos hd]
    rfl
  rw [ev, ed] at key
  exact key
/-- of a key that is not there, or there at one place -/
theorem es_put {es : List (Al.D × Al.D)} {a : Al.D} : (∀ d, (∀ q ∈ es, keq q.1 a = false) → Al.putK es a d = es ++ [(a, d)]) ∧ ∀ i q d, es[i]? = some q → keq q.1 a = true → (∀ (j : Nat) (p : Al.D × Al.D), es[j]? = some p → keq p.1 a = true → j = i) → Al.putK es a d = es.set i (q.1, d) := by
  refine ⟨fun d h => ?_, fun i q d e hq hu => ?_⟩
  · unfold Al.putK
    rw [if_neg]
    intro z
    rw [List.any_eq_true] at z
    obtain ⟨p, hp, hk⟩ := z
    rw [h p hp] at hk
    cases hk
  · unfold Al.putK
    rw [if_pos]
    · apply List.ext_getElem?
      intro j
      rw [List.getElem?_map, List.getElem?_set]
      by_cases hj : i = j
      · subst hj
        rw [e, if_pos rfl, if_pos (List.getElem?_eq_some_iff.mp e).1]
        simp [hq]
      · rw [if_neg hj]
        cases e2 : es[j]? with
        | none => rfl
        | some p =>
          have : keq p.1 a = false := by
            cases hk : keq p.1 a with
            | false => rfl
            | true => exact absurd (hu j p e2 hk).symm hj
          simp [this]
    · rw [List.any_eq_true]
      exact ⟨q, List.mem_of_getElem? e, hq⟩
theorem map_fst_set {α β : Type} {l : List (α × β)} {i : Nat} {p : α × β} {b : β} (e : l[i]? = some p) : (l.set i (p.1, b)).map (·.1) = l.map (·.1) := by
  rw [List.map_set]
  apply List.ext_getElem?
  intro j
  rw [List.getElem?_set]
  by_cases hj : i = j
  · subst hj
    rw [if_pos rfl, List.getElem?_map, e, if_pos (by simpa using (List.getElem?_eq_some_iff.mp e).1)]
    rfl
  · rw [if_neg hj]
theorem dk_put {kvs : List (Key × V)} {es : List (Al.D × Al.D)} {E : List Addr} (m : kvs.map (fun p => keyD p.1) = es.map (·.1)) (nd : (kvs.map (·.1)).Nodup) (r : f.R H (kvs.map (·.2)) (es.map (·.2)) E) (k0 : Key) :
    ∃ A F0 B, E = A ++ (F0 ++ B) ∧ ∀ v d F, f.R H [v] [d] F → (L2.putK kvs k0 v).map (fun p => keyD p.1) = (Al.putK es (keyD k0) d).map (·.1) ∧ ((L2.putK kvs k0 v).map (·.1)).Nodup ∧ f.R H ((L2.putK kvs k0 v).map (·.2)) ((Al.putK es (keyD k0) d).map (·.2)) (A ++ (F ++ B)) := by
  have hlen : kvs.length = es.length := by have := congrArg List.length m; simpa using this
  have hm : ∀ j : Nat, (kvs[j]?).map (fun p => keyD p.1) = (es[j]?).map (·.1) := fun j => by rw [← List.getElem?_map, ← List.getElem?_map, m]
  have hk : ∀ (j : Nat) p q, kvs[j]? = some p → es[j]? = some q → keq q.1 (keyD k0) = decide (p.1 = k0) := fun j p q e1 e2 => by
    have := hm j
    rw [e1, e2] at this
    simp only [Option.map_some, Option.some.injEq] at this
    rw [← this, keq_keyD]
  have uniq : ∀ (i j : Nat) p q, kvs[i]? = some p → kvs[j]? = some q → p.1 = k0 → q.1 = k0 → j = i := fun i j p q e1 e2 h1 h2 => by
    have a1 : (kvs.map (·.1))[i]? = some k0 := by rw [List.getElem?_map, e1]; simp [h1]
    have a2 : (kvs.map (·.1))[j]? = some k0 := by rw [List.getElem?_map, e2]; simp [h2]
    exact nodup_inj nd a2 a1
  by_cases c : ∃ (i : Nat) (p : Key × V), kvs[i]? = some p ∧ p.1 = k0
  · obtain ⟨i, p, e1, hp⟩ := c
    have hi : i < kvs.length := (List.getElem?_eq_some_iff.mp e1).1
    obtain ⟨q, e2⟩ : ∃ q, es[i]? = some q := ⟨_, List.getElem?_eq_getElem (by omega)⟩
    have hq : keq q.1 (keyD k0) = true := by rw [hk i p q e1 e2]; simp [hp]
    obtain ⟨A, F0, B, rfl, hs⟩ := r.setVal (i := i) (d0 := q.2) (by rw [List.getElem?_map, e2]; rfl)
    refine ⟨A, F0, B, rfl, fun v d F r' => ?_⟩
    have a1 : L2.putK kvs k0 v = kvs.set i (p.1, v) := by
      unfold L2.putK
      rw [if_pos]
      · apply List.ext_getElem?
        intro j
        rw [List.getElem?_map, List.getElem?_set]
        by_cases hj : i = j
        · subst hj
          rw [e1, if_pos rfl, if_pos hi]
          simp [hp]
        · rw [if_neg hj]
          cases e3 : kvs[j]? with
          | none => rfl
          | some p' =>
            have : ¬ p'.1 = k0 := fun z => hj (uniq i j p p' e1 e3 hp z).symm
            simp [this]
      · rw [List.any_eq_true]
        exact ⟨_, List.mem_of_getElem? e1, by simp [hp]⟩
    have a2 : Al.putK es (keyD k0) d = es.set i (q.1, d) := es_put.2 i q d e2 hq fun j p' e3 h3 => by
      have hj : j < kvs.length := by have := (List.getElem?_eq_some_iff.mp e3).1; omega
      rw [hk j _ p' (List.getElem?_eq_getElem hj) e3] at h3
      exact uniq i j p _ e1 (List.getElem?_eq_getElem hj) hp (by simpa using h3)
    rw [a1, a2]
    refine ⟨?_, ?_, ?_⟩
    · rw [map_fst_set e2, ← m]
      have := congrArg (List.map keyD) (map_fst_set (b := v) e1)
      rw [List.map_map, List.map_map] at this
      exact this
    · rw [map_fst_set e1]; exact nd
    · have := hs v d F r'
      rw [← List.map_set (f := (·.2)) (a := (p.1, v)), ← List.map_set (f := (·.2)) (a := (q.1, d))] at this
      exact this
  · refine ⟨E, [], [], by simp, fun v d F r' => ?_⟩
    have a1 : L2.putK kvs k0 v = kvs ++ [(k0, v)] := by
      unfold L2.putK
      rw [if_neg]
      intro z
      rw [List.any_eq_true] at z
      obtain ⟨p, hp, hk⟩ := z
      obtain ⟨j, hj⟩ := List.getElem?_of_mem hp
      exact c ⟨j, p, hj, by simpa using hk⟩
    have a2 : Al.putK es (keyD k0) d = es ++ [(keyD k0, d)] := es_put.1 d fun q hq => by
      obtain ⟨j, hj⟩ := List.getElem?_of_mem hq
      have hj' : j < kvs.length := by have := (List.getElem?_eq_some_iff.mp hj).1; omega
      rw [hk j _ q (List.getElem?_eq_getElem hj') hj]
      exact decide_eq_false fun z => c ⟨j, _, List.getElem?_eq_getElem hj', z⟩
    rw [a1, a2]
    refine ⟨by simp [m], ?_, ?_⟩
    · rw [List.map_append, List.nodup_append]
      refine ⟨nd, by simp, fun x hx y hy e => ?_⟩
      subst e
      simp at hy
      subst hy
      obtain ⟨p, hp, hk⟩ := List.mem_map.mp hx
      obtain ⟨j, hj⟩ := List.getElem?_of_mem hp
      exact c ⟨j, p, hj, hk⟩
    · have := r.app r'
      simpa using this
/-- in its place, or at the end -/
def putDT (L : List (NestedKey × Addr × V)) (k : NestedKey) (b : Addr) (v : V) : List (NestedKey × Addr × V) := if (L.any fun p => decide (p.1 = k)) then L.map (fun p => if p.1 = k then (p.1, p.2.1, v) else p) else L ++ [(k, b, v)]
theorem dt_put {L : List (NestedKey × Addr × V)} {es : List (Al.D × Al.D)} {E : List Addr} (m : L.map (·.1) = es.map (fun p => nkey p.1)) (nd : (L.map (·.1)).Nodup) (t : (es.all fun p => isKT p.1) = true) (r0 : f.R H (L.map (fun p => V.ref p.2.1)) (es.map (·.1)) []) (r : f.R H (L.map (·.2.2)) (es.map (·.2)) E)
    {a : Al.D} (ha : isKT a = true) {b : Addr} (rb : f.R H [.ref b] [a] []) :
    ∃ A F0 B, E = A ++ (F0 ++ B) ∧ ∀ v d F, f.R H [v] [d] F → (putDT L (nkey a) b v).map (·.1) = (Al.putK es a d).map (fun p => nkey p.1) ∧ ((putDT L (nkey a) b v).map (·.1)).Nodup ∧ ((Al.putK es a d).all fun p => isKT p.1) = true ∧
      f.R H ((putDT L (nkey a) b v).map (fun p => V.ref p.2.1)) ((Al.putK es a d).map (·.1)) [] ∧ f.R H ((putDT L (nkey a) b v).map (·.2.2)) ((Al.putK es a d).map (·.2)) (A ++ (F ++ B)) := by
  have hlen : L.length = es.length := by have := congrArg List.length m; simpa using this
  have hm : ∀ j : Nat, (L[j]?).map (·.1) = (es[j]?).map (fun p => nkey p.1) := fun j => by rw [← List.getElem?_map, ← List.getElem?_map, m]
  have hk : ∀ (j : Nat) p q, L[j]? = some p → es[j]? = some q → keq q.1 a = decide (p.1 = nkey a) := fun j p q e1 e2 => by
    have := hm j
    rw [e1, e2] at this
    simp only [Option.map_some, Option.some.injEq] at this
    rw [this, keq_KT (List.all_eq_true.mp t q (List.mem_of_getElem? e2)) ha]
  have uniq : ∀ (i j : Nat) p q, L[i]? = some p → L[j]? = some q → p.1 = nkey a → q.1 = nkey a → j = i := fun i j p q e1 e2 h1 h2 => by
    have a1 : (L.map (·.1))[i]? = some (nkey a) := by rw [List.getElem?_map, e1]; simp [h1]
    have a2 : (L.map (·.1))[j]? = some (nkey a) := by rw [List.getElem?_map, e2]; simp [h2]
    exact nodup_inj nd a2 a1
  by_cases c : ∃ (i : Nat) (p : NestedKey × Addr × V), L[i]? = some p ∧ p.1 = nkey a
  · obtain ⟨i, p, e1, hp⟩ := c
    have hi : i < L.length := (List.getElem?_eq_some_iff.mp e1).1
    obtain ⟨q, e2⟩ : ∃ q, es[i]? = some q := ⟨_, List.getElem?_eq_getElem (by omega)⟩
    have hq : keq q.1 a = true := by rw [hk i p q e1 e2]; simp [hp]
    obtain ⟨A, F0, B, rfl, hs⟩ := r.setVal (i := i) (d0 := q.2) (by rw [List.getElem?_map, e2]; rfl)
    refine ⟨A, F0, B, rfl, fun v d F r' => ?_⟩
    have a1 : putDT L (nkey a) b v = L.set i (p.1, p.2.1, v) := by
      unfold putDT
      rw [if_pos]
      · apply List.ext_getElem?
        intro j
        rw [List.getElem?_map, List.getElem?_set]
        by_cases hj : i = j
        · subst hj
          rw [e1, if_pos rfl, if_pos hi]
          simp [hp]
        · rw [if_neg hj]
          cases e3 : L[j]? with
          | none => rfl
          | some p' =>
            have : ¬ p'.1 = nkey a := fun z => hj (uniq i j p p' e1 e3 hp z).symm
            simp [this]
      · rw [List.any_eq_true]
        exact ⟨_, List.mem_of_getElem? e1, by simp [hp]⟩
    have a2 : Al.putK es a d = es.set i (q.1, d) := es_put.2 i q d e2 hq fun j p' e3 h3 => by
      have hj : j < L.length := by have := (List.getElem?_eq_some_iff.mp e3).1; omega
      rw [hk j _ p' (List.getElem?_eq_getElem hj) e3] at h3
      exact uniq i j p _ e1 (List.getElem?_eq_getElem hj) hp (by simpa using h3)
    have s1 : (L.set i (p.1, p.2.1, v)).map (·.1) = L.map (·.1) := map_fst_set e1
    have s2 : (L.set i (p.1, p.2.1, v)).map (fun p => V.ref p.2.1) = L.map (fun p => V.ref p.2.1) := by
      rw [List.map_set]
      apply List.ext_getElem?
      intro j
      rw [List.getElem?_set]
      by_cases hj : i = j
      · subst hj
        rw [if_pos rfl, List.getElem?_map, e1, if_pos (by simpa using hi)]
        rfl
      · rw [if_neg hj]
    have s3 : (es.set i (q.1, d)).map (·.1) = es.map (·.1) := map_fst_set e2
    rw [a1, a2]
    refine ⟨?_, by rw [s1]; exact nd, ?_, by rw [s2, s3]; exact r0, ?_⟩
    · have := congrArg (List.map nkey) s3
      rw [List.map_map, List.map_map] at this
      exact s1.trans (m.trans this.symm)
    · rw [List.all_eq_true] at t ⊢
      intro x hx
      rcases List.mem_or_eq_of_mem_set hx with hx | rfl
      · exact t x hx
      · exact t q (List.mem_of_getElem? e2)
    · have := hs v d F r'
      rw [← List.map_set (f := (·.2)) (a := (q.1, d))] at this
      have e3 : (L.set i (p.1, p.2.1, v)).map (·.2.2) = (L.map (·.2.2)).set i v := by rw [List.map_set]
      rw [e3]
      exact this
  · refine ⟨E, [], [], by simp, fun v d F r' => ?_⟩
    have a1 : putDT L (nkey a) b v = L ++ [(nkey a, b, v)] := by
      unfold putDT
      rw [if_neg]
      intro z
      rw [List.any_eq_true] at z
      obtain ⟨p, hp, hk⟩ := z
      obtain ⟨j, hj⟩ := List.getElem?_of_mem hp
      exact c ⟨j, p, hj, by simpa using hk⟩
    have a2 : Al.putK es a d = es ++ [(a, d)] := es_put.1 d fun q hq => by
      obtain ⟨j, hj⟩ := List.getElem?_of_mem hq
      have hj' : j < L.length := by have := (List.getElem?_eq_some_iff.mp hj).1; omega
      rw [hk j _ q (List.getElem?_eq_getElem hj') hj]
      exact decide_eq_false fun z => c ⟨j, _, List.getElem?_eq_getElem hj', z⟩
    rw [a1, a2]
    refine ⟨by simp [m], ?_, ?_, ?_, ?_⟩
    · rw [List.map_append, List.nodup_append]
      refine ⟨nd, by simp, fun x hx y hy e => ?_⟩
      subst e
      simp at hy
      subst hy
      obtain ⟨p, hp, hk⟩ := List.mem_map.mp hx
      obtain ⟨j, hj⟩ := List.getElem?_of_mem hp
      exact c ⟨j, p, hj, hk⟩
    · rw [List.all_append, t]
      simp [ha]
    · have := r0.app rb
      simpa using this
    · have := r.app r'
      simpa using this
theorem dtp_put {L : List (NestedKey × Addr × V)} {xs : List (NestedKey × Addr × Value)} (h : DTP L xs) {k : NestedKey} {b : Addr} {v : V} {u : Value} (rv : RelV v u) : DTP (putDT L k b v) (storedH xs k b u) := by
  have hany : (L.any fun p => decide (p.1 = k)) = (atKey xs k).isSome := by
    induction h with
    | nil => rfl
    | @cons p q L' xs' h t ih =>
      rw [List.any_cons, ih]
      unfold atKey
      rw [List.find?_cons, h.1]
      by_cases hk : q.1 = k
      · simp [hk]
      · simp [hk]
  have e1 : DTP (L.map fun p => if p.1 = k then (p.1, p.2.1, v) else p) (xs.map (putAt k u)) := by
    clear hany
    induction h with
    | nil => exact .nil
    | @cons p q L' xs' h t ih =>
      refine .cons ?_ ih
      obtain ⟨h1, h2, h3⟩ := h
      obtain ⟨p1, p2, p3⟩ := p
      obtain ⟨q1, q2, q3⟩ := q
      simp only at h1 h2 h3
      subst h1 h2
      unfold putAt
      by_cases hk : p1 = k
      · simp only [hk, if_true]; exact ⟨trivial, trivial, rv⟩
      · simp only [hk, if_false]; exact ⟨trivial, trivial, h3⟩
  have e2 : DTP (L ++ [(k, b, v)]) (xs ++ [(k, b, u)]) := by
    clear hany e1
    induction h with
    | nil => exact .cons ⟨rfl, rfl, rv⟩ .nil
    | cons h t ih => exact .cons h ih
  unfold putDT storedH
  rw [hany]
  split
  · exact e1
  · exact e2
theorem paired_len {α β : Type} {r : α → β → Prop} {l : List α} {m : List β} (h : Paired r l m) : l.length = m.length := by
  induction h with
  | nil => rfl
  | cons _ _ ih => simp [ih]
theorem paired_entries {P : Program} {w : World} : ∀ {L : List (NestedKey × Addr × V)} {xs : List (NestedKey × Addr × Value)}, DTP L xs → Paired (fun (p : NestedKey × Addr × V) (e : DictEntry) => e.key = .ref p.2.1 ∧ e.hash = p.1.hash w ∧ RelV p.2.2 e.val) L (xs.map (entryOfKey (nestedKind P w)))
  | _, _, .nil => .nil
  | _, _, .cons h t => .cons ⟨by rw [h.2.1]; rfl, by rw [h.1]; rfl, h.2.2⟩ (paired_entries t)
/-- the store itself -/
theorem dt_set (hK : X.K = f.K) (hw : X.w = f.w) {pins : List (Addr × Obj)} {s : Shared} {σ : St} {A : Around} {E : Value → Shared → Prop} (hu : (nestedKind X.prog X.w).room A.in1) (I : L2.Inv X pins σ H s) {p b : Addr} {L : List (NestedKey × Addr × V)} {es : List (Al.D × Al.D)} (e : H p = some (dtO f.w p L)) (m : L.map (·.1) = es.map (fun p => nkey p.1)) (t : (es.all fun p => isKT p.1) = true) (r0 : f.R H (L.map (fun p => V.ref p.2.1)) (es.map (·.1)) []) (nd : (L.map (·.1)).Nodup) (hl : L.length ≤ sizeLine)
    {k : NestedKey} (key : (nestedKind X.prog X.w).is s.heap k b) {v : V} {u : Value} (rv : RelV v u) {Q : Unit → Shared → Prop} (h : ∀ s', L2.Inv X pins σ (upd H p (dtO f.w p (putDT L k b v))) s' → Q () s') :
    wpAny (model X.prog X.w) A (setItem (.ref p) (.ref b) u) Q E s := by
  obtain ⟨hs, xs, hd, pr⟩ := dt_of hK hw I (.inl e) m t r0 nd
  have hx : xs.length ≤ sizeLine := by have := paired_len pr; omega
  refine wpAny_setItem_heap (hsz := hx) hu key hd fun h' dd' hb => h _ ?_
  obtain ⟨o, ents, ep, ho, hex, hdat, hents, his, hnd⟩ := dd'
  refine d_write I (by rw [e]; exact True.intro) hb ⟨o, ho⟩ ⟨⟨hs, o, ents, ep, ho, hex, hdat, ?_⟩, ⟨o, ho⟩, ?_⟩
  · rw [hents, ← hw]
    exact paired_entries (dtp_put (k := k) (b := b) pr rv)
  · rintro h1 h2 ⟨z, o, ents, ep, ho, r⟩ q
    exact ⟨z, o, ents, ep, q o ho, r⟩
/-- {} whose keys will be tuples -/
def tDNewDT (w : World) : TE := fun _ H Q => ∀ p, H p = none → Q (.ref p) (L2.upd H p (dtO w p []))
theorem pe_dnewDT {pos : Pos} : PE X (.Dict [] [] pos) (tDNewDT X.w) := ⟨fun pins s σ H Q I h => by
  have hd := (dk_empty (P := X.prog) (w := X.w) (H := H) s.heap I.big)
  refine wpAny_Dict_empty ⟨.ref s.heap.objs.size, _, I.laid (a := s.heap.objs.size) (o := dtO X.w s.heap.objs.size []) (t' := s.toks) (fun _ _ q => Heap.get?_push_of_some _ q) (Nat.le_refl _) ⟨⟨?_, _, #[], 0, Heap.get?_push_size _ rfl, ⟨rfl, rfl, rfl⟩, rfl, .nil⟩, ⟨_, Heap.get?_push_size _ rfl⟩, ?_⟩, rfl, h _ (I.hok.fresh (Nat.le_refl _))⟩
  · exact hd.2.1
  · rintro h1 h2 ⟨z, o, ents, ep, ho, r⟩ q
    exact ⟨z, o, ents, ep, q o ho, r⟩⟩
end
end Al
/-! A4j: sorted. -/
namespace Al
open PySem L2
open PySem.W (alike alikeAll dataLt keyToks keyToksAll dataLt_bool dataLt_int dataLt_str dataLt_cons dataLt_list dataLt_tuple)
open PyProof.Rows (itemOrd seqObj)

theorem alike_plain : ∀ (n : Nat) (a : Al.D), alikeN n a a = true → plainN n a = true := by
  intro n
  induction n with
  | zero => intro a h; cases a <;> first | rfl | cases h
  | succ n ih =>
    have hl : ∀ xs : List Al.D, alikeL (alikeN n) xs xs = true → (xs.all (plainN n)) = true := by
      intro xs
      induction xs with
      | nil => intro _; rfl
      | cons x xs ihx =>
        intro h
        simp only [alikeL, Bool.and_eq_true] at h
        rw [List.all_cons, ih x h.1, ihx h.2]; rfl
    intro a h
    cases a <;> first | rfl | (cases h; done) | skip
    · exact hl _ h
    · exact hl _ h
theorem alike_py : ∀ (n : Nat) (a b : Al.D), alikeN n a b = true → alike (toPy a) (toPy b) = true := by
  intro n
  induction n with
  | zero => intro a b h; cases a <;> cases b <;> first | rfl | cases h
  | succ n ih =>
    have hl : ∀ xs ys : List Al.D, alikeL (alikeN n) xs ys = true → alikeAll (toPys xs) (toPys ys) = true := by
      intro xs
      induction xs with
      | nil => intro ys _; cases ys <;> rfl
      | cons x xs ihx =>
        intro ys h
        cases ys with
        | nil => cases h
        | cons y ys =>
          simp only [alikeL, Bool.and_eq_true] at h
          simp only [toPys, alikeAll, ih x y h.1, ihx ys h.2, Bool.and_self]
    intro a b h
    cases a <;> cases b <;> first | rfl | (cases h; done) | skip
    · exact hl _ _ h
    · exact hl _ _ h
theorem cmpW_lt : ∀ v w : W, decide (v < w) = decide (cmpW v w = .lt) ∧ decide (v = w) = decide (cmpW v w = .eq)
  | [], [] => by simp [cmpW]
  | [], y :: ys => by simp [cmpW]
  | x :: xs, [] => by simp [cmpW]
  | x :: xs, y :: ys => by
    obtain ⟨h1, h2⟩ := cmpW_lt xs ys
    unfold cmpW
    rcases Nat.lt_trichotomy x y with h | h | h
    · have : ¬ y < x := by omega
      have hn : x ≠ y := by omega
      simp [h, hn, List.cons_lt_cons_iff]
    · subst h
      simp only [Nat.lt_irrefl, if_false, List.cons_lt_cons_iff, List.cons.injEq, true_and, false_or]
      exact ⟨h1, h2⟩
    · have : ¬ x < y := by omega
      have hn : x ≠ y := by omega
      simp [h, this, hn, List.cons_lt_cons_iff]
theorem lt_py : ∀ (n : Nat) (a b : Al.D), alikeN n a b = true → alikeN n b a = true → dataLt (toPy a) (toPy b) = decide (cmpN n a b = .lt) ∧ PyData.eqv (toPy a) (toPy b) = decide (cmpN n a b = .eq) := by
  have atoms : ∀ (n : Nat) (a b : Al.D), (match a, b with | .int _, .int _ => True | .bl _, .bl _ => True | .str _, .str _ => True | _, _ => False) → dataLt (toPy a) (toPy b) = decide (cmpN n a b = .lt) ∧ PyData.eqv (toPy a) (toPy b) = decide (cmpN n a b = .eq) := by
    intro n a b h
    cases a <;> cases b <;> first | exact h.elim | skip
    · rename_i p q
      have : cmpN n (.bl p) (.bl q) = (if b2i p < b2i q then .lt else if b2i q < b2i p then .gt else .eq) := by cases n <;> rfl
      rw [this]
      refine ⟨?_, ?_⟩
      · rw [show toPy (.bl p) = .bool p from rfl, show toPy (.bl q) = .bool q from rfl, dataLt_bool]
        cases p <;> cases q <;> rfl
      · cases p <;> cases q <;> rfl
    · rename_i i j
      have : cmpN n (.int i) (.int j) = (if i < j then .lt else if j < i then .gt else .eq) := by cases n <;> rfl
      rw [this]
      refine ⟨?_, ?_⟩
      · rw [show toPy (.int i) = .int i from rfl, show toPy (.int j) = .int j from rfl, dataLt_int]
        by_cases h1 : i < j <;> by_cases h2 : j < i <;> simp [h1, h2]
      · show (i == j) = _
        by_cases h1 : i < j
        · have : i ≠ j := by omega
          simp [h1, this]
        · by_cases h2 : j < i
          · have : i ≠ j := by omega
            simp [h1, h2, this]
          · have : i = j := by omega
            simp [this]
    · rename_i v w
      have : cmpN n (.str v) (.str w) = cmpW v w := by cases n <;> rfl
      rw [this]
      obtain ⟨h1, h2⟩ := cmpW_lt v w
      refine ⟨?_, ?_⟩
      · rw [show toPy (.str v) = .str (mkS v) from rfl, show toPy (.str w) = .str (mkS w) from rfl, dataLt_str, mkS_list, mkS_list, h1]
      · show (mkS v == mkS w) = _
        rw [← h2]
        by_cases e : v = w
        · subst e; simp
        · have : mkS v ≠ mkS w := fun z => e (mkS_inj z)
          simp [e, this]
  intro n
  induction n with
  | zero => intro a b h _; refine atoms 0 a b ?_; cases a <;> cases b <;> first | trivial | cases h
  | succ n ih =>
    have rows : ∀ xs ys : List Al.D, alikeL (alikeN n) xs ys = true → alikeL (alikeN n) ys xs = true → PyProof.Rows.lexLt itemOrd (keyToksAll (toPys xs)) (keyToksAll (toPys ys)) = decide (cmpL (cmpN n) xs ys = .lt) ∧ PyData.eqvAll (toPys xs) (toPys ys) = decide (cmpL (cmpN n) xs ys = .eq) := by
      intro xs
      induction xs with
      | nil =>
        intro ys _ h
        cases ys with
        | nil => exact ⟨(PyProof.Rows.lex_irrefl _).trans rfl, rfl⟩
        | cons _ _ => cases h
      | cons x xs ihx =>
        intro ys h h'
        cases ys with
        | nil => cases h
        | cons y ys =>
          simp only [alikeL, Bool.and_eq_true] at h h'
          obtain ⟨a1, a2⟩ := ih x y h.1 h'.1
          obtain ⟨b1, b2⟩ := ihx ys h.2 h'.2
          have ha := alike_py n x y h.1
          simp only [toPys]
          rw [dataLt_cons ha]
          show _ ∧ (PyData.eqv (toPy x) (toPy y) && PyData.eqvAll (toPys xs) (toPys ys)) = _
          rw [a1, a2, b1, b2]
          simp only [cmpL]
          have hc : cmpN n x y = .lt ∨ cmpN n x y = .eq ∨ cmpN n x y = .gt := by cases cmpN n x y <;> simp
          rcases hc with hc | hc | hc <;> simp [hc]
    intro a b h h'
    cases a <;> cases b <;> first | (cases h; done) | exact atoms _ _ _ trivial | skip
    · obtain ⟨r1, r2⟩ := rows _ _ h h'
      exact ⟨(dataLt_list _ _).trans r1, r2⟩
    · obtain ⟨r1, r2⟩ := rows _ _ h h'
      exact ⟨(dataLt_tuple _ _).trans r1, r2⟩
theorem le_py {a b : Al.D} (h : alikeD a b = true) (h' : alikeD b a = true) : (!dataLt (toPy b) (toPy a)) = leD a b := by
  rw [(lt_py DEEP b a h' h).1]
  unfold leD
  show _ = (match cmpN DEEP b a with | .lt => false | _ => true)
  have hc : cmpN DEEP b a = .lt ∨ cmpN DEEP b a = .eq ∨ cmpN DEEP b a = .gt := by cases cmpN DEEP b a <;> simp
  rcases hc with hc | hc | hc <;> simp [hc]
theorem sortable_all {xs : List Al.D} (h : sortable xs = true) : (∀ a ∈ xs, ∀ b ∈ xs, alikeD a b = true) ∧ ((xs.all isTup) = true ∨ ∀ a ∈ xs, ∀ ys, a ≠ .tup ys) := by
  simp only [sortable, Bool.and_eq_true, List.all_eq_true, Bool.or_eq_true] at h
  refine ⟨fun a ha b hb => h.1 a ha b hb, h.2.imp (fun z => List.all_eq_true.mpr z) fun z a ha ys e => ?_⟩
  have := z a ha
  rw [e] at this
  cases this
theorem sort_py {xs : List Al.D} (h : sortable xs = true) : xs.mergeSort (PySem.W.dataLe false toPy) = sortD xs := by
  unfold sortD
  refine PySem.W.sort_congr fun a ha b hb => ?_
  have := (sortable_all h).1
  exact le_py (this a ha b hb) (this b hb a ha)
section
variable {X : Cx} {f : Fx} {pins : List (Addr × Obj)} {σ : St} {H : Hp} {s : Shared}
/-- values that are flat data, one by one -/
theorem each_of {xs : List V} {us : List Value} {ds : List Al.D} (r : f.R H xs ds []) (rv : Vals xs us) : PySem.W.EachIs (fun u d => ∃ x, RelV x u ∧ f.R H [x] [d] []) us ds := by
  induction rv generalizing ds with
  | nil => obtain ⟨rfl, _⟩ := r.nil_of; exact .nil
  | cons h t ih =>
    cases ds with
    | nil => have := r.length; simp at this
    | cons d ds =>
      obtain ⟨F1, F2, e, r1, r2⟩ := r.split
      obtain ⟨rfl, rfl⟩ := List.append_eq_nil_iff.mp e.symm
      exact .cons ⟨_, h, r1⟩ (ih r2)
theorem of_each {us : List Value} {ds : List Al.D} (h : PySem.W.EachIs (fun u d => ∃ x, RelV x u ∧ f.R H [x] [d] []) us ds) : ∃ xs, Vals xs us ∧ f.R H xs ds [] := by
  induction h with
  | nil => exact ⟨[], .nil, .nil⟩
  | cons h t ih =>
    obtain ⟨x, r1, r2⟩ := h
    obtain ⟨xs, r3, r4⟩ := ih
    exact ⟨x :: xs, .cons r1 r3, by simpa using r2.cons r4⟩
theorem alike_all {xs : List Al.D} (h : sortable xs = true) : PySem.W.AllAlike (xs.map toPy) ∧ PySem.W.Sortable (xs.map toPy) ∧ ∀ d ∈ xs, plain d = true := by
  obtain ⟨h1, h2⟩ := sortable_all h
  have hp : ∀ d ∈ xs, plain d = true := fun d hd => alike_plain DEEP d (h1 d hd d hd)
  refine ⟨fun d hd d' hd' => ?_, ?_, hp⟩
  · obtain ⟨a, ha, rfl⟩ := List.mem_map.mp hd
    obtain ⟨b, hb, rfl⟩ := List.mem_map.mp hd'
    exact alike_py DEEP a b (h1 a ha b hb)
  · rcases h2 with h2 | h2
    · refine .inl fun d hd => ?_
      obtain ⟨a, ha, rfl⟩ := List.mem_map.mp hd
      have := List.all_eq_true.mp h2 a ha
      unfold isTup at this
      split at this
      · exact ⟨_, _, rfl⟩
      · cases this
    · refine .inr fun d hd => ?_
      obtain ⟨a, ha, rfl⟩ := List.mem_map.mp hd
      have hal := h1 a ha a ha
      refine ⟨fun z => ?_, fun ys z => ?_⟩
      · cases a <;> first | (cases z; done) | cases hal
      · cases a <;> first | (cases z; done) | exact h2 _ ha _ rfl
theorem sorted_list (hK : X.K = f.K) (hu : X.A.units + 64 < cLine) {E : Value → Shared → Prop} {Q : VK} (I : L2.Inv X pins σ H s) {a : Addr} {vs : List V} {xs : List Al.D} (hs : SqL X.K H a vs) (r : f.R H vs xs []) (h : sortable xs = true)
    (q : ∀ p ws, H p = none → f.R H ws (sortD xs) [] → ws.length = xs.length → Q (.ref p) (L2.upd H p (.lst ws))) : wpAny (model X.prog X.w) X.A (call (.builtin "sorted") [.ref a]) (EP X pins σ Q) E s := by
  obtain ⟨its, rv, hl, hz⟩ := I.list hs
  have e := each_of r rv
  obtain ⟨g1, g2, g3⟩ := alike_all h
  have er : PySem.W.EachIs (fun u d => ∃ as, Reads s.heap u (toPy d) as) its xs := by
    have : ∀ {us : List Value} {ds : List Al.D}, PySem.W.EachIs (fun u d => ∃ x, RelV x u ∧ f.R H [x] [d] []) us ds → (∀ d ∈ ds, plain d = true) → PySem.W.EachIs (fun u d => ∃ as, Reads s.heap u (toPy d) as) us ds := by
      intro us ds h
      induction h with
      | nil => exact fun _ => .nil
      | cons h t ih =>
        intro hp
        obtain ⟨x, r1, r2⟩ := h
        exact .cons (R.read hK I r2 r1 (hp _ List.mem_cons_self)) (ih fun d hd => hp d (List.mem_cons_of_mem _ hd))
    exact this e g3
  have hxl : xs.length = its.length := e.length.symm
  refine PySem.W.sorted_data hl.isList e er g1 g2 (by rw [hxl, ← rv.length]; exact hz) (fun d hd => ?_) fun out hlen hout => ?_
  · have := (plain_py DEEP d (g3 d hd)).2
    show X.A.units + 2 + (toPy d).depth < cLine
    have : (toPy d).depth ≤ 8 := this
    omega
  · rw [sort_py h] at hout
    obtain ⟨ws, rw', rr⟩ := of_each hout
    have hwl : ws.length = xs.length := by rw [rw'.length, hlen]
    obtain ⟨ep, he'⟩ := PyProof.Rows.sortedAll_at s.heap its out.toArray
    have hz' : ws.length ≤ sizeLine := by rw [hwl, hxl, ← rv.length]; exact hz
    exact ⟨.ref _, upd H (s.heap.objs.size + 1) (.lst ws), I.laid (t' := s.toks) (fun _ _ => PyProof.Rows.sortedAll_old) (Nat.le_succ _) ⟨hz', out, ep, rw', he'⟩, rfl, q _ _ (I.hok.fresh (Nat.le_succ _)) rr hwl⟩
theorem sorted_of_collect (hK : X.K = f.K) (hu : X.A.units + 64 < cLine) {E : Value → Shared → Prop} {Q : VK} (I : L2.Inv X pins σ H s) {v : Value} {xs : List Al.D} (h : sortable xs = true) (hz : xs.length ≤ sizeLine)
    (hcol : ∀ {R : List Value → Shared → Prop} {E' : Value → Shared → Prop}, (∀ (h' : Heap) (tk : Nat) (acc : List Value), (∀ b o, s.heap.get? b = some o → h'.get? b = some o) → PySem.W.EachIs (fun u d => ∃ x, RelV x u ∧ f.R H [x] [d] []) acc xs → R acc { s with heap := h', toks := tk }) → wpAny (model X.prog X.w) X.A.in1 (collect v) R E' s)
    (q : ∀ p ws, H p = none → f.R H ws (sortD xs) [] → ws.length = xs.length → Q (.ref p) (L2.upd H p (.lst ws))) : wpAny (model X.prog X.w) X.A (call (.builtin "sorted") [v]) (EP X pins σ Q) E s := by
  obtain ⟨g1, g2, g3⟩ := alike_all h
  refine Calls.call_function_entry PyProof.Rows.kind_sorted PyProof.Rows.plain_sorted PyProof.Rows.entry_sorted (PyProof.Rows.args_sorted1 _) ?_
  unfold Builtin.«sorted»
  refine wpAny_bind (m := checkCount "sorted" 1 1 _) (wpAny_pure ?_)
  refine wpAny_bind (hcol fun h' tk acc hk e => ?_)
  have hal : acc.length = xs.length := e.length
  have I1 : Inv X pins σ H { s with heap := h', toks := tk } := I.kept hk
  refine wpAny_bind (wpAny_newList ?_ (by rw [hal]; exact hz))
  have hoL : (h'.push (seqObj "list" acc.toArray 0)).get? h'.objs.size = some (seqObj "list" acc.toArray 0) := Heap.get?_push_size _ rfl
  show wpAny _ _ _ _ _ { s with heap := h'.push (seqObj "list" acc.toArray 0), toks := tk }
  have er : PySem.W.EachIs (fun u d => ∃ as, Reads (PySem.W.sortingHeap (h'.push (seqObj "list" acc.toArray 0)) h'.objs.size acc) u (toPy d) as) acc xs := by
    have key : ∀ {us : List Value} {ds : List Al.D}, PySem.W.EachIs (fun u d => ∃ x, RelV x u ∧ f.R H [x] [d] []) us ds → (∀ d ∈ ds, plain d = true) → PySem.W.EachIs (fun u d => ∃ as, Reads (PySem.W.sortingHeap (h'.push (seqObj "list" acc.toArray 0)) h'.objs.size acc) u (toPy d) as) us ds := by
      intro us ds h
      induction h with
      | nil => exact fun _ => .nil
      | cons h t ih =>
        intro hp
        obtain ⟨x, r1, r2⟩ := h
        obtain ⟨as, rd⟩ := R.read hK I1 r2 r1 (hp _ List.mem_cons_self)
        refine .cons ⟨as, PyProof.Rows.Reads.keeps (fun b o eb => ?_) rd⟩ (ih fun d hd => hp d (List.mem_cons_of_mem _ hd))
        have hb : b < h'.objs.size := Heap.lt_size eb
        exact PySem.W.sortingHeap_old (Nat.ne_of_lt hb) (Heap.get?_push_of_some _ eb)
    exact key e g3
  refine wpAny_bind (wpAny_holding (wpAny_call_entry PyProof.Rows.slot_list_sort ⟨_, hoL, rfl⟩ PyProof.Rows.entry_list_sort
    (PySem.W.list_sort_vals (s := { s with heap := h'.push (seqObj "list" acc.toArray 0), toks := tk }) hoL (PySem.W.SortsAt.data (PySem.W.each_map (R := fun v d => ∃ as, Reads (PySem.W.sortingHeap (h'.push (seqObj "list" acc.toArray 0)) h'.objs.size acc) v d as) toPy er) g1 g2 fun d hd => ?_) (by rw [hal]; exact hz) ⟨_, rfl, ?_⟩)
    (PyProof.Rows.args_list_sort _)))
  · obtain ⟨a, ha, rfl⟩ := List.mem_map.mp hd
    have := (plain_py DEEP a (g3 a ha)).2
    have : (toPy a).depth ≤ 8 := this
    show X.A.units + 1 + 1 + (toPy a).depth < cLine
    omega
  · have hout := PySem.W.sortVals_data false e er g1
    rw [sort_py h] at hout
    obtain ⟨ws, rw', rr⟩ := of_each hout
    have hwl : ws.length = xs.length := by rw [rw'.length, PySem.W.sortVals_length false rfl, hal]
    obtain ⟨e', he'⟩ := PyProof.Rows.sortedHeap_at (vs := acc) (out := (PySem.W.sortVals (PySem.W.dataKind (PySem.W.sortingHeap (h'.push (seqObj "list" acc.toArray 0)) h'.objs.size acc) (xs.map toPy)) false acc acc).toArray) hoL
    refine wpAny_pure ⟨_, rfl, .ref h'.objs.size, upd H h'.objs.size (.lst ws), I1.laid (t' := tk) (fun b u e => ?_) (Nat.le_refl _)
      (show ObjOk X.prog X.w _ _ _ (.lst ws) from ⟨by rw [hwl]; exact hz, _, e', rw', he'⟩), rfl, q _ ws (I1.hok.fresh (Nat.le_refl _)) rr hwl⟩
    have hb : b < h'.objs.size := Heap.lt_size e
    rw [PyProof.Rows.sortedHeap_old (Nat.ne_of_lt hb) (by show b < (Heap.push _ _).objs.size; rw [Heap.size_push]; exact Nat.lt_succ_of_lt hb)]
    exact Heap.get?_push_of_some _ e
theorem kdl_raw {prog : Program} {w : World} {d : Addr} {es : Array DictEntry} {ep : Nat} (lo : (d == sysModules) = false) : PySem.W.KdlSrc prog w "dict" d d es.size (fun i v => ∃ hi : i < es.size, v = es[i].key) (fun h => h.DictRaw d es ep) where
  type := fun _ hm => hm.typeIs
  there := fun _ hm => let ⟨o, ho, _⟩ := hm; ⟨Heap.lt_size ho, Heap.lt_size ho⟩
  keep := fun _ _ hm hk => hm.at fun o e => hk d (.inl rfl) o e
  notList := by decide
  notTuple := by decide
  hint := fun _ _ _ _ hm hq => PySem.W.kdl_hint_dict hm.typeIs hq
  iter := fun A s hh hm => by
    obtain ⟨o, ho, _⟩ := id hm
    have hne : d ≠ s.heap.objs.size := Nat.ne_of_lt (Heap.lt_size ho)
    exact ⟨_, _, (fun _ _ hq => wpAny_pyIter_dict_raw lo hm hq), Walks.rawKeys hh _ d hne es ep, ⟨⟨_, Heap.get?_push_size _ rfl, rfl, rfl⟩, hm.at fun o e => Heap.get?_push_of_some _ e⟩⟩
theorem Pst.listFr {H : Hp} {as : List ((Al.D × Kd) × List Addr)} {p : Addr} {ws : List V} {ds : List Al.D} (hp : H p = none) (hl : ws.length ≤ LINE) (r : f.R H ws ds []) : Pst f H as (.lst ds) .fr (.ref p) (L2.upd H p (.lst ws)) [p] := by
  refine ⟨Ext.new hp, ?_, fun a ha => ?_, fun _ => ⟨by simp, fun a ha => ?_⟩, fun z => nomatch z⟩
  · exact R.lst (E := []) (F := []) upd_same hl (R.ext r (Ext.new hp)) .nil
  · rw [List.mem_singleton.mp ha]; exact .inl hp
  · rw [List.mem_singleton.mp ha]; exact ⟨by rw [upd_same]; trivial, .inl hp⟩
theorem c_sorted (hK : X.K = f.K) (hw : X.w = f.w) (hc : X.calm = true) (hu : X.A.units + 64 < cLine) : CallR X (.builtin "sorted") (fun xs => rPr f .sorted xs) := by
  intro pins s σ H xs us Q I r h
  obtain ⟨ds, Fs, d, k, as, hp, q⟩ := h
  simp only [prD] at hp
  unfold p_sorted at hp
  split at hp
  · next es kk =>
    obtain ⟨x, F, rfl, rfl, ra, _⟩ := as.d1
    split at hp
    · next hc2 =>
      simp only [Bool.and_eq_true] at hc2
      simp only [Option.some.injEq, Prod.mk.injEq] at hp
      obtain ⟨rfl, rfl⟩ := hp
      obtain ⟨a, vs, E, rfl, ea, la, r1, rfl⟩ := ra.lst'
      obtain ⟨u, rfl, rx⟩ := vals1r r
      cases rx
      obtain rfl := R.flats r1 hc2.1
      refine sorted_list hK hu I (by rw [hK]; exact SqL.of ea) r1 hc2.2 fun p ws hp hr hl => q _ _ _ (Pst.listFr hp (by rw [hl, ← r1.length]; exact la) hr)
    · cases hp
  · next tt kvs kk =>
    obtain ⟨x, F, rfl, rfl, ra, _⟩ := as.d1
    split at hp
    · next hc2 =>
      simp only [Bool.and_eq_true, Bool.or_eq_true, Bool.not_eq_true'] at hc2
      simp only [Option.some.injEq, Prod.mk.injEq] at hp
      obtain ⟨rfl, rfl⟩ := hp
      obtain ⟨u, rfl, rx⟩ := vals1r r
      cases tt with
      | false =>
        obtain ⟨a, vs, E, rfl, ea, la, m, t, r1, rfl⟩ := ra.dk'
        cases rx
        have rk : f.R H (vs.map fun p => kV p.1) (kvs.map (·.1)) [] := kV_R m t.2
        have hvl : vs.length = kvs.length := by have := congrArg List.length m; simpa using this
        obtain ⟨z, lo, us2, rel, dd⟩ := dk_rd I.hok ea
        obtain ⟨ep, hat⟩ := dd.dictAt
        have hul : us2.length = kvs.length := by rw [← rel.length]; exact hvl
        have hz : (kvs.map (·.1)).length ≤ sizeLine := by rw [List.length_map, ← hul, ← rel.length]; exact z
        refine sorted_of_collect hK hu I hc2.2 hz (fun {R E'} hR => ?_) fun p ws hp hr hl => q _ _ _ (Pst.listFr hp (by rw [hl, LINE_eq]; exact hz) hr)
        refine PySem.W.kdu_collect (A := X.A.in1) (PySem.W.kdl_dict (knd := mixKind X.prog X.w) (kvs := us2) (ep := ep) lo) (I.ok.hd hc) hat (by rw [hul]; rw [List.length_map] at hz; exact hz) fun h' tk acc hk hacc => hR h' tk acc.toList hk ?_
        have hv := keys_at (us := acc.toList) (vs := us2) (by rw [Array.length_toList]; exact hacc.1) fun j v e => by
          obtain ⟨k, x, e1, e2⟩ := hacc.2 j v (by rw [← Array.getElem?_toList]; exact e)
          exact ⟨k, x, e1, e2⟩
        have ek : us2.map (fun p => kV p.1) = vs.map fun p => kV p.1 := by
          have := rel.keys
          have h2 := congrArg (List.map kV) this
          rw [List.map_map, List.map_map] at h2
          exact h2.symm
        rw [ek] at hv
        exact each_of rk hv
      | true =>
        obtain ⟨p0, L, E, rfl, e, la, m, nd, t, r0, r1, rfl⟩ := ra.dt'
        cases rx
        obtain ⟨lo, xs, hd, pr⟩ := dt_of hK hw I e m t r0 nd
        obtain ⟨ents, ep, hraw, hsz, hents⟩ := hd.raw
        have hlk : L.length = kvs.length := by have := congrArg List.length m; simpa using this
        have hes : ents.size = kvs.length := by rw [hsz, ← paired_len pr]; exact hlk
        have hz : (kvs.map (·.1)).length ≤ sizeLine := by rw [List.length_map, ← hlk, ← LINE_eq]; exact la
        refine sorted_of_collect hK hu I hc2.2 hz (fun {R E'} hR => ?_) fun p ws hp hr hl => q _ _ _ (Pst.listFr hp (by rw [hl, LINE_eq]; exact hz) hr)
        refine PySem.W.kdu_collect (A := X.A.in1) (kdl_raw lo) (I.ok.hd hc) hraw (by rw [hes]; rw [List.length_map] at hz; exact hz) fun h' tk acc hk hacc => hR h' tk acc.toList hk ?_
        have hlen : acc.toList.length = L.length := by rw [Array.length_toList, hacc.1, hes, hlk]
        have hv : Vals (L.map fun p => V.ref p.2.1) acc.toList := by
          have key : ∀ (L : List (NestedKey × Addr × V)) (us : List Value), us.length = L.length → (∀ (j : Nat) (v : Value), us[j]? = some v → ∃ p, L[j]? = some p ∧ v = .ref p.2.1) → Vals (L.map fun p => V.ref p.2.1) us := by
            intro L
            induction L with
            | nil => intro us hl _; cases us with | nil => exact .nil | cons _ _ => simp at hl
            | cons p L ih =>
              intro us hl h
              cases us with
              | nil => simp at hl
              | cons u us =>
                obtain ⟨p', e1, e2⟩ := h 0 u rfl
                cases e1
                exact .cons e2 (ih us (by simpa using hl) fun j v e => by
                  obtain ⟨p', a1, a2⟩ := h (j + 1) v (by simpa using e)
                  exact ⟨p', by simpa using a1, a2⟩)
          refine key L acc.toList hlen fun j v ev => ?_
          obtain ⟨hj, rfl⟩ := hacc.2 j v (by rw [← Array.getElem?_toList]; exact ev)
          obtain ⟨y, y1, y2, _⟩ := hents j hj
          have hjL : j < L.length := by rw [hlk, ← hes]; exact hj
          have pg : ∀ {L : List (NestedKey × Addr × V)} {xs : List (NestedKey × Addr × Value)} {j : Nat} {y : NestedKey × Addr × Value}, DTP L xs → xs[j]? = some y → ∃ p, L[j]? = some p ∧ p.2.1 = y.2.1 := by
            intro L xs j y h
            induction h generalizing j with
            | nil => intro z; simp at z
            | cons h t ih =>
              intro z
              cases j with
              | zero => cases z; exact ⟨_, rfl, h.2.1⟩
              | succ j => exact ih (j := j) (by simpa using z)
          obtain ⟨p, e3, e4⟩ := pg pr y1
          exact ⟨p, e3, by rw [y2, e4]⟩
        exact each_of r0 hv
    · cases hp
  · next w kk =>
    obtain ⟨x, F, rfl, rfl, ra, _⟩ := as.d1
    simp only [Option.some.injEq, Prod.mk.injEq] at hp
    obtain ⟨rfl, rfl⟩ := hp
    obtain ⟨rfl, l1, rfl⟩ := ra.str
    obtain ⟨u, rfl, rx⟩ := vals1r r
    obtain ⟨t, rfl⟩ := rx
    have hz : (w.map fun c => Al.D.str [c]).length ≤ sizeLine := by rw [List.length_map, ← LINE_eq]; exact l1
    have hsrt : sortable (w.map fun c => Al.D.str [c]) = true := by
      simp only [sortable, Bool.and_eq_true, Bool.or_eq_true, List.all_eq_true]
      refine ⟨fun a ha b hb => ?_, .inr fun a ha => ?_⟩
      · obtain ⟨c, _, rfl⟩ := List.mem_map.mp ha
        obtain ⟨c', _, rfl⟩ := List.mem_map.mp hb
        rfl
      · obtain ⟨c, _, rfl⟩ := List.mem_map.mp ha
        rfl
    refine sorted_of_collect hK hu I hsrt hz (fun {R E'} hR => ?_) fun p ws hp hr hl => q _ _ _ (Pst.listFr hp (by rw [hl, LINE_eq]; exact hz) hr)
    refine wpAny_collect_str (A := X.A.in1) (I.ok.hd hc) (mkS w) t (fun s' acc hk g1 g2 g3 hacc => ?_) (by simp [mkS]; rw [← LINE_eq]; exact l1)
    have es' : s' = { s with heap := s'.heap, toks := s'.toks } := by cases s'; cases s; simp_all
    rw [es']
    refine hR s'.heap s'.toks acc.toList hk ?_
    have hv : Vals (w.map fun c => V.str (mkS [c])) acc.toList := by
      have key : ∀ (w : W) (us : List Value), us.length = w.length → (∀ (j : Nat) (v : Value), us[j]? = some v → ∃ c tk, w[j]? = some c ∧ v = .str (mkS [c]) tk) → Vals (w.map fun c => V.str (mkS [c])) us := by
        intro w
        induction w with
        | nil => intro us hl _; cases us with | nil => exact .nil | cons _ _ => simp at hl
        | cons c w ih =>
          intro us hl h
          cases us with
          | nil => simp at hl
          | cons u us =>
            obtain ⟨c', tk, e1, e2⟩ := h 0 u rfl
            cases e1
            exact .cons ⟨tk, e2⟩ (ih us (by simpa using hl) fun j v e => by
              obtain ⟨c', tk, a1, a2⟩ := h (j + 1) v (by simpa using e)
              exact ⟨c', tk, by simpa using a1, a2⟩)
      refine key w acc.toList (by rw [Array.length_toList, hacc.1]; simp [mkS]) fun j v e => ?_
      obtain ⟨c, u, e1, e2⟩ := hacc.2 j v (by rw [← Array.getElem?_toList]; exact e)
      exact ⟨c, u, by simpa [mkS] using e1, e2⟩
    have hs1 := strs_R (f := f) (H := H) (w := w) (by unfold LINE; omega)
    exact each_of hs1 hv
  · cases hp
end
end Al
/-! A4k: sorted by keys that a def of the program makes. -/
namespace Al
open PySem L2
open PyProof.Rows (AllBare seqObj)
open PySem.W (KeepsBut EachIs)
section
variable {X : Cx} {f : Fx} {pins : List (Addr × Obj)} {σ : St} {H : Hp} {s : Shared}
/-- nothing that was there is changed but objects that nobody tracked -/
theorem Un.raw {fs ex bs : List Addr} {H H1 : Hp} {h h1 h2 : Heap} (u : Un fs ex H H1 h h1) (hb : ∀ b ∈ bs, h.get? b = none) (k : ∀ c o, c ∉ bs → h1.get? c = some o → h2.get? c = some o) : Un fs ex H H1 h h2 where
  keep := fun c o e n h1 h2 => k c o (fun z => by rw [hb c z] at e; cases e) (u.keep c o e n h1 h2)
  slot := fun c o e n h1 h2 => by
    obtain ⟨sl, q⟩ := u.slot c o e n h1 h2
    exact ⟨sl, k c _ (fun z => by rw [hb c z] at e; cases e) q⟩
  free := u.free
  there := fun c o e hx => by
    obtain ⟨o', q⟩ := u.there c o e hx
    exact ⟨o', k c _ (fun z => by rw [hb c z] at e; cases e) q⟩
  tups := u.tups
  frzs := u.frzs
  tbls := u.tbls
theorem Un.reg {fs ex : List Addr} {H H1 : Hp} {h h1 : Heap} {a : Addr} {o : HO} (u : Un fs ex H H1 h h1) (ha : h.get? a = none) (n : H a = none) : Un fs ex H (L2.upd H1 a o) h h1 where
  keep := u.keep
  slot := u.slot
  free := fun b ob e nb hx => by rw [upd_ne (fun z => by rw [z, ha] at e; cases e)]; exact u.free b ob e nb hx
  there := u.there
  tups := fun b xs e => by rw [upd_ne (fun z => by rw [z, n] at e; cases e)]; exact u.tups b xs e
  frzs := fun b o v e => by rw [upd_ne (fun z => by rw [z, n] at e; cases e)]; exact u.frzs b o v e
  tbls := fun b ps e => by rw [upd_ne (fun z => by rw [z, n] at e; cases e)]; exact u.tbls b ps e
theorem HOk.raw {P : Program} {w : World} {H : Hp} {h h' : Heap} {bs : List Addr} (x : HOk P w H h) (hn : ∀ b ∈ bs, H b = none) (k : ∀ c o, c ∉ bs → h.get? c = some o → h'.get? c = some o) : HOk P w H h' := fun a o e => by
  have nb : ∀ c u, H c = some u → c ∉ bs := fun c u e z => by rw [hn c z] at e; cases e
  refine (x a o e).stay (fun c v hc q => k c v ?_ q) (fun _ q => q) fun _ _ q => q
  rcases hc with z | z
  · rw [z]; exact nb a o e
  · exact nb c _ z
theorem HOk.reg {P : Program} {w : World} {H : Hp} {h : Heap} {a : Addr} {o : HO} (x : HOk P w H h) (hn : H a = none) (new : ObjOk P w (L2.upd H a o) h a o) : HOk P w (L2.upd H a o) h := fun b u e => by
  by_cases hb : b = a
  · subst hb; rw [upd_same] at e; cases e; exact new
  · rw [upd_ne hb] at e
    exact (x b u e).stay (fun c v _ q => q) (fun c q => by rw [upd_ne (ne_of_none q hn)]; exact q) fun c xs q => by rw [upd_ne (ne_of_none q hn)]; exact q
theorem each_zip {R : Value → Al.D → Prop} {us : List Value} {ds : List Al.D} (h : EachIs R us ds) : ∀ {ks : List Al.D}, ks.length = ds.length → EachIs (fun u (p : Al.D × Al.D) => R u p.2) us (ks.zip ds) := by
  induction h with
  | nil => intro ks hl; cases ks with | nil => exact .nil | cons _ _ => simp at hl
  | cons h t ih =>
    intro ks hl
    cases ks with
    | nil => simp at hl
    | cons k ks => exact .cons h (ih (by simpa using hl))
theorem each_snd {R : Value → Al.D → Prop} {us : List Value} {ps : List (Al.D × Al.D)} (h : EachIs (fun u (p : Al.D × Al.D) => R u p.2) us ps) : EachIs R us (ps.map (·.2)) := by
  induction h with
  | nil => exact .nil
  | cons h t ih => exact .cons h ih
theorem each_get {α β : Type} {R : α → β → Prop} {us : List α} {ds : List β} (h : EachIs R us ds) : ∀ {i : Nat} {u : α}, us[i]? = some u → ∃ d, ds[i]? = some d ∧ R u d := by
  induction h with
  | nil => intro i u e; simp at e
  | cons h t ih =>
    intro i u e
    cases i with
    | zero => cases e; exact ⟨_, rfl, h⟩
    | succ i => exact ih (i := i) (by simpa using e)
theorem each_snoc' {α β : Type} {R : α → β → Prop} {us : List α} {ds : List β} {u : α} {d : β} (h : EachIs R us ds) (q : R u d) : EachIs R (us ++ [u]) (ds ++ [d]) := by
  induction h with
  | nil => exact .cons q .nil
  | cons h t ih => exact .cons h ih
/-- the state between two turns -/
def KLoop (X : Cx) (f : Fx) (H : Hp) (s : Shared) (a kS : Addr) (e1 : Nat) (ks : List Al.D) (s' : Shared) : Prop := ∃ (H' : Hp) (kA : Array Value) (e : Nat), s'.os = s.os ∧ AllBare s'.gens ∧ Un (frs X.stack) [] H H' s.heap s'.heap ∧ HOk X.prog X.w H' s'.heap ∧ Ext H H' ∧
  H' a = none ∧ H' kS = none ∧ s'.heap.get? kS = some (seqObj "list" kA e) ∧ s'.heap.get? a = some (seqObj "list" #[] e1) ∧ EachIs (fun u d => ∃ x, RelV x u ∧ f.R H' [x] [d] []) kA.toList ks
theorem inv_un (I : L2.Inv X pins σ H s) {H' : Hp} {s' : Shared} (os : s'.os = s.os) (bare : AllBare s'.gens) (un : Un (frs X.stack) [] H H' s.heap s'.heap) (hok : HOk X.prog X.w H' s'.heap) : L2.Inv X pins σ H' s' := by
  obtain ⟨hh, g, d, t, os'⟩ := s'
  obtain rfl : os' = s.os := os
  exact I.call (h' := hh) (g' := g) (d' := d) (t' := t) (ch := []) un hok bare fun b z => absurd z (by simp)
theorem frs_there (I : L2.Inv X pins σ H s) : ∀ b ∈ frs X.stack, ∃ o, s.heap.get? b = some o := fun b hb => by
  obtain ⟨_, o, ho, _⟩ := I.stack.mem hb
  exact ⟨o, ho⟩
theorem each_ext {H H' : Hp} (hx : Ext H H') {us : List Value} {ds : List Al.D} (h : EachIs (fun u d => ∃ x, RelV x u ∧ f.R H [x] [d] []) us ds) : EachIs (fun u d => ∃ x, RelV x u ∧ f.R H' [x] [d] []) us ds :=
  h.mono fun u d ⟨x, r1, r2⟩ => ⟨x, r1, r2.ext hx⟩
/-- sorted(v, key=f) -/
theorem sorted_key_of (hK : X.K = f.K) (hu : X.A.units + 64 < cLine) {E : Value → Shared → Prop} {Q : VK} (I : L2.Inv X pins σ H s) {v : Value} {fa : Addr} {xs ks : List Al.D} (hl : ks.length = xs.length) (hsrt : sortable ks = true) (hfl : ks.all flat = true) (hz : xs.length ≤ sizeLine)
    (hcol : ∀ {R : List Value → Shared → Prop} {E' : Value → Shared → Prop}, (∀ (h' : Heap) (tk : Nat) (acc : List Value), (∀ b o, s.heap.get? b = some o → h'.get? b = some o) → EachIs (fun u d => ∃ x, RelV x u ∧ f.R H [x] [d] []) acc xs → R acc { s with heap := h', toks := tk }) → wpAny (model X.prog X.w) X.A.in1 (collect v) R E' s)
    (turn : ∀ (s1 : Shared) (H1 : Hp) (u : Value) (x : V) (i : Nat) (d kd : Al.D) {EE : Value → Shared → Prop}, L2.Inv X pins σ H1 s1 → Ext H H1 → RelV x u → f.R H1 [x] [d] [] → xs[i]? = some d → ks[i]? = some kd →
      wpAny (model X.prog X.w) X.A.in1.in1 (call (.ref fa) [u]) (CE X.stack X.prog X.w H1 s1 fun v H2 => Ext H1 H2 ∧ f.R H2 [v] [kd] []) EE s1)
    (q : ∀ p ws H', Ext H H' → H p = none → H' p = none → f.R H' ws (((ks.zip xs).mergeSort fun p q => leD p.1 q.1).map (·.2)) [] → ws.length = xs.length → Q (.ref p) (L2.upd H' p (.lst ws))) :
    wpAny (model X.prog X.w) X.A (call (.builtin "sorted") [v] [(Str.ofString "key", .ref fa)]) (EP X pins σ Q) E s := by
  obtain ⟨g1, g2, g3⟩ := alike_all hsrt
  refine PyProof.Rows.call_function_entry_kw PyProof.Rows.kind_sorted PyProof.Rows.plain_sorted PyProof.Rows.entry_sorted (PyProof.Rows.ksk_s1 _ _) ?_
  unfold Builtin.«sorted»
  refine wpAny_bind (m := checkCount "sorted" 1 1 _) (wpAny_pure ?_)
  refine wpAny_bind (hcol fun h' tk acc hk e => ?_)
  have hal : acc.length = xs.length := e.length
  have I1 : L2.Inv X pins σ H { s with heap := h', toks := tk } := I.kept hk
  refine wpAny_bind (wpAny_newList ?_ (by rw [hal]; exact hz))
  have hoL : (h'.push (seqObj "list" acc.toArray 0)).get? h'.objs.size = some (seqObj "list" acc.toArray 0) := Heap.get?_push_size _ rfl
  show wpAny _ _ _ _ _ { s with heap := h'.push (seqObj "list" acc.toArray 0), toks := tk }
  have hsz1 : (h'.push (seqObj "list" acc.toArray 0)).objs.size = h'.objs.size + 1 := Heap.size_push _ _
  refine wpAny_bind (wpAny_holding (PyProof.Rows.wpAny_call_entry_kw PyProof.Rows.slot_list_sort ⟨_, hoL, rfl⟩ PyProof.Rows.entry_list_sort ?body (PyProof.Rows.ksk_l1 _ _)))
  case body =>
  rw [PyProof.Rows.ksk_t1]
  unfold PyProof.Rows.ksk_tree
  refine wpAny_bind (PyProof.Rows.listItems_at hoL rfl ?_)
  refine wpAny_bind (PyProof.Rows.listUpdate_at hoL rfl ?_ (by rw [List.size_toArray, hal]; exact hz) (Nat.zero_le _))
  obtain ⟨e1, ho1⟩ : ∃ e1, ((h'.push (seqObj "list" acc.toArray 0)).update h'.objs.size (Obj.mapSeq fun _ => (#[] : Array Value))).get? h'.objs.size = some (seqObj "list" #[] e1) := ⟨_, PyProof.Rows.get?_update_seq hoL fun _ => #[]⟩
  refine wpAny_bind (PyProof.Rows.seqEpoch_at ho1 rfl ?_)
  refine wpAny_bind (wpAny_newTuple ?_ (by show acc.length ≤ _; rw [hal]; exact hz))
  refine wpAny_bind (wpAny_newList ?_ (Nat.zero_le _))
  refine wpAny_holding ?_
  generalize hg4 : ((h'.push (seqObj "list" acc.toArray 0)).update h'.objs.size (Obj.mapSeq fun _ => (#[] : Array Value))) = g at *
  have hgz : g.objs.size = h'.objs.size + 1 := by rw [← hg4, Heap.size_update, hsz1]
  have kS : ((g.push (seqObj "tuple" acc.toArray 0)).push (seqObj "list" #[] 0)).get? (g.push (seqObj "tuple" acc.toArray 0)).objs.size = some (seqObj "list" #[] 0) := Heap.get?_push_size _ rfl
  have kz : (g.push (seqObj "tuple" acc.toArray 0)).objs.size = h'.objs.size + 2 := by rw [Heap.size_push, hgz]
  rw [kz] at kS
  have keep0 : ∀ b o, h'.get? b = some o → ((g.push (seqObj "tuple" acc.toArray 0)).push (seqObj "list" #[] 0)).get? b = some o := fun b o e => by
    refine Heap.get?_push_of_some _ (Heap.get?_push_of_some _ ?_)
    rw [← hg4]
    have hb : b ≠ h'.objs.size := Nat.ne_of_lt (Heap.lt_size e)
    exact (Heap.get?_update_ne _ _ _ _ hb).trans (Heap.get?_push_of_some _ e)
  have la : ((g.push (seqObj "tuple" acc.toArray 0)).push (seqObj "list" #[] 0)).get? h'.objs.size = some (seqObj "list" #[] e1) := Heap.get?_push_of_some _ (Heap.get?_push_of_some _ ho1)
  show wpAny _ _ (PyProof.Rows.ksk_rest h'.objs.size (.ref fa) false acc.toArray e1 (.ref (g.push (seqObj "tuple" acc.toArray 0)).objs.size)) _ _ { s with heap := (g.push (seqObj "tuple" acc.toArray 0)).push (seqObj "list" #[] 0), toks := tk }
  rw [kz]
  generalize (g.push (seqObj "tuple" acc.toArray 0)).push (seqObj "list" #[] 0) = gg at *
  have nk : h'.get? (h'.objs.size + 2) = none := Heap.get?_none_of_le (by omega)
  have na : h'.get? h'.objs.size = none := Heap.get?_none_of_le (Nat.le_refl _)
  have hHa : H h'.objs.size = none := I1.hok.fresh (Nat.le_refl _)
  have hHk : H (h'.objs.size + 2) = none := I1.hok.fresh (by show h'.objs.size ≤ _; omega)
  have fra : h'.objs.size ∉ frs X.stack := fun z => by obtain ⟨o, e⟩ := frs_there I1 _ z; rw [na] at e; cases e
  have frk : h'.objs.size + 2 ∉ frs X.stack := fun z => by obtain ⟨o, e⟩ := frs_there I1 _ z; rw [nk] at e; cases e
  have K0 : KLoop X f H { s with heap := h', toks := tk } h'.objs.size (h'.objs.size + 2) e1 (ks.take 0) { s with heap := gg, toks := tk } :=
    ⟨H, #[], 0, rfl, I1.bare, Un.kept keep0, I1.hok.kept keep0, Ext.refl H, hHa, hHk, kS, la, .nil⟩
  generalize ha : h'.objs.size = a at *
  unfold PyProof.Rows.ksk_rest
  refine wpAny_bind (wpAny_rule ?_)
  first
    | rw [List.forIn_toArray]
    | (rw [← Array.forIn_toList]; simp only [List.toList_toArray])
    | rw [← Array.forIn_toList]
  refine wpAny_bind (PyProof.Rows.ksk_fold (fun i s' => KLoop X f H { s with heap := h', toks := tk } a (a + 2) e1 (ks.take i) s') acc 0 _ K0 ?step ?done)
  case step =>
    rintro j u s' hx ⟨H', kA, n, os, bare, un, hok, ext, ra, rk, nk', na', hks⟩
    simp only [Nat.zero_add] at hks ⊢
    obtain ⟨d, hd, x, r1, r2⟩ := each_get e hx
    have hj : j < ks.length := by have := (List.getElem?_eq_some_iff.mp hd).1; omega
    have hkd : ks[j]? = some ks[j] := List.getElem?_eq_getElem hj
    have I2 := inv_un I1 os bare un hok
    have hkz : kA.size ≤ xs.length := by
      have h1 := hks.length
      rw [Array.length_toList, List.length_take] at h1
      omega
    refine wpAny_bind (wpAny_attempt (wpAny_mono (turn s' H' u x j d ks[j] (EE := fun _ _ => False) I2 ext r1 (r2.ext ext) hd hkd) (fun v s'' he => ?_) fun _ _ hF => hF.elim))
    obtain ⟨y, H2, os2, bare2, un2, hok2, ry, ext2, r3⟩ := he
    try dsimp only
    have nk2 : s''.heap.get? (a + 2) = some (seqObj "list" kA n) := un2.keep _ _ nk' rk frk (by simp)
    have na2 : s''.heap.get? a = some (seqObj "list" #[] e1) := un2.keep _ _ na' ra fra (by simp)
    have rk2 : H2 (a + 2) = none := un2.free _ _ nk' rk (by simp)
    have ra2 : H2 a = none := un2.free _ _ na' ra (by simp)
    obtain ⟨c2, hc2⟩ : ∃ c2, (s''.heap.update (a + 2) (Obj.mapSeq (·.push v))).get? (a + 2) = some (seqObj "list" (kA.push v) c2) := ⟨_, PyProof.Rows.get?_update_seq nk2 (·.push v)⟩
    have kp : ∀ c o, c ∉ [a + 2] → s''.heap.get? c = some o → (s''.heap.update (a + 2) (Obj.mapSeq (·.push v))).get? c = some o := fun c o hc e => (Heap.get?_update_ne _ _ _ _ (by simpa using hc)).trans e
    refine wpAny_bind (PyProof.Rows.listUpdate_at nk2 rfl ?_ (Nat.le_trans hkz hz) (Nat.le_trans (Nat.le_of_eq (Array.size_push ..)) (Nat.succ_le_succ (Nat.le_trans hkz hz))))
    refine wpAny_pure ⟨rfl, H2, kA.push v, c2, os2.trans os, bare2, Al.Un.raw (bs := [a + 2]) (un.trans un2) (fun b hb => by rw [List.mem_singleton.mp hb]; exact nk) kp, Al.HOk.raw (bs := [a + 2]) hok2 (fun b hb => by rw [List.mem_singleton.mp hb]; exact rk2) kp, ext.trans ext2, ra2, rk2, hc2, kp _ _ (by simp) na2, ?_⟩
    rw [Array.toList_push, List.take_add_one, hkd]
    exact each_snoc' (each_ext ext2 hks) ⟨y, ry, r3⟩
  case done =>
    rintro s' ⟨H', kA, n, os, bare, un, hok, ext, ra, rk, nk', na', hks⟩
    have hks' : EachIs (fun u d => ∃ x, RelV x u ∧ f.R H' [x] [d] []) kA.toList ks := by
      rw [show ks.take (0 + acc.length) = ks from List.take_of_length_le (by omega)] at hks
      exact hks
    have hkz : kA.size = acc.length := by
      have h1 := hks'.length
      rw [Array.length_toList] at h1
      omega
    have I2 := inv_un I1 os bare un hok
    have hrd : EachIs (fun v d => ∃ as, Reads s'.heap v (toPy d) as) kA.toList ks := by
      have key : ∀ {us : List Value} {ds : List Al.D}, EachIs (fun u d => ∃ x, RelV x u ∧ f.R H' [x] [d] []) us ds → (∀ d ∈ ds, plain d = true) → EachIs (fun v d => ∃ as, Reads s'.heap v (toPy d) as) us ds := by
        intro us ds h
        induction h with
        | nil => exact fun _ => .nil
        | cons h t ih =>
          intro hp
          obtain ⟨x, r1, r2⟩ := h
          exact .cons (R.read hK I2 r2 r1 (hp _ List.mem_cons_self)) (ih fun d hd => hp d (List.mem_cons_of_mem _ hd))
      exact key hks' g3
    try dsimp only
    refine wpAny_bind (PyProof.Rows.listItems_at nk' rfl ?_)
    -- the heap without the keys' store
    have hfree : (s'.heap.update (a + 2) (fun o => { o with data := .freed })).get? (a + 2) = none := by
      cases hh : s'.heap
      simp only [Heap.update, Heap.get?, Array.getElem?_modify, if_true]
      rename_i objs l
      cases hq : objs[a + 2]? <;> rfl
    have hother : ∀ b o, (s'.heap.update (a + 2) (fun o => { o with data := .freed })).get? b = some o → s'.heap.get? b = some o := by
      intro b o e
      by_cases hb : b = a + 2
      · rw [hb, hfree] at e; cases e
      · rw [Heap.get?_update_ne _ _ _ _ hb] at e; exact e
    have hback : ∀ b o, b ≠ a + 2 → s'.heap.get? b = some o → (s'.heap.update (a + 2) (fun o => { o with data := .freed })).get? b = some o := fun b o hb e => (Heap.get?_update_ne _ _ _ _ hb).trans e
    refine PySem.W.keyH_end (κ := PySem.W.dataKind s'.heap (ks.map toPy)) (h₁ := s'.heap.update (a + 2) (fun o => { o with data := .freed })) (fun b o _ e => hother b o e) hfree nk' na' (show a + 2 ≠ a from Nat.ne_of_gt (Nat.lt_add_of_pos_right (by decide)))
      (PySem.W.SortsAt.data (PySem.W.each_map (R := fun v d => ∃ as, Reads s'.heap v d as) toPy hrd) g1 g2 fun d hd => ?_) hkz (by rw [hal]; exact hz) fun h3 tk3 c k3 n3 => ?_
    · obtain ⟨b, hb, rfl⟩ := List.mem_map.mp hd
      have : (toPy b).depth ≤ 8 := (plain_py DEEP b (g3 b hb)).2
      show X.A.units + 1 + 1 + (toPy b).depth < cLine
      omega
    · have hout : EachIs (fun u (p : Al.D × Al.D) => ∃ x, RelV x u ∧ f.R H' [x] [p.2] []) (PySem.W.sortVals (PySem.W.dataKind s'.heap (ks.map toPy)) false kA.toList acc) ((ks.zip xs).mergeSort (PySem.W.dataLe false fun p => toPy p.1)) := by
        have em : (ks.zip xs).map (fun p : Al.D × Al.D => toPy p.1) = ks.map toPy := by
          rw [show (fun p : Al.D × Al.D => toPy p.1) = toPy ∘ Prod.fst from rfl, ← List.map_map, List.map_fst_zip (by omega)]
        refine PySem.W.keyedOut_each (fun p : Al.D × Al.D => toPy p.1) ⟨s'.heap, kA.toList, ?_, ?_, ?_⟩ (each_zip (each_ext ext e) hl)
        · rw [em]; exact g1
        · rw [em]
        · rw [em]; exact PySem.W.each_map (R := fun v d => ∃ as, Reads s'.heap v d as) toPy hrd
      have hcongr : (ks.zip xs).mergeSort (PySem.W.dataLe false fun p => toPy p.1) = (ks.zip xs).mergeSort fun p q => leD p.1 q.1 := by
        refine PySem.W.sort_congr fun p hp q hq => ?_
        have h1 := (sortable_all hsrt).1
        have m1 := (List.of_mem_zip hp).1
        have m2 := (List.of_mem_zip hq).1
        exact le_py (h1 _ m1 _ m2) (h1 _ m2 _ m1)
      rw [hcongr] at hout
      obtain ⟨ws, rw', rr⟩ := of_each (each_snd hout)
      have hwl : ws.length = xs.length := by rw [rw'.length, PySem.W.sortVals_length false (by rw [Array.length_toList]; exact hkz), hal]
      have kp3 : ∀ c o, c ∉ [a, a + 2] → s'.heap.get? c = some o → h3.get? c = some o := fun c o hc e => by
        simp only [List.mem_cons, List.not_mem_nil, or_false, not_or] at hc
        exact k3 c o hc.1 (hback c o hc.2 e)
      have nb : ∀ b ∈ [a, a + 2], h'.get? b = none := fun b hb => by
        simp only [List.mem_cons, List.not_mem_nil, or_false] at hb
        rcases hb with rfl | rfl
        · exact na
        · exact nk
      have nH : ∀ b ∈ [a, a + 2], H' b = none := fun b hb => by
        simp only [List.mem_cons, List.not_mem_nil, or_false] at hb
        rcases hb with rfl | rfl
        · exact ra
        · exact rk
      have I3 : L2.Inv X pins σ (L2.upd H' a (.lst ws)) { s' with heap := h3, toks := tk3 } :=
        inv_un I1 (s' := { s' with heap := h3, toks := tk3 }) os bare (Al.Un.reg (Al.Un.raw (bs := [a, a + 2]) un nb kp3) na hHa)
          (Al.HOk.reg (Al.HOk.raw (bs := [a, a + 2]) hok nH kp3) ra (show ObjOk X.prog X.w _ _ _ (.lst ws) from ⟨by rw [hwl]; exact hz, _, c, rw', n3⟩))
      exact ⟨_, rfl, wpAny_pure ⟨_, rfl, .ref a, L2.upd H' a (.lst ws), I3, rfl, q a ws H' ext hHa ra rr hwl⟩⟩
end
end Al
/-! A5: the readings of the language's parts; how they follow one another. -/
namespace Al
open PySem L2

/-- an expression's reading -/
def tE (f : Fx) (Z : Far) (m : E) : TE := fun σ H Q => ∃ ρ O S d k ρ1, Rel f σ H ρ O S ∧ denE Z m ρ = some (.ok d k ρ1) ∧
  ∀ v H1 O1 S1 F, Rel f σ H1 ρ1 O1 S1 → Stp H O S H1 O1 S1 → Tm f (New H O) H1 O1 S1 v d k F → (m.eff = false → Ext H H1 ∧ O1 = O ∧ ρ1 = ρ) → Q v H1
/-- a test's -/
def tT (f : Fx) (Z : Far) (m : E) : TT := fun σ H Q => tE f Z m σ H fun x H1 => ∃ c, x = .bl c ∧ Q c H1

def Es.noRef : Es → Bool
  | .nil => true
  | .cons _ r => r.noRef
  | .ref _ _ => false

/-- arguments in hand: what is handed over by itself stands at its slot -/
inductive TmA (f : Fx) (σ : St) (N : Addr → Prop) (H : Hp) (O : Nat → List Addr) (S : Addr → Prop) : Es → List V → List (D × Kd) → List (List Addr) → Prop
  | nil : TmA f σ N H O S .nil [] [] []
  | cons {e : E} {r : Es} {v : V} {d : D} {k : Kd} {F : List Addr} {vs : List V} {ds : List (D × Kd)} {Fs : List (List Addr)} : Tm f N H O S v d k F → TmA f σ N H O S r vs ds Fs →
      (k = .fr → ∀ p ∈ (ds.zip Fs), p.1.2 = .fr → ∀ a ∈ F, a ∉ p.2) → TmA f σ N H O S (.cons e r) (v :: vs) ((d, k) :: ds) (F :: Fs)
  | ref {i : Nat} {r : Es} {v : V} {vs : List V} {ds : List (D × Kd)} {Fs : List (List Addr)} : σ[i]? = some (some v) → TmA f σ N H O S r vs ds Fs →
      TmA f σ N H O S (.ref i r) (v :: vs) ((.non, .st) :: ds) ([] :: Fs)
def tEs (f : Fx) (Z : Far) (m : Es) : TA := fun σ H Q => ∃ ρ O S ds ρ1, Rel f σ H ρ O S ∧ denEs Z m ρ = some (.ok ds ρ1) ∧
  ∀ vs H1 O1 S1 Fs, Rel f σ H1 ρ1 O1 S1 → Stp H O S H1 O1 S1 → TmA f σ (New H O) H1 O1 S1 m vs ds Fs → (m.eff = false → Ext H H1 ∧ O1 = O ∧ ρ1 = ρ) → Q vs H1

section
variable {f : Fx} {Z : Far} {σ : St} {H H1 : Hp} {ρ : Env} {O O1 : Nat → List Addr} {S S1 : Addr → Prop} {N N' : Addr → Prop}
theorem TmA.tms {m : Es} {vs : List V} {ds : List (D × Kd)} {Fs : List (List Addr)} (h : TmA f σ N H O S m vs ds Fs) : m.noRef = true → Tms f N H O S vs ds Fs := by
  induction h with
  | nil => exact fun _ => .nil
  | cons t _ q ih => exact fun e => .cons t (ih e) q
  | ref => intro e; cases e
theorem TmA.weaken {m : Es} {vs : List V} {ds : List (D × Kd)} {Fs : List (List Addr)} (h : TmA f σ N H O S m vs ds Fs) (hN : ∀ a, N a → N' a) : TmA f σ N' H O S m vs ds Fs := by
  induction h with
  | nil => exact .nil
  | cons t _ q ih => exact .cons (t.weaken hN) ih q
  | ref e _ ih => exact .ref e ih
theorem TmA.news {m : Es} {vs : List V} {ds : List (D × Kd)} {Fs : List (List Addr)} (h : TmA f σ N H O S m vs ds Fs) : ∀ p ∈ ds.zip Fs, p.1.2 = .fr → ∀ a ∈ p.2, N a := by
  induction h with
  | nil => exact fun p h => nomatch h
  | cons t _ q ih =>
    intro p hp hk a ha
    rcases List.mem_cons.mp (by simpa using hp) with rfl | hp
    · exact ((t.fr hk).2 a ha).2.2.2.1
    · exact ih p hp hk a ha
  | ref e _ ih =>
    intro p hp hk a ha
    rcases List.mem_cons.mp (by simpa using hp) with rfl | hp
    · cases hk
    · exact ih p hp hk a ha
theorem tE_mono {m : E} {Q Q' : VK} (h : ∀ v H1, Q v H1 → Q' v H1) : tE f Z m σ H Q → tE f Z m σ H Q' := by
  rintro ⟨ρ, O, S, d, k, ρ1, r, e, q⟩
  exact ⟨ρ, O, S, d, k, ρ1, r, e, fun v H1 O1 S1 F a b c w => h _ _ (q v H1 O1 S1 F a b c w)⟩
/-- arguments in hand, of which something is known -/
def tEsP (f : Fx) (Z : Far) (m : Es) (P : List (D × Kd) → Prop) : TA := fun σ H Q => ∃ ρ O S ds ρ1, Rel f σ H ρ O S ∧ denEs Z m ρ = some (.ok ds ρ1) ∧ P ds ∧
  ∀ vs H1 O1 S1 Fs, Rel f σ H1 ρ1 O1 S1 → Stp H O S H1 O1 S1 → TmA f σ (New H O) H1 O1 S1 m vs ds Fs → (m.eff = false → Ext H H1 ∧ O1 = O ∧ ρ1 = ρ) → Q vs H1
theorem tEsP_has {m : Es} {P : List (D × Kd) → Prop} {Q : List V → Hp → Prop} (h : tEsP f Z m P σ H Q) : ∃ ds, P ds := by
  obtain ⟨_, _, _, ds, _, _, _, p, _⟩ := h
  exact ⟨ds, p⟩
theorem denEs_cons {a : E} {r : Es} (hv : a.isVar = false ∨ r.eff = false) {ρ ρ2 : Env} {ds : List (D × Kd)} (e : denEs Z (.cons a r) ρ = some (.ok ds ρ2)) : ∃ d k ρ1 ds', denE Z a ρ = some (.ok d k ρ1) ∧ denEs Z r ρ1 = some (.ok ds' ρ2) ∧ ds = (d, k) :: ds' ∧ (k = .bo → r.eff = false) := by
  have gen : ∀ a : E, a.isVar = false → denEs Z (.cons a r) ρ = (match denE Z a ρ with
    | some (.ok d k ρ1) => if k == .bo && r.eff then none else (match denEs Z r ρ1 with
      | some (.ok ds ρ2) => some (.ok ((d, k) :: ds) ρ2)
      | some (.ex c p ρ2) => some (.ex c p ρ2)
      | none => none)
    | some (.ex c p ρ1) => some (.ex c p ρ1)
    | none => none) := by
    intro a ha
    cases a with
    | var i => cases ha
    | _ => simp only [denEs] <;> rfl
  by_cases ha : a.isVar = true
  · cases a <;> first | cases ha | skip
    rename_i i
    have he : r.eff = false := by
      rcases hv with hv | hv
      · cases hv
      · exact hv
    simp only [denEs, he, Bool.false_eq_true, if_false] at e
    cases hl : look ρ i with
    | none => rw [hl] at e; cases e
    | some p =>
      rw [hl] at e
      simp only at e
      split at e
      · next ds' ρ' e2 =>
        simp only [Option.some.injEq, OutL.ok.injEq] at e
        obtain ⟨rfl, rfl⟩ := e
        exact ⟨p.1, kd p.1 p.2.read, ρ, ds', by simp [denE, hl], e2, rfl, fun _ => he⟩
      · cases e
      · cases e
  · rw [gen a (by simpa using ha)] at e
    split at e
    · next d k ρ1 e1 =>
      split at e
      · cases e
      · next hc =>
        split at e
        · next ds' ρ' e2 =>
          simp only [Option.some.injEq, OutL.ok.injEq] at e
          obtain ⟨rfl, rfl⟩ := e
          refine ⟨d, k, ρ1, ds', e1, e2, rfl, fun z => ?_⟩
          subst z
          simpa using hc
        · cases e
        · cases e
    · cases e
    · cases e
/-- a first expression, the others behind it -/
theorem tEsP_cons {a : E} {r : Es} (hv : a.isVar = false ∨ r.eff = false) {P : List (D × Kd) → Prop} {Q : List V → Hp → Prop} (h : tEsP f Z (.cons a r) P σ H Q) :
    tE f Z a σ H fun x H1 => ∃ d k F, f.R H1 [x] [d] F ∧ tEsP f Z r (fun ds => P ((d, k) :: ds)) σ H1 fun xs H2 => Q (x :: xs) H2 := by
  obtain ⟨ρ, O, S, ds, ρ2, rel, e, hP, q⟩ := h
  obtain ⟨d, k, ρ1, ds', e1, e2, rfl, hk⟩ := denEs_cons hv e
  refine ⟨ρ, O, S, d, k, ρ1, rel, e1, fun v H1 O1 S1 F rel1 s1 t1 w1 => ⟨d, k, F, t1.r, ρ1, O1, S1, ds', ρ2, rel1, e2, hP, fun vs H2 O2 S2 Fs rel2 s2 ts w2 => ?_⟩⟩
  refine q (v :: vs) H2 O2 S2 (F :: Fs) rel2 (s1.trans s2) (.cons (t1.carry rel1 s2 ?_ fun _ z => z) (ts.weaken fun a z => s1.back z) fun hk p hp hf a ha hb => ?_) fun he => ?_
  · by_cases hb : k = .bo
    · exact .inr (w2 (hk hb)).1
    · exact .inl hb
  · obtain ⟨_, _, _, _, no⟩ := (t1.fr hk).2 a ha
    rcases ts.news p hp hf a hb with ⟨j, z⟩ | z
    · exact no j z
    · obtain ⟨o, eo⟩ := t1.r.there a ha
      rw [z] at eo; cases eo
  · simp only [Es.eff, Bool.or_eq_false_iff] at he
    obtain ⟨x1, rfl, rfl⟩ := w1 he.1
    obtain ⟨x2, rfl, rfl⟩ := w2 he.2
    exact ⟨x1.trans x2, rfl, rfl⟩
theorem tEs_cons {a : E} {r : Es} (hv : a.isVar = false ∨ r.eff = false) {Q : List V → Hp → Prop} (h : tEs f Z (.cons a r) σ H Q) :
    tE f Z a σ H fun x H1 => tEs f Z r σ H1 fun xs H2 => Q (x :: xs) H2 := by
  obtain ⟨ρ, O, S, ds, ρ2, rel, e, q⟩ := h
  refine tE_mono (fun v H1 z => ?_) (tEsP_cons hv (P := fun _ => True) ⟨ρ, O, S, ds, ρ2, rel, e, trivial, q⟩)
  obtain ⟨d, k, F, _, ρ, O, S, ds, ρ2, rel, e, _, q⟩ := z
  exact ⟨ρ, O, S, ds, ρ2, rel, e, q⟩
theorem tEsP_nil {P : List (D × Kd) → Prop} {Q : List V → Hp → Prop} (h : tEsP f Z .nil P σ H Q) : Q [] H := by
  obtain ⟨ρ, O, S, ds, ρ2, rel, e, _, q⟩ := h
  simp only [denEs, Option.some.injEq, OutL.ok.injEq] at e
  obtain ⟨rfl, rfl⟩ := e
  exact q [] H O S [] rel Stp.refl .nil fun _ => ⟨Ext.refl H, rfl, rfl⟩
theorem tEsP_nilP {P : List (D × Kd) → Prop} {Q : List V → Hp → Prop} (h : tEsP f Z .nil P σ H Q) : P [] := by
  obtain ⟨ρ, O, S, ds, ρ2, rel, e, p, q⟩ := h
  simp only [denEs, Option.some.injEq, OutL.ok.injEq] at e
  obtain ⟨rfl, rfl⟩ := e
  exact p
theorem look_some {ρ : Env} {i : Nat} {p : D × Kd} (h : look ρ i = some p) : ρ[i]? = some (some p) := by
  unfold look at h
  split at h
  · next q e => cases h; exact e
  · cases h
/-- reading a slot -/
theorem Tm.slot (h : Rel f σ H ρ O S) {i : Nat} {p : D × Kd} (e : look ρ i = some p) : ∃ v F, σ[i]? = some (some v) ∧ Tm f N H O S v p.1 (kd p.1 p.2.read) F := by
  obtain ⟨d, k⟩ := p
  obtain ⟨v, F, e1, r, al, c1, c2⟩ := h.slot i d k (look_some e)
  refine ⟨v, F, e1, r, al, fun q => ?_, fun q a ha => ?_⟩
  · unfold kd at q
    split at q
    · cases q
    · cases k <;> simp [Kd.read] at q
  · unfold kd at q
    split at q
    · next hf => rw [r.flat hf] at ha; cases ha
    · cases k <;> simp [Kd.read] at q
      exact c2 rfl a ha
/-- a name, read behind a change by what comes behind it -/
theorem tEs_var {i : Nat} {r : Es} (hr : r.eff = true) {Q : List V → Hp → Prop} (h : tEs f Z (.cons (.var i) r) σ H Q) :
    tVar i σ H fun x H1 => tEs f Z r σ H1 fun xs H2 => Q (x :: xs) H2 := by
  obtain ⟨ρ, O, S, ds, ρ2, rel, e, q⟩ := h
  simp only [denEs, hr, if_true] at e
  cases hl : look ρ i with
  | none => rw [hl] at e; simp at e
  | some p0 =>
    rw [hl] at e
    obtain ⟨d0, k0⟩ := p0
    obtain ⟨v, F0, e1, _⟩ := rel.slot i d0 k0 (look_some hl)
    refine ⟨v, e1, ?_⟩
    cases h2 : denEs Z r ρ with
    | none => rw [h2] at e; cases e
    | some out =>
      rw [h2] at e
      cases out with
      | ex c p ρ' => cases e
      | ok ds' ρ' =>
        simp only [Option.map_eq_some_iff] at e
        obtain ⟨p, hp, e⟩ := e
        simp only [OutL.ok.injEq] at e
        obtain ⟨rfl, rfl⟩ := e
        refine ⟨ρ, O, S, ds', ρ', rel, h2, fun vs H2 O2 S2 Fs rel2 s2 ts w2 => ?_⟩
        obtain ⟨v', F, e3, t⟩ := Tm.slot (N := New H O) rel2 hp
        rw [e1] at e3
        cases e3
        refine q (v :: vs) H2 O2 S2 (F :: Fs) rel2 s2 (.cons t ts fun hk => ?_) fun he => by simp [Es.eff, hr] at he
        unfold kd at hk
        split at hk
        · cases hk
        · cases hq : p.2 <;> rw [hq] at hk <;> simp [Kd.read] at hk
theorem tEs_ref {i : Nat} {r : Es} {Q : List V → Hp → Prop} (h : tEs f Z (.ref i r) σ H Q) :
    tVar i σ H fun x H1 => tEs f Z r σ H1 fun xs H2 => Q (x :: xs) H2 := by
  obtain ⟨ρ, O, S, ds, ρ2, rel, e, q⟩ := h
  simp only [denEs] at e
  split at e
  · next d0 hl =>
    obtain ⟨v, F0, e1, _⟩ := rel.slot i d0 .fr (look_some hl)
    refine ⟨v, e1, ?_⟩
    split at e
    · next ds' ρ' h2 =>
      simp only [Option.some.injEq, OutL.ok.injEq] at e
      obtain ⟨rfl, rfl⟩ := e
      exact ⟨ρ, O, S, ds', ρ', rel, h2, fun vs H2 O2 S2 Fs rel2 s2 ts w2 => q (v :: vs) H2 O2 S2 ([] :: Fs) rel2 s2 (.ref e1 ts) w2⟩
    · cases e
    · cases e
  · cases e
theorem tEs_nil {Q : List V → Hp → Prop} (h : tEs f Z .nil σ H Q) : Q [] H := by
  obtain ⟨ρ, O, S, ds, ρ2, rel, e, q⟩ := h
  simp only [denEs, Option.some.injEq, OutL.ok.injEq] at e
  obtain ⟨rfl, rfl⟩ := e
  exact q [] H O S [] rel Stp.refl .nil fun _ => ⟨Ext.refl H, rfl, rfl⟩
end

theorem PE.mono {X : Cx} {e : Expr} {t t' : TE} (h : PE X e t) (q : ∀ σ H Q, t' σ H Q → t σ H Q) : PE X e t' := ⟨fun pins s σ H Q I w => h.run pins s σ H Q I (q σ H Q w)⟩
theorem PT.mono {X : Cx} {e : Expr} {t t' : TT} (h : PT X e t) (q : ∀ σ H Q, t' σ H Q → t σ H Q) : PT X e t' := ⟨fun pins s σ H Q I w => h.run pins s σ H Q I (q σ H Q w)⟩
theorem PW.mono {X : Cx} {e : Expr} {t t' : TT} (h : PW X e t) (q : ∀ σ H Q, t' σ H Q → t σ H Q) : PW X e t' := ⟨fun W pins s σ H Q I w => h.run W pins s σ H Q I (q σ H Q w)⟩
theorem PA.mono {X : Cx} {e : List Expr} {t t' : TA} (h : PA X e t) (q : ∀ σ H Q, t' σ H Q → t σ H Q) : PA X e t' := ⟨fun p pins s σ H Q I w => h.run p pins s σ H Q I (q σ H Q w)⟩
theorem PS.mono {X : Cx} {e : Stmt} {t t' : TS} (h : PS X e t) (q : ∀ D σ H, t' D σ H → t D σ H) : PS X e t' := ⟨fun pins s σ H D I w => h.run pins s σ H D I (q D σ H w)⟩
theorem PSs.mono {X : Cx} {e : List Stmt} {t t' : TS} (h : PSs X e t) (q : ∀ D σ H, t' D σ H → t D σ H) : PSs X e t' := ⟨fun pins s σ H D I w => h.run pins s σ H D I (q D σ H w)⟩

/-- what is shown of expressions one behind the other -/
def EsOk (f : Fx) (Z : Far) (X : Cx) : Es → List Expr → Prop
  | .nil, [] => True
  | .cons a r, e :: es => (PE X e (tE f Z a) ∧ ∀ i, a = .var i → PE X e (tVar i)) ∧ EsOk f Z X r es
  | .ref i r, e :: es => PE X e (tVar i) ∧ EsOk f Z X r es
  | _, _ => False
def noStar : Expr → Bool
  | .Starred _ _ => false
  | _ => true
theorem star_one {e : Expr} (h : noStar e = true) (es : List Expr) (env : PySem.Env) : starEach (e :: es) env = (false, eval e env) :: starEach es env := by
  cases e <;> first | rfl | cases h
theorem star_all {es : List Expr} (h : (es.all noStar) = true) (pos : Pos) (env : PySem.Env) : ((backTo pos (starEach es env)).any fun x => x.1) = false := by
  induction es with
  | nil => rfl
  | cons e es ih =>
    simp only [List.all_cons, Bool.and_eq_true] at h
    rw [star_one h.1]
    have := ih h.2
    cases es with
    | nil => rfl
    | cons e' es' =>
      rw [List.all_cons, Bool.and_eq_true] at h
      rw [star_one h.2.1] at this ⊢
      simp only [backTo, List.any_cons, Bool.false_or] at this ⊢
      exact this
end Al
/-! A5b: is this piece of a program that term of the language? -/
namespace Al
open PySem L2

/-- of a def: its names by slot; the program's defs, methods, classes, constants, builtins by name -/
structure Tab where
  N : List Str
  fns : List (Str × Nat)
  mts : List (Str × Nat × Nat)
  cls : List (Str × Nat × Nat)
  cst : List (Str × D)
  bl : List Str

abbrev Nms := List (Str × NameKind)
def gl (nm : Nms) (x : Str) : Bool := match nm.lookup x with | some .globalImplicit => true | _ => false
def locB (nm : Nms) (x : Str) : Bool := match nm.lookup x with | some .local => true | some .cell => true | _ => false
def isLocal (nm : Nms) (x : Str) : Bool := match nm.lookup x with | some .local => true | _ => false
def isCell (nm : Nms) (x : Str) : Bool := match nm.lookup x with | some .cell => true | _ => false
def vis (nm : Nms) (x : Str) : Bool := match nm.lookup x with | some .local => true | some .cell => true | some .free => true | _ => false
def okVar (T : Tab) (nm : Nms) (i : Nat) (x : Str) : Bool := decide (T.N[i]? = some x) && (vis nm x && (!(x == ("__debug__" : Str)) && !(x == ("__classdict__" : Str))))
def eqC : D → D → Bool
  | .int i, .int j => i == j
  | .str v, .str w => v == w
  | _, _ => false
theorem eqC_eq {a b : D} (h : eqC a b = true) : a = b := by
  cases a <;> cases b <;> simp_all [eqC]
def cstOk (T : Tab) (x : Str) (d : D) : Bool := T.cst.any fun p => decide (p.1 = x) && eqC p.2 d
def fnOkB (T : Tab) (x : Str) (n : Nat) : Bool := decide ((x, n) ∈ T.fns)
/-- a builtin's name -/
def bt (T : Tab) (nm : Nms) (x s : Str) : Bool := decide (x = s) && (gl nm s && decide (s ∈ T.bl))
def notSet : Expr → Bool
  | .Set _ _ _ => false
  | _ => true
def plainIx : Expr → Bool
  | .Slice _ _ _ _ => false
  | _ => true
def notIf : Expr → Bool
  | .IfExp _ _ _ _ => false
  | _ => true
def isBo : Expr → Bool
  | .BoolOp _ _ _ => true
  | _ => false
def isComp : Expr → Bool
  | .ListComp _ _ _ _ => true
  | .SetComp _ _ _ _ => true
  | .DictComp _ _ _ _ _ => true
  | _ => false
def isTuple : Expr → Bool
  | .Tuple _ _ _ => true
  | _ => false
/-- the thing whose attribute is asked: no call without arguments -/
def baseOk : Expr → Bool
  | .Call (.Name _ _) [] [] _ => false
  | _ => true
def strip : Expr → Expr
  | .BoolOp _ [e] _ => e
  | e => e
def tyName : Nat → Str
  | 0 => "str" | 1 => "list" | 2 => "int" | 3 => "bool" | _ => "tuple"
/-- the plain builtins: name, how many arguments -/
def prCall : Pr → Option (Str × Nat)
  | .len => some ("len", 1)
  | .min2 => some ("min", 2)
  | .max2 => some ("max", 2)
  | .min1 => some ("min", 1)
  | .max1 => some ("max", 1)
  | .sum => some ("sum", 1)
  | .all => some ("all", 1)
  | .any => some ("any", 1)
  | .sorted => some ("sorted", 1)
  | .list => some ("list", 1)
  | .tuple => some ("tuple", 1)
  | .dict => some ("dict", 1)
  | .int1 => some ("int", 1)
  | .str1 => some ("str", 1)
  | _ => none
def cmpOf : Pr → Option CmpOp
  | .eq => some .Eq
  | .ne => some .NotEq
  | .lt => some .Lt
  | .le => some .LtE
  | .gt => some .Gt
  | .ge => some .GtE
  | .isin => some .In
  | .notin => some .NotIn
  | _ => none
def binOf : Pr → Option Operator
  | .add => some .Add
  | .sub => some .Sub
  | .mul => some .Mult
  | .fdiv => some .FloorDiv
  | .mod => some .Mod
  | .pow => some .Pow
  | _ => none
/-- a method of one argument or two: its name -/
def prMeth : Pr → Option (Str × Nat)
  | .join => some ("join", 1)
  | .split => some ("split", 1)
  | .get1 => some ("get", 1)
  | .get2 => some ("get", 2)
  | .index => some ("index", 1)
  | _ => none
/-- the operations that are shown -/
def prDone : Pr → Bool
  | .add => true
  | .sub => true
  | .mul => true
  | .fdiv => true
  | .mod => true
  | .pow => true
  | .neg => true
  | .eq => true
  | .ne => true
  | .lt => true
  | .le => true
  | .gt => true
  | .ge => true
  | .isN => true
  | .notN => true
  | .isin => true
  | .notin => true
  | .len => true
  | .idx => true
  | .cut => true
  | .cutTo => true
  | .cutFrom => true
  | .min2 => true
  | .max2 => true
  | .max1 => true
  | .sum => true
  | .all => true
  | .any => true
  | .sorted => true
  | .list => true
  | .tuple => true
  | .str1 => true
  | .int1 => true
  | .isi _ => true
  | .join => true
  | .split => true
  | .get1 => true
  | .get2 => true
  | _ => false
/-- operations whose arguments are looked at one by one: nothing is changed by them -/
def prPure : Pr → Bool
  | .cut => true
  | .cutTo => true
  | .cutFrom => true
  | .join => true
  | .split => true
  | .get1 => true
  | .get2 => true
  | .index => true
  | _ => false
/-- the arguments of an operation, where the piece is such a one -/
def prArgs (T : Tab) (nm : Nms) (p : Pr) : Expr → Option (List Expr)
  | .BinOp a op b _ => if binOf p = some op then some [a, b] else none
  | .UnaryOp .USub a _ => if p = .neg then some [a] else none
  | .Compare a [op] [b] _ =>
    if cmpOf p = some op ∧ notSet b = true then some [a, b] else
    match op, b with
    | .Is, .Constant .none _ _ => if p = .isN then some [a] else none
    | .IsNot, .Constant .none _ _ => if p = .notN then some [a] else none
    | _, _ => none
  | .Subscript a (.Slice (some lo) (some hi) none _) _ => if p = .cut then some [a, lo, hi] else none
  | .Subscript a (.Slice none (some hi) none _) _ => if p = .cutTo then some [a, hi] else none
  | .Subscript a (.Slice (some lo) none none _) _ => if p = .cutFrom then some [a, lo] else none
  | .Subscript a (.Slice none none (some (.UnaryOp .USub (.Constant (.int i) _ _) _)) _) _ => if p = .rev ∧ i = 1 then some [a] else none
  | .Subscript a b _ => if p = .idx ∧ plainIx b = true then some [a, b] else none
  | .Call (.Name x _) as [] _ =>
    match prCall p with
    | some (s, n) => if bt T nm x s = true ∧ as.length = n ∧ as.all noStar = true then some as else none
    | none => match p, as with
      | .isi t, [a, .Name y _] => if bt T nm x "isinstance" = true ∧ bt T nm y (tyName t) = true ∧ noStar a = true ∧ t ≤ 4 then some [a] else none
      | _, _ => none
  | .Call (.Attribute o m apos) as [] cpos =>
    match prMeth p with
    | some (s, n) => if m = s ∧ as.length = n ∧ as.all noStar = true ∧ baseOk o = true ∧ apos.endLine = cpos.line then some (o :: as) else none
    | none => none
  | _ => none

def scOf (nm : Nms) : Scope := ⟨.function, nm, false, false, []⟩
def relNm (nm inner : Nms) : Nms := inner.map fun x => if x.2 == .free && (nm.lookup x.1 == some .cell) then (x.1, .cell) else x
/-- a target: names -/
def tgNames : List Nat → List Expr → List (Nat × Str)
  | i :: is, .Name x _ :: es => (i, x) :: tgNames is es
  | _, _ => []
def chkNm (T : Tab) (ok : Str → Bool) (i : Nat) : Expr → Bool
  | .Name x _ => decide (T.N[i]? = some x) && ok x
  | _ => false
def chkNms (T : Tab) (ok : Str → Bool) : List Nat → List Expr → Bool
  | [], [] => true
  | i :: is, e :: es => chkNm T ok i e && chkNms T ok is es
  | _, _ => false
def chkTg (T : Tab) (ok : Str → Bool) : Tg → Expr → Bool
  | .nm i, e => chkNm T ok i e
  | .tp is, .Tuple es _ _ => chkNms T ok is es
  | _, _ => false
def tgInB (own : List Nat) : Tg → Bool
  | .nm i => own.contains i
  | .tp is => is.all own.contains
/-- a comprehension's own names -/
def okIn (nm inner : Nms) (x : Str) : Bool := isLocal (relNm nm inner) x || (isCell (relNm nm inner) x && isCell inner x)
def ownOf (T : Tab) (own : List Nat) : List (Str × Nat) := own.map fun j => (T.N.getD j "", j)
/-- may a comprehension's value stand behind an assignment to a name? -/
def asgOk (nm : Nms) (x : Str) (py : Pos) : Expr → Bool
  | .ListComp _ _ sc pos => isCell nm x || (isLocal nm x && (decide (py.line = pos.line) && !(sc.names.any fun y => y.1 == x && (y.2 == .local || y.2 == .cell))))
  | .SetComp _ _ _ _ => false
  | .DictComp _ _ _ _ _ => false
  | _ => true

def Fn.body : Fn → Ss
  | .mk _ _ _ _ b => b
  | .far _ _ => .nil
def Fn.nm : Fn → Nat
  | .mk n _ _ _ _ => n
  | .far n _ => n

/-! what holds of all defs that a piece calls -/
mutual
def AllE (P : Fn → Prop) : E → Prop
  | .prim _ es => AllEs P es
  | .lst es => AllEs P es
  | .tup es => AllEs P es
  | .dic a b => AllEs P a ∧ AllEs P b
  | .andE a b => AllE P a ∧ AllE P b
  | .orE a b => AllE P a ∧ AllE P b
  | .notE a => AllE P a
  | .ife a b c => AllE P a ∧ AllE P b ∧ AllE P c
  | .chain _ _ a b c => AllE P a ∧ AllE P b ∧ AllE P c
  | .call g es => P g ∧ AllEs P es
  | .make _ g es => P g ∧ AllEs P es
  | .callm _ g o es => P g ∧ AllE P o ∧ AllEs P es
  | .attr _ o => AllE P o
  | .lc e _ it c _ => AllE P e ∧ AllI P it ∧ AllEs P c
  | .sortK g e => P g ∧ AllE P e
  | .knot es => AllEs P es
  | .pop _ e => AllE P e
  | _ => True
def AllEs (P : Fn → Prop) : Es → Prop
  | .nil => True
  | .cons e r => AllE P e ∧ AllEs P r
  | .ref _ r => AllEs P r
def AllI (P : Fn → Prop) : It → Prop
  | .val e => AllE P e
  | .rng es => AllEs P es
  | .enum e => AllE P e
  | .zip a b => AllE P a ∧ AllE P b
  | .keys _ => True
end
mutual
def AllS (P : Fn → Prop) : S → Prop
  | .exp e => AllE P e
  | .set _ e => AllE P e
  | .ret e => AllE P e
  | .ife c a b => AllE P c ∧ AllSs P a ∧ AllSs P b
  | .whl c b _ => AllE P c ∧ AllSs P b
  | .forS _ it b _ => AllI P it ∧ AllSs P b
  | .setIx o i e => AllE P o ∧ AllE P i ∧ AllE P e
  | .setFld _ o e => AllE P o ∧ AllE P e
  | .app o e => AllE P o ∧ AllE P e
  | .ext o e => AllE P o ∧ AllE P e
  | .clr o => AllE P o
  | .ins o i e => AllE P o ∧ AllE P i ∧ AllE P e
  | .appAll _ _ e => AllE P e
  | .sdApp o i e => AllE P o ∧ AllE P i ∧ AllE P e
  | .rais _ e => AllE P e
  | _ => True
def AllSs (P : Fn → Prop) : Ss → Prop
  | .nil => True
  | .cons s r => AllS P s ∧ AllSs P r
end
/-- a dict that is written: one entry, a written key, True, a number or [] -/
def litK : E → Bool
  | .int _ => true
  | .str _ => true
  | _ => false
def litV : E → Bool
  | .bl _ => true
  | .int _ => true
  | .lst .nil => true
  | _ => false
def dicLit : Es → Es → Bool
  | .cons k .nil, .cons v .nil => litK k && litV v
  | _, _ => false
mutual
def chkE (T : Tab) : Nms → E → Expr → Bool
  | nm, .var i, .Name x _ => okVar T nm i x
  | nm, .mov i, .Name x _ => okVar T nm i x
  | _, .non, .Constant .none _ _ => true
  | _, .bl b, .Constant (.bool c) _ _ => b == c
  | _, .int i, .Constant (.int j) _ _ => decide (i = j)
  | _, .str w, .Constant (.str x) _ _ => decide (x.cps.toList = w) && decide (w.length ≤ LINE)
  | nm, .cst _ d, .Name x _ => gl nm x && (!(x == ("__debug__" : Str)) && cstOk T x d)
  | nm, .prim p es, e => match prArgs T nm p e with
    | some as => prDone p && ((!prPure p || !es.eff) && (es.noRef && chkEs T nm es as))
    | none => false
  | nm, .lst es, .List as _ => as.all noStar && (decide (as.length ≤ 1000) && (es.noRef && chkEs T nm es as))
  | nm, .tup es, .Tuple as _ _ => as.all noStar && (decide (as.length ≤ 1000) && (es.noRef && chkEs T nm es as))
  | _, .dic0 _, .Dict [] [] _ => true
  | nm, .dic ks vs, .Dict [some x] [y] _ => dicLit ks vs && (chkEs T nm ks [x] && chkEs T nm vs [y])
  | nm, .sortK g m, .Call (.Name x _) [y] [⟨some kn, .Name kx _, _⟩] _ => bt T nm x "sorted" && (decide (kn = "key") && (gl nm kx && (!(kx == ("__debug__" : Str)) && (fnOkB T kx g.nm && (!g.isMut && (noStar y && chkE T nm m y))))))
  | nm, .pop s i, .Call (.Attribute (.Name x _) m apos) [y] [] cpos => decide (m = "pop") && (okVar T nm s x && (noStar y && (decide (apos.endLine = cpos.line) && chkE T nm i y)))
  | nm, .attr g o, .Attribute x m _ => decide (m = fname g) && (decide (g ≤ 7) && (!T.cls.isEmpty && (baseOk x && chkE T nm o x)))
  | nm, .andE a b, .BoolOp .And (x :: y :: r) p => notIf x && (notIf (strip (.BoolOp .And (y :: r) p)) && (chkE T nm a x && chkE T nm b (strip (.BoolOp .And (y :: r) p))))
  | nm, .orE a b, .BoolOp .Or (x :: y :: r) p => notIf x && (notIf (strip (.BoolOp .Or (y :: r) p)) && (chkE T nm a x && chkE T nm b (strip (.BoolOp .Or (y :: r) p))))
  | nm, .notE a, .UnaryOp .Not x _ => notIf x && chkE T nm a x
  | nm, .ife c a b, .IfExp x y z _ => notIf x && (chkE T nm c x && (chkE T nm a y && chkE T nm b z))
  | nm, .chain p q a b c, .Compare x [o, o'] [y, z] _ => decide (cmpOf p = some o) && (decide (cmpOf q = some o') && (notSet y && (notSet z && (chkE T nm a x && (chkE T nm b y && chkE T nm c z)))))
  | nm, .call g es, .Call (.Name x _) as [] _ => gl nm x && (!(x == ("__debug__" : Str)) && (fnOkB T x g.nm && (as.all noStar && (!g.isMut && (!as.isEmpty && (es.noRef && chkEs T nm es as))))))
  | nm, .lc elt tg it cnd own, .ListComp e [⟨t, i, ifs, asy⟩] sc _ => decide (asy = 0) && (!elt.eff && (!cnd.eff && (tgInB own tg && (notSet i && (chkI T nm it i t && (blkC T.N (scOf nm) sc (ownOf T own) && (chkTg T (okIn nm sc.names) tg t && (decide (ifs.length ≤ 1) && (cnd.noRef && (ifs.all notIf && (chkEs T (relNm nm sc.names) cnd ifs && chkE T (relNm nm sc.names) elt e)))))))))))
  | _, _, _ => false
def chkEs (T : Tab) : Nms → Es → List Expr → Bool
  | _, .nil, [] => true
  | nm, .cons a r, e :: es => chkE T nm a e && chkEs T nm r es
  | nm, .ref i r, .Name x _ :: es => okVar T nm i x && chkEs T nm r es
  | _, _, _ => false
def chkI (T : Tab) : Nms → It → Expr → Expr → Bool
  | nm, .val e, x, _ => notSet x && chkE T nm e x
  | nm, .rng es, .Call (.Name x _) as [] _, _ => bt T nm x "range" && (as.all noStar && (!as.isEmpty && (decide (as.length ≤ 2) && (es.noRef && chkEs T nm es as))))
  | nm, .enum e, .Call (.Name x _) [a] [] _, t => bt T nm x "enumerate" && (noStar a && (isTuple t && chkE T nm e a))
  | nm, .zip a b, .Call (.Name x _) [y, z] [] _, t => bt T nm x "zip" && (noStar y && (noStar z && (isTuple t && (chkE T nm a y && chkE T nm b z))))
  | nm, .keys i, .Name x _, _ => okVar T nm i x
  | _, _, _, _ => false
end
def It.isK : It → Bool
  | .keys _ => true
  | _ => false
/-- a piece of the frame's own that is named to be changed -/
def lvOk : E → Bool
  | .var _ => true
  | .attr _ o => lvOk o
  | .prim .idx (.cons o (.cons e .nil)) => lvOk o && !e.eff
  | _ => false
mutual
def chkS (T : Tab) (nm : Nms) : S → Stmt → Bool
  | .exp e, .Expr x _ => !isComp x && chkE T nm e x
  | .set (.nm i) e, .Assign [.Name x py] v _ => decide (T.N[i]? = some x) && (locB nm x && (asgOk nm x py v && chkE T nm e v))
  | .set (.tp is) e, .Assign [.Tuple ts k py] v _ => !isComp v && (!isTuple v && (chkNms T (locB nm) is ts && chkE T nm e v))
  | .ret e, .Return (some x) _ => chkE T nm e x
  | .retN, .Return none _ => true
  | .ife c a b, .If x ys zs _ => notIf x && (chkE T nm c x && (chkSs T nm a ys && chkSs T nm b zs))
  | .whl c b _, .While x ys [] _ => notIf x && (chkE T nm c x && chkSs T nm b ys)
  | .forS tg it b _, .For t i ys [] _ => notSet i && (chkI T nm it i t && (chkTg T (locB nm) tg t && chkSs T nm b ys))
  | .pass, .Pass _ => true
  | .brk, .Break _ => true
  | .cont, .Continue _ => true
  | .app o e, .Expr (.Call (.Attribute x m apos) [y] [] cpos) _ => (o.isVar || (lvOk o && !e.eff)) && decide (m = "append") && (noStar y && (baseOk x && (decide (apos.endLine = cpos.line) && (chkE T nm o x && chkE T nm e y))))
  | .sdApp (.var r) i e, .Expr (.Call (.Attribute (.Call (.Attribute x m1 apos1) [ky, .List [] _] [] cpos1) m2 apos2) [y] [] cpos2) _ => decide (m1 = "setdefault") && (decide (m2 = "append") && (!i.eff && (!e.eff && (noStar ky && (noStar y && (baseOk x && (decide (apos1.endLine = cpos1.line) && (decide (apos2.endLine = cpos2.line) && (chkE T nm (.var r) x && (chkE T nm i ky && chkE T nm e y))))))))))
  | .setIx o i e, .Assign [.Subscript x y _] v _ => lvOk o && (plainIx y && (!i.eff && (!isComp v && (chkE T nm o x && (chkE T nm i y && chkE T nm e v)))))
  | .setFld g o e, .Assign [.Attribute x m _] v _ => lvOk o && (decide (m = fname g) && (decide (g ≤ 7) && (!T.cls.isEmpty && (!isComp v && (baseOk x && (chkE T nm o x && chkE T nm e v))))))
  | .ext o e, .Expr (.Call (.Attribute x m apos) [y] [] cpos) _ => lvOk o && (!e.eff && (decide (m = "extend") && (noStar y && (baseOk x && (decide (apos.endLine = cpos.line) && (chkE T nm o x && chkE T nm e y))))))
  | .clr o, .Expr (.Call (.Attribute x m apos) [] [] cpos) _ => lvOk o && (decide (m = "clear") && (baseOk x && (decide (apos.endLine = cpos.line) && chkE T nm o x)))
  | .rais _ _, .Raise _ _ _ => true
  | _, _ => false
def chkSs (T : Tab) (nm : Nms) : Ss → List Stmt → Bool
  | .nil, [] => true
  | .cons (.frz _) r, ys => chkSs T nm r ys
  | .cons s r, y :: ys => chkS T nm s y && chkSs T nm r ys
  | _, _ => false
end
end Al
/-! A5c: a frame and its table; what is shown of a part; operations. -/
namespace Al
open PySem L2

/-- what stands around all frames -/
structure Wd where
  prog : Program
  w : World
  K : PySem.W.Frag
  mg : Str → Option Value
  base : Heap
  cad : Nat → Addr
  Z : Far
/-- a frame's names, its table, what stands around it -/
structure At (wd : Wd) (T : Tab) (f : Fx) (k : Nat) (nm : Nms) (X : Cx) : Prop where
  prog : X.prog = wd.prog
  mg : X.mg = wd.mg
  base : X.base = wd.base
  w' : X.w = wd.w
  K' : X.K = wd.K
  cad : f.cad = wd.cad
  N : X.N = T.N
  nd : T.N.Nodup
  nm : X.env.scope.names = nm
  kd : X.env.scope.kind = .function
  calm : X.calm = true
  K : X.K = f.K
  w : X.w = f.w
  room : Room (k + 1) X.A
  xe : X.xe = fun _ _ => False
  bl : ∀ x ∈ T.bl, X.mg x = none
  cst : ∀ p ∈ T.cst, ∃ u v, X.mg p.1 = some u ∧ RelV v u ∧ Atom v p.2
  cls : T.cls.isEmpty = false → (∀ c, Cls X.K (f.cad c)) ∧ ∀ c g, g ≤ 7 → NoAttr X.K (f.cad c) (fname g)
section
variable {wd : Wd} {T : Tab} {f : Fx} {k : Nat} {nm : Nms} {X : Cx} {Z : Far}
theorem At.gl (a : At wd T f k nm X) {x : Str} (h : gl nm x = true) : Gl X x := by
  unfold Gl PySem.Env.kindOf
  rw [a.nm]
  unfold Al.gl at h
  split at h
  · next e => exact e
  · cases h
theorem At.vis (a : At wd T f k nm X) {x : Str} (h : vis nm x = true) : Vis X.env.scope x := by
  unfold Vis
  rw [a.nm]
  unfold Al.vis at h
  split at h
  · next e => exact .inl e
  · next e => exact .inr (.inl e)
  · next e => exact .inr (.inr e)
  · cases h
theorem At.loc (a : At wd T f k nm X) {x : Str} (h : locB nm x = true) : L2.Loc X.env.scope x := by
  unfold L2.Loc
  rw [a.nm]
  unfold locB at h
  split at h
  · next e => exact .inl e
  · next e => exact .inr e
  · cases h
theorem At.isLocal (a : At wd T f k nm X) {x : Str} (h : isLocal nm x = true) : X.env.scope.names.lookup x = some .local := by
  rw [a.nm]
  unfold Al.isLocal at h
  split at h
  · next e => exact e
  · cases h
theorem At.isCell (a : At wd T f k nm X) {x : Str} (h : isCell nm x = true) : X.env.scope.names.lookup x = some .cell := by
  rw [a.nm]
  unfold Al.isCell at h
  split at h
  · next e => exact e
  · cases h
theorem At.bt (a : At wd T f k nm X) {x s : Str} (h : bt T nm x s = true) : x = s ∧ Gl X x ∧ X.mg x = none := by
  simp only [Al.bt, Bool.and_eq_true, decide_eq_true_eq] at h
  obtain ⟨rfl, h1, h2⟩ := h
  exact ⟨rfl, a.gl h1, a.bl _ h2⟩
theorem At.var (a : At wd T f k nm X) {i : Nat} {x : Str} {pos : Pos} (h : okVar T nm i x = true) : PE X (.Name x pos) (tVar i) := by
  simp only [okVar, Bool.and_eq_true, decide_eq_true_eq, Bool.not_eq_true'] at h
  obtain ⟨h1, h2, h3, h4⟩ := h
  exact pv i (by rw [a.N]; exact h1) (a.vis h2) h3 h4
theorem At.hu (a : At wd T f k nm X) : X.A.units + 200 < cLine := by have := a.room.un; omega

/-- a name's reading, as an expression of the language -/
theorem tVar_var {i : Nat} {σ : St} {H : Hp} {Q : VK} (h : tE f Z (.var i) σ H Q) : tVar i σ H Q := by
  obtain ⟨ρ, O, S, d, k, ρ1, rel, e, q⟩ := h
  simp only [denE, Option.map_eq_some_iff] at e
  obtain ⟨p, hp, e⟩ := e
  simp only [Out.ok.injEq] at e
  obtain ⟨rfl, rfl, rfl⟩ := e
  obtain ⟨v, F, e1, t⟩ := Tm.slot (N := New H O) rel hp
  exact ⟨v, e1, q v H O S F rel Stp.refl t fun _ => ⟨Ext.refl H, rfl, rfl⟩⟩

/-- of an expression and its piece of program: as a value, as a test, as a name, as what is assigned to a name -/
structure E1 (T : Tab) (f : Fx) (Z : Far) (nm : Nms) (X : Cx) (m : E) (e : Expr) : Prop where
  pe : PE X e (tE f Z m)
  pt : notIf e = true → PT X e (tT f Z m)
  pw : isBo e = true → PW X e (tT f Z m)
  var : ∀ i, m = .var i → PE X e (tVar i)
  asg : ∀ i y py spos, T.N[i]? = some y → locB nm y = true → (X.fn y = true ∨ X.env.scope.names.lookup y = some .local) → asgOk nm y py e = true → PS X (.Assign [.Name y py] e spos) (tAsg (tE f Z m) (gName i))
theorem asg_of (a : At wd T f k nm X) {e : Expr} {te : TE} (pe : PE X e te) (hc : isComp e = false) : ∀ i y py spos, T.N[i]? = some y → locB nm y = true → (X.fn y = true ∨ X.env.scope.names.lookup y = some .local) → asgOk nm y py e = true → PS X (.Assign [.Name y py] e spos) (tAsg te (gName i)) := by
  intro i y py spos h1 h2 h3 _
  refine ps_set (by rw [a.N]; exact a.nd) (by rw [a.N]; exact h1) (a.loc h2) pe ?_ h3
  cases e <;> first | rfl | cases hc
/-- most kinds of piece -/
def plainE : Expr → Bool
  | .UnaryOp .Not _ _ => false
  | .BoolOp _ _ _ => false
  | .IfExp _ _ _ _ => false
  | .Compare _ _ _ _ => false
  | .ListComp _ _ _ _ => false
  | .SetComp _ _ _ _ => false
  | .DictComp _ _ _ _ _ => false
  | _ => true
theorem pt_plain {e : Expr} {te : TE} (pe : PE X e te) (h : plainE e = true) : PT X e (tB te) := by
  refine pt_val pe ?_
  intro whole
  cases e <;> first | rfl | (cases h; done) | skip
  rename_i op x p
  cases op <;> first | rfl | cases h
theorem pt_comp {el : Expr} {cs : List Comprehension} {sc : Scope} {pos : Pos} {te : TE} (pe : PE X (.ListComp el cs sc pos) te) : PT X (.ListComp el cs sc pos) (tB te) := pt_val pe fun whole => rfl
theorem E1.of (a : At wd T f k nm X) {m : E} {e : Expr} (pe : PE X e (tE f Z m)) (h : plainE e = true) (hv : ∀ i, m = .var i → PE X e (tVar i)) : E1 T f Z nm X m e where
  pe := pe
  pt := fun _ => pt_plain pe h
  pw := fun q => by cases e <;> first | (cases h; done) | (cases q; done)
  var := hv
  asg := asg_of a pe (by cases e <;> first | rfl | cases h)

/-- expressions one behind the other -/
def Es1 (T : Tab) (f : Fx) (Z : Far) (nm : Nms) (X : Cx) : Es → List Expr → Prop
  | .nil, [] => True
  | .cons a r, e :: es => E1 T f Z nm X a e ∧ Es1 T f Z nm X r es
  | .ref i r, e :: es => PE X e (tVar i) ∧ Es1 T f Z nm X r es
  | _, _ => False
def Mono (t : TE) : Prop := ∀ {σ : St} {H : Hp} {Q Q' : VK}, (∀ v H1, Q v H1 → Q' v H1) → t σ H Q → t σ H Q'
theorem mono_var (i : Nat) : Mono (tVar i) := fun h ⟨v, e, q⟩ => ⟨v, e, h _ _ q⟩
theorem mono_tE (m : E) : Mono (tE f Z m) := fun h q => tE_mono h q
/-- several expressions, each with its reading -/
inductive Each (X : Cx) : List Expr → List TE → Prop
  | nil : Each X [] []
  | cons {e : Expr} {es : List Expr} {t : TE} {ts : List TE} : PE X e t → Mono t → Each X es ts → Each X (e :: es) (t :: ts)
def tL : List TE → TA
  | [] => tNil
  | t :: ts => tCons t (tL ts)
theorem Each.pa {es : List Expr} {ts : List TE} (h : Each X es ts) : (es.all noStar) = true → PA X es (tL ts) := by
  induction h with
  | nil => exact fun _ => pa_nil
  | cons p _ _ ih =>
    intro q
    simp only [List.all_cons, Bool.and_eq_true] at q
    exact pa_cons p (ih q.2) (star_one q.1 _ _)
theorem Es1.each : ∀ {es : Es} {as : List Expr}, Es1 T f Z nm X es as → ∃ ts, Each X as ts ∧ ∀ σ H Q, tEs f Z es σ H Q → tL ts σ H Q
  | .nil, [], _ => ⟨[], .nil, fun σ H Q h => tEs_nil h⟩
  | .nil, _ :: _, h => h.elim
  | .cons _ _, [], h => h.elim
  | .ref _ _, [], h => h.elim
  | .ref i r, e :: es, h => by
    obtain ⟨ts, h1, h2⟩ := Es1.each h.2
    refine ⟨tVar i :: ts, .cons h.1 (mono_var i) h1, fun σ H Q q => ?_⟩
    obtain ⟨v, e1, q⟩ := tEs_ref q
    exact ⟨v, e1, h2 _ _ _ q⟩
  | .cons a r, e :: es, h => by
    obtain ⟨ts, h1, h2⟩ := Es1.each h.2
    by_cases hv : a.isVar = true ∧ r.eff = true
    · obtain ⟨i, rfl⟩ : ∃ i, a = .var i := by
        cases a with
        | var i => exact ⟨i, rfl⟩
        | _ => cases hv.1
      refine ⟨tVar i :: ts, .cons (h.1.var i rfl) (mono_var i) h1, fun σ H Q q => ?_⟩
      obtain ⟨v, e1, q⟩ := tEs_var hv.2 q
      exact ⟨v, e1, h2 _ _ _ q⟩
    · refine ⟨tE f Z a :: ts, .cons h.1.pe (mono_tE a) h1, fun σ H Q q => ?_⟩
      have hv' : a.isVar = false ∨ r.eff = false := by
        cases h1 : a.isVar <;> cases h2 : r.eff <;> simp_all
      exact tE_mono (fun v H1 z => h2 _ _ _ z) (tEs_cons hv' q)
theorem Each.one {x : Expr} {ts : List TE} (h : Each X [x] ts) : ∃ t, ts = [t] ∧ PE X x t ∧ Mono t := by
  cases h with
  | cons p m q => cases q; exact ⟨_, rfl, p, m⟩
theorem Each.two {x y : Expr} {ts : List TE} (h : Each X [x, y] ts) : ∃ t u, ts = [t, u] ∧ PE X x t ∧ PE X y u := by
  cases h with
  | cons p m q => obtain ⟨u, rfl, hu, _⟩ := q.one; exact ⟨_, u, rfl, p, hu⟩
theorem Each.three {x y z : Expr} {ts : List TE} (h : Each X [x, y, z] ts) : ∃ t u v, ts = [t, u, v] ∧ PE X x t ∧ PE X y u ∧ PE X z v := by
  cases h with
  | cons p m q => obtain ⟨u, v, rfl, hu, hv⟩ := q.two; exact ⟨_, u, v, rfl, p, hu, hv⟩

/-- an operation's meaning, by its arguments in hand, which are what the operation takes -/
theorem tPrP {p : Pr} {es : Es} (hn : es.noRef = true) {σ : St} {H : Hp} {Q : VK} (h : tE f Z (.prim p es) σ H Q) : tEsP f Z es (fun ds => ∃ x, prD p ds = some x) σ H fun vs H1 => rPr f p vs H1 Q := by
  obtain ⟨ρ, O, S, d, k, ρ1, rel, e, q⟩ := h
  simp only [denE] at e
  unfold bndL at e
  split at e
  · next ds ρ2 e1 =>
    simp only [Option.map_eq_some_iff] at e
    obtain ⟨x, hx, e⟩ := e
    simp only [Out.ok.injEq] at e
    obtain ⟨rfl, rfl, rfl⟩ := e
    refine ⟨ρ, O, S, ds, ρ2, rel, e1, ⟨x, hx⟩, fun vs H1 O1 S1 Fs rel1 s1 ta w1 => ⟨ds, Fs, x.1, x.2, (ta.tms hn).as, hx, fun v H' F ps => ?_⟩⟩
    have hN : ∀ a, H1 a = none → New H O a := fun a z => s1.back (.inr z)
    obtain ⟨S2, rel2, tm, m1, m2⟩ := Pst.done rel1 (ta.tms hn) hN ps
    refine q v H' O1 S2 F rel2 ⟨fun a o hn e => ps.ext a o (s1.keep a o hn e), s1.own', fun a z => ?_, fun a z => m1 a (s1.mono a z)⟩ tm fun he => ?_
    · rcases m2 a z with z | z
      · exact s1.st' a z
      · rcases z with z | z
        · exact .inr (.inl z)
        · exact .inr (.inr z)
    · simp only [E.eff] at he
      obtain ⟨x1, rfl, rfl⟩ := w1 he
      exact ⟨x1.trans ps.ext, rfl, rfl⟩
  · cases e
  · cases e
theorem tPr {p : Pr} {es : Es} (hn : es.noRef = true) {σ : St} {H : Hp} {Q : VK} (h : tE f Z (.prim p es) σ H Q) : tEs f Z es σ H fun vs H1 => rPr f p vs H1 Q := by
  obtain ⟨ρ, O, S, ds, ρ2, rel, e, _, q⟩ := tPrP hn h
  exact ⟨ρ, O, S, ds, ρ2, rel, e, q⟩
theorem tPr1 {p : Pr} {es : Es} {x : Expr} (hn : es.noRef = true) (h : Es1 T f Z nm X es [x]) : ∃ t, PE X x t ∧ Mono t ∧ ∀ σ H Q, tE f Z (.prim p es) σ H Q → t σ H fun a H1 => rPr f p [a] H1 Q := by
  obtain ⟨ts, h1, h2⟩ := h.each
  obtain ⟨t, rfl, ht, hm⟩ := h1.one
  exact ⟨t, ht, hm, fun σ H Q q => h2 _ _ _ (tPr hn q)⟩
theorem tPr2 {p : Pr} {es : Es} {x y : Expr} (hn : es.noRef = true) (h : Es1 T f Z nm X es [x, y]) : ∃ t u, PE X x t ∧ PE X y u ∧ ∀ σ H Q, tE f Z (.prim p es) σ H Q → t σ H fun a H1 => u σ H1 fun b H2 => rPr f p [a, b] H2 Q := by
  obtain ⟨ts, h1, h2⟩ := h.each
  obtain ⟨t, u, rfl, ht, hu⟩ := h1.two
  exact ⟨t, u, ht, hu, fun σ H Q q => h2 _ _ _ (tPr hn q)⟩
theorem tPr3 {p : Pr} {es : Es} {x y z : Expr} (hn : es.noRef = true) (h : Es1 T f Z nm X es [x, y, z]) : ∃ t u v, PE X x t ∧ PE X y u ∧ PE X z v ∧ ∀ σ H Q, tE f Z (.prim p es) σ H Q → t σ H fun a H1 => u σ H1 fun b H2 => v σ H2 fun c H3 => rPr f p [a, b, c] H3 Q := by
  obtain ⟨ts, h1, h2⟩ := h.each
  obtain ⟨t, u, v, rfl, ht, hu, hv⟩ := h1.three
  exact ⟨t, u, v, ht, hu, hv, fun σ H Q q => h2 _ _ _ (tPr hn q)⟩
theorem prim_nv {p : Pr} {es : Es} {e : Expr} : ∀ i, E.prim p es = .var i → PE X e (tVar i) := fun _ h => nomatch h

theorem nomarkB {op : CmpOp} {b : Expr} (h : notSet b = true) : behindInMarks op b = false := by
  cases b <;> first | rfl | cases h
theorem bin_ok (a : At wd T f k nm X) {p : Pr} {op : Operator} (hb : binOf p = some op) : OpR X (binaryOp op) (fun x y => rPr f p [x, y]) := by
  cases p <;> simp only [binOf, Option.some.injEq, reduceCtorEq] at hb <;> subst hb
  · exact o_add
  · exact o_sub
  · exact o_mul
  · exact o_fdiv
  · exact o_mod
  · exact o_pow
end
end Al
/-! A5d: names, constants, displays, tests. -/
namespace Al
open PySem L2

section
variable {wd : Wd} {T : Tab} {f : Fx} {k : Nat} {nm : Nms} {X : Cx} {Z : Far} {σ : St} {H H1 : Hp} {ρ : Env} {O : Nat → List Addr} {S : Addr → Prop} {N : Addr → Prop}
/-- the frame's own is handed out of its slot -/
theorem Rel.take (h : Rel f σ H ρ O S) (i : Nat) : Rel f σ H (ρ.set i none) (fun j => if j = i then [] else O j) S where
  len := by rw [List.length_set]; exact h.len
  slot := fun j d k e => by
    by_cases hj : j = i
    · subst hj
      rw [List.getElem?_set] at e
      simp at e
    · rw [List.getElem?_set_ne (fun z => hj z.symm)] at e
      obtain ⟨v, F, e1, r, al, c1, c2⟩ := h.slot j d k e
      exact ⟨v, F, e1, r, al, fun q => by rw [if_neg hj]; exact c1 q, c2⟩
  own := fun j a ha => by
    by_cases hj : j = i
    · rw [if_pos hj] at ha; cases ha
    · rw [if_neg hj] at ha
      obtain ⟨⟨d, e⟩, q⟩ := h.own j a ha
      exact ⟨⟨d, by rw [List.getElem?_set_ne (fun z => hj z.symm)]; exact e⟩, q⟩
  nod := fun j => by
    by_cases hj : j = i
    · rw [if_pos hj]; exact List.nodup_nil
    · rw [if_neg hj]; exact h.nod j
  dis := fun j l a h1 h2 => by
    by_cases hj : j = i
    · rw [if_pos hj] at h1; cases h1
    · by_cases hl : l = i
      · rw [if_pos hl] at h2; cases h2
      · rw [if_neg hj] at h1; rw [if_neg hl] at h2
        exact h.dis j l a h1 h2
  stb := h.stb
  kept := h.kept
theorem tE_mov {i : Nat} {Q : VK} (h : tE f Z (.mov i) σ H Q) : tVar i σ H Q := by
  obtain ⟨ρ, O, S, d, k, ρ1, rel, e, q⟩ := h
  simp only [denE, Option.map_eq_some_iff] at e
  obtain ⟨p, hp, e⟩ := e
  simp only [Out.ok.injEq] at e
  obtain ⟨rfl, rfl, rfl⟩ := e
  obtain ⟨d, k⟩ := p
  obtain ⟨v, F, e1, r, al, c1, c2⟩ := rel.slot i d k (look_some hp)
  refine ⟨v, e1, q v H _ S F (rel.take i) ⟨fun a o _ e => e, fun j a ha => ?_, fun a z => .inl z, fun a z => z⟩ ⟨r, al, fun hk => ?_, fun hk a ha => ?_⟩ fun he => nomatch he⟩
  · by_cases hj : j = i
    · rw [if_pos hj] at ha; cases ha
    · rw [if_neg hj] at ha; exact .inl ⟨j, ha⟩
  · unfold kd at hk
    split at hk
    · cases hk
    · subst hk
      obtain rfl := c1 rfl
      refine ⟨rel.nod i, fun a ha => ?_⟩
      obtain ⟨_, m, b, ns⟩ := rel.own i a ha
      refine ⟨m, b, ns, .inl ⟨i, ha⟩, fun j z => ?_⟩
      by_cases hj : j = i
      · rw [if_pos hj] at z; cases z
      · rw [if_neg hj] at z; exact hj (rel.dis j i a z ha)
  · unfold kd at hk
    split at hk
    · next hf => rw [r.flat hf] at ha; cases ha
    · exact c2 hk a ha
/-- a value that changes nothing and has no place -/
theorem tE_atom {m : E} {d : D} {v : V} {Q : VK} (hm : ∀ ρ, denE Z m ρ = some (.ok d .st ρ)) (hv : Atom v d) (h : tE f Z m σ H Q) : Q v H := by
  obtain ⟨ρ, O, S, d', k, ρ1, rel, e, q⟩ := h
  rw [hm] at e
  simp only [Option.some.injEq, Out.ok.injEq] at e
  obtain ⟨rfl, rfl, rfl⟩ := e
  exact q v H O S [] rel Stp.refl ⟨.atom hv .nil, (fun _ z => nomatch z), (fun z => nomatch z), (fun _ _ z => nomatch z)⟩ fun _ => ⟨Ext.refl H, rfl, rfl⟩
theorem k_var (a : At wd T f k nm X) {i : Nat} {e : Expr} (h : chkE T nm (.var i) e = true) : E1 T f Z nm X (.var i) e := by
  cases e <;> simp only [chkE, Bool.false_eq_true] at h
  next x pos =>
  have p := a.var (pos := pos) h
  exact E1.of a (PE.mono p fun σ H Q => tVar_var) rfl fun j hj => by cases hj; exact p
theorem k_mov (a : At wd T f k nm X) {i : Nat} {e : Expr} (h : chkE T nm (.mov i) e = true) : E1 T f Z nm X (.mov i) e := by
  cases e <;> simp only [chkE, Bool.false_eq_true] at h
  next x pos =>
  have p := a.var (pos := pos) h
  exact E1.of a (PE.mono p fun σ H Q => tE_mov) rfl fun j hj => nomatch hj
theorem k_non (a : At wd T f k nm X) {e : Expr} (h : chkE T nm .non e = true) : E1 T f Z nm X .non e := by
  cases e <;> try simp only [chkE, Bool.false_eq_true] at h
  next c _ _ =>
    cases c <;> simp only [chkE, Bool.false_eq_true] at h
    exact E1.of a (PE.mono pe_non fun σ H Q => tE_atom (fun ρ => by simp only [denE]) .non) rfl fun j hj => nomatch hj
theorem k_bl (a : At wd T f k nm X) {b : Bool} {e : Expr} (h : chkE T nm (.bl b) e = true) : E1 T f Z nm X (.bl b) e := by
  cases e <;> try simp only [chkE, Bool.false_eq_true] at h
  next c _ _ =>
    cases c <;> simp only [chkE, Bool.false_eq_true] at h
    next b' =>
      obtain rfl := (beq_iff_eq.mp h)
      exact E1.of a (PE.mono pe_bl fun σ H Q => tE_atom (fun ρ => by simp only [denE]) (.bl b)) rfl fun j hj => nomatch hj
theorem k_int (a : At wd T f k nm X) {b : Int} {e : Expr} (h : chkE T nm (.int b) e = true) : E1 T f Z nm X (.int b) e := by
  cases e <;> try simp only [chkE, Bool.false_eq_true] at h
  next c _ _ =>
    cases c <;> simp only [chkE, Bool.false_eq_true] at h
    next b' =>
      obtain rfl := of_decide_eq_true h
      exact E1.of a (PE.mono pe_int fun σ H Q => tE_atom (fun ρ => by simp only [denE]) (.int b)) rfl fun j hj => nomatch hj
theorem k_str (a : At wd T f k nm X) {w : W} {e : Expr} (h : chkE T nm (.str w) e = true) : E1 T f Z nm X (.str w) e := by
  cases e <;> try simp only [chkE, Bool.false_eq_true] at h
  next c _ _ =>
    cases c <;> simp only [chkE, Bool.false_eq_true] at h
    next x =>
      simp only [Bool.and_eq_true, decide_eq_true_eq] at h
      obtain ⟨rfl, hl⟩ := h
      have e : mkS x.cps.toList = x := by cases x; simp [mkS]
      refine E1.of a (PE.mono pe_str fun σ H Q q => ?_) rfl fun j hj => nomatch hj
      have q := tE_atom (fun ρ => by simp only [denE]) (.str hl) q
      rw [e] at q
      exact q
theorem k_cst (a : At wd T f k nm X) {n : Nat} {d : D} {e : Expr} (h : chkE T nm (.cst n d) e = true) : E1 T f Z nm X (.cst n d) e := by
  cases e <;> simp only [chkE, Bool.false_eq_true] at h
  next x pos =>
    simp only [Bool.and_eq_true, Bool.not_eq_true', cstOk, List.any_eq_true, decide_eq_true_eq] at h
    obtain ⟨h1, h2, p, hp, rfl, h3⟩ := h
    obtain rfl := eqC_eq h3
    obtain ⟨u, v, e1, e2, e3⟩ := a.cst p hp
    exact E1.of a (PE.mono (pe_glob (a.gl h1) e1 e2 h2) fun σ H Q => tE_atom (fun ρ => by simp only [denE]) e3) rfl fun j hj => nomatch hj

/-! ### displays -/
theorem Tms.r {vs : List V} {ds : List (D × Kd)} {Fs : List (List Addr)} (t : Tms f N H O S vs ds Fs) : f.R H vs (ds.map (·.1)) Fs.flatten := by
  induction t with
  | nil => exact .nil
  | cons h _ _ ih => exact R.cons h.r ih
theorem jn_fr {k l : Kd} (h : jn k l = .fr) : k = .fr ∧ l = .fr := by cases k <;> cases l <;> simp_all [jn]
theorem jn_nb {k l : Kd} (h : jn k l ≠ .bo) : k ≠ .bo ∧ l ≠ .bo := by cases k <;> cases l <;> simp_all [jn]
theorem zip_flat {vs : List V} {ds : List (D × Kd)} {Fs : List (List Addr)} (t : Tms f N H O S vs ds Fs) {a : Addr} (h : a ∈ Fs.flatten) : ∃ p ∈ ds.zip Fs, a ∈ p.2 := by
  induction t with
  | nil => cases h
  | @cons v d k F vs ds Fs h1 _ _ ih =>
    rw [List.flatten_cons, List.mem_append] at h
    rcases h with h | h
    · exact ⟨((d, k), F), by simp, h⟩
    · obtain ⟨p, hp, q⟩ := ih h
      exact ⟨p, by simp [hp], q⟩
theorem Tms.fr {vs : List V} {ds : List (D × Kd)} {Fs : List (List Addr)} (t : Tms f N H O S vs ds Fs) : jnA ds = .fr → Fs.flatten.Nodup ∧ ∀ a ∈ Fs.flatten, Mut (H a) ∧ ∃ p ∈ ds.zip Fs, p.1.2 = .fr ∧ a ∈ p.2 := by
  induction t with
  | nil => exact fun _ => ⟨List.nodup_nil, fun _ z => nomatch z⟩
  | @cons v d k F vs ds Fs h1 _ hd ih =>
    intro h
    obtain ⟨hk, hr⟩ := jn_fr (k := if flat d then .fr else k) h
    obtain ⟨n2, m2⟩ := ih hr
    by_cases hf : flat d = true
    · have e := h1.r.flat hf
      subst e
      refine ⟨by simpa using n2, fun a ha => ?_⟩
      obtain ⟨m, p, hp, q⟩ := m2 a (by simpa using ha)
      exact ⟨m, p, by simp [hp], q⟩
    · rw [if_neg hf] at hk
      subst hk
      obtain ⟨n1, m1⟩ := h1.fr rfl
      refine ⟨?_, fun a ha => ?_⟩
      · rw [List.flatten_cons, List.nodup_append]
        refine ⟨n1, n2, fun a ha b hb e => ?_⟩
        subst e
        obtain ⟨_, p, hp, q1, q2⟩ := m2 a hb
        exact hd rfl p hp q1 a ha q2
      · rw [List.flatten_cons, List.mem_append] at ha
        rcases ha with ha | ha
        · exact ⟨(m1 a ha).1, ((d, .fr), F), by simp, rfl, ha⟩
        · obtain ⟨m, p, hp, q⟩ := m2 a ha
          exact ⟨m, p, by simp [hp], q⟩
theorem Tms.st {vs : List V} {ds : List (D × Kd)} {Fs : List (List Addr)} (t : Tms f N H O S vs ds Fs) : jnA ds ≠ .bo → ∀ a ∈ Fs.flatten, ∃ p ∈ ds.zip Fs, p.1.2 ≠ .bo ∧ a ∈ p.2 := by
  induction t with
  | nil => exact fun _ _ z => nomatch z
  | @cons v d k F vs ds Fs h1 _ hd ih =>
    intro h a ha
    obtain ⟨hk, hr⟩ := jn_nb (k := if flat d then .fr else k) h
    rw [List.flatten_cons, List.mem_append] at ha
    rcases ha with ha | ha
    · by_cases hf : flat d = true
      · rw [h1.r.flat hf] at ha; cases ha
      · rw [if_neg hf] at hk
        exact ⟨((d, k), F), by simp, hk, ha⟩
    · obtain ⟨p, hp, q⟩ := ih hr a ha
      exact ⟨p, by simp [hp], q⟩
theorem Tms.flats {vs : List V} {ds : List (D × Kd)} {Fs : List (List Addr)} (t : Tms f N H O S vs ds Fs) (h : ((ds.map (·.1)).all flat) = true) : Fs.flatten = [] := t.r.flats h
theorem Tms.pstL {vs : List V} {ds : List (D × Kd)} {Fs : List (List Addr)} (t : Tms f N H O S vs ds Fs) {p : Addr} (hp : H p = none) (hl : vs.length ≤ LINE) :
    Pst f H (ds.zip Fs) (.lst (ds.map (·.1))) (kdL (ds.map (·.1)) (jnA ds)) (.ref p) (upd H p (.lst vs)) (p :: Fs.flatten) := by
  have x := Ext.new (o := .lst vs) hp
  have hne : ∀ a ∈ Fs.flatten, a ≠ p := fun a ha e => by
    subst e
    obtain ⟨o, eo⟩ := t.r.there a ha
    rw [hp] at eo; cases eo
  refine ⟨x, by simpa using R.lst (vs := []) (ds := []) (F := []) upd_same hl (R.ext t.r x) .nil, fun a ha => ?_, fun h => ?_, fun h a ha => ?_⟩
  · rcases List.mem_cons.mp ha with rfl | ha
    · exact .inl hp
    · exact .inr (zip_flat t ha)
  · have hfr : Fs.flatten.Nodup ∧ ∀ a ∈ Fs.flatten, Mut (H a) ∧ ∃ p ∈ ds.zip Fs, p.1.2 = .fr ∧ a ∈ p.2 := by
      unfold kdL at h
      split at h
      · next q => rw [t.flats q]; exact ⟨List.nodup_nil, fun _ z => nomatch z⟩
      · exact t.fr h
    refine ⟨List.nodup_cons.mpr ⟨fun z => hne p z rfl, hfr.1⟩, fun a ha => ?_⟩
    rcases List.mem_cons.mp ha with rfl | ha
    · exact ⟨by rw [upd_same]; trivial, .inl hp⟩
    · exact ⟨by rw [upd_ne (hne a ha)]; exact (hfr.2 a ha).1, .inr (hfr.2 a ha).2⟩
  · unfold kdL at h
    split at h
    · cases h
    · rcases List.mem_cons.mp ha with rfl | ha
      · exact .inl hp
      · exact .inr (t.st (by rw [h]; exact fun z => nomatch z) a ha)
theorem Tms.pstT {vs : List V} {ds : List (D × Kd)} {Fs : List (List Addr)} (t : Tms f N H O S vs ds Fs) {p : Addr} (hp : H p = none) (hl : vs.length ≤ LINE) :
    Pst f H (ds.zip Fs) (.tup (ds.map (·.1))) (kdT (ds.map (·.1)) (jnA ds)) (.ref p) (upd H p (.tup vs)) Fs.flatten := by
  have x := Ext.new (o := .tup vs) hp
  have hne : ∀ a ∈ Fs.flatten, a ≠ p := fun a ha e => by
    subst e
    obtain ⟨o, eo⟩ := t.r.there a ha
    rw [hp] at eo; cases eo
  refine ⟨x, by simpa using R.tup (vs := []) (ds := []) (F := []) (SqT.of upd_same) hl (R.ext t.r x) .nil, fun a ha => .inr (zip_flat t ha), fun h => ?_, fun h a ha => ?_⟩
  · unfold kdT at h
    split at h
    · cases h
    · have hfr := t.fr h
      exact ⟨hfr.1, fun a ha => ⟨by rw [upd_ne (hne a ha)]; exact (hfr.2 a ha).1, .inr (hfr.2 a ha).2⟩⟩
  · unfold kdT at h
    split at h
    · next q =>
      have hf : (ds.map (·.1)).all (Al.flatN 3) = true := by simpa [Al.flat, Al.flatN] using q
      rw [t.r.flatN 3 hf] at ha
      cases ha
    · exact .inr (t.st (by rw [h]; exact fun z => nomatch z) a ha)
/-- behind the arguments something new comes of them -/
theorem fin_pst {e1 : Bool} {m : E} {ρ ρ2 : Env} {O1 : Nat → List Addr} {S1 : Addr → Prop} {vs : List V} {ds : List (D × Kd)} {Fs : List (List Addr)} {d : D} {k : Kd} {v : V} {H' : Hp} {F : List Addr} {Q : VK}
    (rel1 : Rel f σ H1 ρ2 O1 S1) (s1 : Stp H O S H1 O1 S1) (ta : Tms f (New H O) H1 O1 S1 vs ds Fs) (w1 : e1 = false → Ext H H1 ∧ O1 = O ∧ ρ2 = ρ) (he : m.eff = false → e1 = false) (ps : Pst f H1 (ds.zip Fs) d k v H' F)
    (q : ∀ v H1 O1 S1 F, Rel f σ H1 ρ2 O1 S1 → Stp H O S H1 O1 S1 → Tm f (New H O) H1 O1 S1 v d k F → (m.eff = false → Ext H H1 ∧ O1 = O ∧ ρ2 = ρ) → Q v H1) : Q v H' := by
  have hN : ∀ a, H1 a = none → New H O a := fun a z => s1.back (.inr z)
  obtain ⟨S2, rel2, tm, m1, m2⟩ := Pst.done rel1 ta hN ps
  refine q v H' O1 S2 F rel2 ⟨fun a o hn e => ps.ext a o (s1.keep a o hn e), s1.own', fun a z => ?_, fun a z => m1 a (s1.mono a z)⟩ tm fun hm => ?_
  · rcases m2 a z with z | z
    · exact s1.st' a z
    · rcases z with z | z
      · exact .inr (.inl z)
      · exact .inr (.inr z)
  · obtain ⟨x1, e1, e2⟩ := w1 (he hm)
    exact ⟨x1.trans ps.ext, e1, e2⟩
theorem Tms.len {vs : List V} {ds : List (D × Kd)} {Fs : List (List Addr)} (t : Tms f N H O S vs ds Fs) : vs.length = ds.length := by
  have := t.r.length
  simpa using this
def Es.cnt : Es → Nat
  | .nil => 0
  | .cons _ r => r.cnt + 1
  | .ref _ r => r.cnt + 1
theorem TmA.cnt {m : Es} {vs : List V} {ds : List (D × Kd)} {Fs : List (List Addr)} (h : TmA f σ N H O S m vs ds Fs) : vs.length = m.cnt := by
  induction h with
  | nil => rfl
  | cons _ _ _ ih => simp [Es.cnt, ih]
  | ref _ _ ih => simp [Es.cnt, ih]
theorem Es1.cnt : ∀ {es : Es} {as : List Expr}, Es1 T f Z nm X es as → as.length = es.cnt
  | .nil, [], _ => rfl
  | .nil, _ :: _, h => h.elim
  | .cons _ _, [], h => h.elim
  | .ref _ _, [], h => h.elim
  | .ref i r, e :: es, h => by simp [Es.cnt, Es1.cnt h.2]
  | .cons i r, e :: es, h => by simp [Es.cnt, Es1.cnt h.2]
theorem k_lst (a : At wd T f k nm X) {es : Es} {e : Expr} (h : chkE T nm (.lst es) e = true) (ih : ∀ as, chkEs T nm es as = true → Es1 T f Z nm X es as) : E1 T f Z nm X (.lst es) e := by
  cases e <;> simp only [chkE, Bool.false_eq_true] at h
  next as pos =>
  simp only [Bool.and_eq_true, decide_eq_true_eq] at h
  obtain ⟨h1, h0, h2, h3⟩ := h
  have h4 := ih as h3
  obtain ⟨ts, h5, h6⟩ := h4.each
  refine E1.of a (PE.mono (pe_lst (h5.pa h1)) fun σ H Q q => ?_) rfl fun j hj => nomatch hj
  refine h6 _ _ _ ?_
  obtain ⟨ρ, O, S, d, k, ρ1, rel, e, q⟩ := q
  simp only [denE] at e
  unfold bndL at e
  split at e
  · next ds ρ2 e1 =>
    simp only [Option.some.injEq, Out.ok.injEq] at e
    obtain ⟨rfl, rfl, rfl⟩ := e
    refine ⟨ρ, O, S, ds, ρ2, rel, e1, fun vs H1 O1 S1 Fs rel1 s1 ta w1 => ?_⟩
    have hl : vs.length ≤ LINE := by rw [ta.cnt, ← h4.cnt]; unfold LINE; omega
    refine ⟨by rw [← LINE_eq]; exact hl, fun p hp => fin_pst (m := .lst es) rel1 s1 (ta.tms h2) w1 (fun he => he) ((ta.tms h2).pstL hp hl) q⟩
  · cases e
  · cases e
theorem k_tup (a : At wd T f k nm X) {es : Es} {e : Expr} (h : chkE T nm (.tup es) e = true) (ih : ∀ as, chkEs T nm es as = true → Es1 T f Z nm X es as) : E1 T f Z nm X (.tup es) e := by
  cases e <;> simp only [chkE, Bool.false_eq_true] at h
  next as _ pos =>
  simp only [Bool.and_eq_true, decide_eq_true_eq] at h
  obtain ⟨h1, h0, h2, h3⟩ := h
  have h4 := ih as h3
  obtain ⟨ts, h5, h6⟩ := h4.each
  refine E1.of a (PE.mono (pe_tup (h5.pa h1)) fun σ H Q q => ?_) rfl fun j hj => nomatch hj
  refine h6 _ _ _ ?_
  obtain ⟨ρ, O, S, d, k, ρ1, rel, e, q⟩ := q
  simp only [denE] at e
  unfold bndL at e
  split at e
  · next ds ρ2 e1 =>
    simp only [Option.some.injEq, Out.ok.injEq] at e
    obtain ⟨rfl, rfl, rfl⟩ := e
    refine ⟨ρ, O, S, ds, ρ2, rel, e1, fun vs H1 O1 S1 Fs rel1 s1 ta w1 => ?_⟩
    have hl : vs.length ≤ LINE := by rw [ta.cnt, ← h4.cnt]; unfold LINE; omega
    refine ⟨by rw [← LINE_eq]; exact hl, fun p hp => fin_pst (m := .tup es) rel1 s1 (ta.tms h2) w1 (fun he => he) ((ta.tms h2).pstT hp hl) q⟩
  · cases e
  · cases e
theorem k_dic0 (a : At wd T f k nm X) {t : Bool} {e : Expr} (h : chkE T nm (.dic0 t) e = true) : E1 T f Z nm X (.dic0 t) e := by
  cases e <;> try simp only [chkE, Bool.false_eq_true] at h
  next ks vs pos =>
  cases ks <;> cases vs <;> try simp only [chkE, Bool.false_eq_true] at h
  have fin : ∀ {σ : St} {H : Hp} {Q : VK} {p : Addr} {x : HO}, H p = none → Mut (some x) → f.R (upd H p x) [V.ref p] [.dic t []] [p] → tE f Z (.dic0 t) σ H Q → Q (.ref p) (upd H p x) := by
    intro σ H Q p x hp hm r q
    obtain ⟨ρ, O, S, d, k, ρ1, rel, e, q⟩ := q
    simp only [denE, Option.some.injEq, Out.ok.injEq] at e
    obtain ⟨rfl, rfl, rfl⟩ := e
    refine fin_pst (e1 := false) (m := .dic0 t) (k := .fr) rel Stp.refl .nil (fun _ => ⟨Ext.refl H, rfl, rfl⟩) (fun _ => rfl) ⟨Ext.new hp, r, fun a ha => ?_, fun _ => ⟨?_, fun a ha => ?_⟩, fun z => by cases z⟩ q (F := [p])
    · exact .inl (by rw [List.mem_singleton.mp ha]; exact hp)
    · simp
    · rw [List.mem_singleton.mp ha]
      exact ⟨by rw [upd_same]; exact hm, .inl hp⟩
  cases t with
  | false => exact E1.of a (PE.mono pe_dnewK fun σ H Q q p hp => fin hp trivial (R.dk (kvs := []) (es := []) (vs := []) (ds := []) (E := []) (F := []) (.inl upd_same) (Nat.zero_le _) rfl ⟨List.nodup_nil, fun p hp => nomatch hp⟩ .nil .nil) q) rfl fun j hj => nomatch hj
  | true => exact E1.of a (PE.mono pe_dnewDT fun σ H Q q p hp => fin hp trivial (R.dt (L := []) (es := []) (vs := []) (ds := []) (E := []) (F := []) (.inl (by rw [upd_same, a.w])) (Nat.zero_le _) rfl List.nodup_nil rfl .nil .nil .nil) q) rfl fun j hj => nomatch hj
theorem k_dic (a : At wd T f k nm X) {ks vs : Es} {e : Expr} (h : chkE T nm (.dic ks vs) e = true) (i1 : ∀ as, chkEs T nm ks as = true → Es1 T f Z nm X ks as) (i2 : ∀ as, chkEs T nm vs as = true → Es1 T f Z nm X vs as) : E1 T f Z nm X (.dic ks vs) e := by
  cases e <;> try simp only [chkE, Bool.false_eq_true] at h
  next xs ys pos =>
  obtain ⟨x, y, rfl, rfl⟩ : ∃ x y, xs = [some x] ∧ ys = [y] := by
    rcases xs with _ | ⟨_ | x, _ | ⟨x2, xs⟩⟩ <;> rcases ys with _ | ⟨y, _ | ⟨y2, ys⟩⟩ <;> try simp only [chkE, Bool.false_eq_true] at h
    exact ⟨x, y, rfl, rfl⟩
  simp only [chkE, Bool.and_eq_true] at h
  obtain ⟨h1, h2, h3⟩ := h
  obtain ⟨kk, vv, rfl, rfl, hk, hv⟩ : ∃ kk vv, ks = .cons kk .nil ∧ vs = .cons vv .nil ∧ litK kk = true ∧ litV vv = true := by
    cases ks with
    | nil => cases h1
    | ref _ _ => cases h1
    | cons kk r =>
      cases r with
      | ref _ _ => cases h1
      | cons _ _ => cases h1
      | nil =>
        cases vs with
        | nil => cases h1
        | ref _ _ => cases h1
        | cons vv r =>
          cases r with
          | ref _ _ => cases h1
          | cons _ _ => cases h1
          | nil =>
            simp only [dicLit, Bool.and_eq_true] at h1
            exact ⟨kk, vv, rfl, rfl, h1.1, h1.2⟩
  have j1 := (i1 _ h2).1
  have j2 := (i2 _ h3).1
  refine E1.of a (PE.mono (pe_disp (pps_cons j1.pe j2.pe pps_nil) rfl rfl (by simp) (by simp)) fun σ H Q q p hp => ?_) rfl fun j hj => nomatch hj
  obtain ⟨ρ, O, S, d, kd', ρ1, rel, e, q⟩ := q
  obtain ⟨dk, ek, hks, hek⟩ : ∃ dk, denE Z kk ρ = some (.ok dk .st ρ) ∧ isKS dk = true ∧ kk.eff = false := by
    cases kk <;> first | cases hk | skip
    · exact ⟨_, rfl, rfl, rfl⟩
    · exact ⟨_, rfl, rfl, rfl⟩
  obtain ⟨dv, kv, ev, hev, hkv⟩ : ∃ dv kv, denE Z vv ρ = some (.ok dv kv ρ) ∧ vv.eff = false ∧ ((flat dv = true ∧ kv = .st) ∨ (flat dv = false ∧ kv = .fr)) := by
    cases vv <;> first | cases hv | skip
    · exact ⟨_, _, rfl, rfl, .inl ⟨rfl, rfl⟩⟩
    · exact ⟨_, _, rfl, rfl, .inl ⟨rfl, rfl⟩⟩
    · rename_i es
      cases es <;> first | cases hv | skip
      exact ⟨.lst [], .fr, rfl, rfl, .inr ⟨rfl, rfl⟩⟩
  have e1 : denEs Z (.cons kk .nil) ρ = some (.ok [(dk, .st)] ρ) := by
    cases kk <;> first | cases hk | skip
    all_goals (cases ek; rfl)
  have e2 : denEs Z (.cons vv .nil) ρ = some (.ok [(dv, kv)] ρ) := by
    cases vv <;> first | cases hv | skip
    · cases ev; rfl
    · cases ev; rfl
    · rename_i es
      cases es <;> first | cases hv | skip
      cases ev; rfl
  simp only [denE, e1, e2, bndL, Es.eff, hev, Bool.or_false, Bool.false_eq_true, if_false, List.all_cons, List.all_nil, hks, Bool.and_true, List.length_cons, List.length_nil, beq_self_eq_true, if_true, Option.some.injEq, Out.ok.injEq, List.map_cons, List.map_nil, List.zip_cons_cons, List.zip_nil_right] at e
  obtain ⟨rfl, hkd, rfl⟩ := e
  have hkd : kd' = .fr := by
    rw [← hkd]
    rcases hkv with ⟨hf, rfl⟩ | ⟨hf, rfl⟩
    · simp [hf]
    · simp [hf, jnA, jn]
  subst hkd
  have rel' : Rel f σ (upd H p (.dK [])) ρ O S := rel.ext (Ext.new hp)
  have nO : ∀ i, p ∉ O i := fun i z => by
    have := (rel.own i p z).2.1
    rw [hp] at this; exact this
  have nS : ¬ S p := fun z => by
    obtain ⟨o, z⟩ := (rel.stb p z).2
    rw [hp] at z; cases z
  refine ⟨ρ, O, S, dk, .st, ρ, rel', ek, fun x' H1 O1 S1 F1 rel1 s1 t1 w1 => ?_⟩
  obtain ⟨x1, rfl, _⟩ := w1 hek
  refine ⟨ρ, _, S1, dv, kv, ρ, rel1, ev, fun y' H2 O2 S2 F2 rel2 s2 t2 w2 => ?_⟩
  obtain ⟨x2, rfl, _⟩ := w2 hev
  have hp1 : H1 p = some (.dK []) := x1 p _ upd_same
  have hp2 : H2 p = some (.dK []) := x2 p _ hp1
  obtain ⟨k0, rfl, hk0, hF1, hlen⟩ := key_of_KS t1.r hks
  refine ⟨hp2, [(k0, y')], rfl, by simp, ?_⟩
  have em : L2.mergeK [] [(k0, y')] = [(k0, y')] := by simp [L2.mergeK, L2.putK]
  rw [em]
  have xH : Ext H (upd H2 p (.dK [(k0, y')])) := fun a o e => by
    have hne : a ≠ p := fun z => by rw [z, hp] at e; cases e
    rw [upd_ne hne]
    exact x2 _ _ (x1 _ _ (by rw [upd_ne hne]; exact e))
  have nS1 : ∀ b, S1 b → S b ∨ (∃ j, b ∈ O2 j) ∨ (H b = none ∧ b ≠ p) := fun b z => by
    rcases s1.st' b z with z | z | z
    · exact .inl z
    · exact .inr (.inl z)
    · by_cases hb : b = p
      · rw [hb, upd_same] at z; cases z
      · rw [upd_ne hb] at z; exact .inr (.inr ⟨z, hb⟩)
  have nS2 : ∀ b, S2 b → S b ∨ (∃ j, b ∈ O2 j) ∨ (H b = none ∧ b ≠ p) := fun b z => by
    rcases s2.st' b z with z | z | z
    · exact nS1 b z
    · exact .inr (.inl z)
    · refine .inr (.inr ⟨?_, fun hb => ?_⟩)
      · cases eb : H b with
        | none => rfl
        | some o =>
          have hne : b ≠ p := fun z => by rw [z, hp] at eb; cases eb
          rw [x1 b o (by rw [upd_ne hne]; exact eb)] at z; cases z
      · rw [hb, hp1] at z; cases z
  have nS2p : ¬ S2 p := fun z => by
    rcases nS2 p z with z | ⟨j, z⟩ | z
    · exact nS z
    · exact nO j z
    · exact z.2 rfl
  have hF2 : ∀ b ∈ F2, b ≠ p ∧ Mut (H2 b) ∧ f.B b ∧ ¬ S2 b ∧ New H O2 b ∧ ∀ i, b ∉ O2 i := fun b hb => by
    rcases hkv with ⟨hf, _⟩ | ⟨hf, rfl⟩
    · rw [R.flat t2.r hf] at hb; cases hb
    · obtain ⟨m, bb, ns, n, no⟩ := (t2.fr rfl).2 b hb
      have hn : H1 b = none := by
        rcases n with ⟨j, n⟩ | n
        · exact absurd n (no j)
        · exact n
      have hne : b ≠ p := fun z => by rw [z, hp1] at hn; cases hn
      refine ⟨hne, m, bb, ns, .inr ?_, no⟩
      cases eb : H b with
      | none => rfl
      | some o => rw [x1 b o (by rw [upd_ne hne]; exact eb)] at hn; cases hn
  have nd2 : F2.Nodup := by
    rcases hkv with ⟨hf, _⟩ | ⟨hf, rfl⟩
    · rw [R.flat t2.r hf]; exact List.nodup_nil
    · exact (t2.fr rfl).1
  have r2 : f.R (upd H2 p (.dK [(k0, y')])) [y'] [dv] F2 := R.keep t2.r fun b o hb e => by
    have hne : b ≠ p := fun z => by
      rcases hb with hb | hb
      · exact (hF2 b hb).1 z
      · rw [z, hp2] at e; cases e; exact hb trivial
    rw [upd_ne hne]; exact e
  refine q (.ref p) _ O2 S2 (p :: F2) (rel.grow xH S2 (fun a z => s2.mono a (s1.mono a z)) fun b z => ⟨(rel2.stb b z).1, ?_, fun i hi => (rel2.own i b hi).2.2.2 z⟩) ⟨fun b o _ e => xH b o e, fun i b z => .inl ⟨i, z⟩, fun b z => ?_, fun b z => s2.mono b (s1.mono b z)⟩ ⟨?_, fun b hb => ?_, fun _ => ⟨List.nodup_cons.mpr ⟨fun z => (hF2 p z).1 rfl, nd2⟩, fun b hb => ?_⟩, fun z => nomatch z⟩ fun _ => ⟨xH, rfl, rfl⟩
  · obtain ⟨o, eo⟩ := (rel2.stb b z).2
    have hne : b ≠ p := fun hb => nS2p (hb ▸ z)
    exact ⟨o, by rw [upd_ne hne]; exact eo⟩
  · rcases nS2 b z with z | z | z
    · exact .inl z
    · exact .inr (.inl z)
    · exact .inr (.inr z.1)
  · have := R.dk (w := f.w) (K := f.K) (cad := f.cad) (H := upd H2 p (.dK [(k0, y')])) (a := p) (kvs := [(k0, y')]) (es := [(dk, dv)]) (vs := []) (ds := []) (E := F2) (F := []) (.inl upd_same) (by simp [LINE]) (by simp [hk0]) ⟨by simp, fun p hp x hx => by simp at hp; subst hp; exact hlen x hx⟩ r2 .nil
    rw [show Al.mergeK [] [(dk, dv)] = [(dk, dv)] from rfl]
    simpa using this
  · rcases List.mem_cons.mp hb with rfl | hb
    · exact f.hSB _ (rel.fresh hp)
    · exact f.hSB _ (hF2 b hb).2.2.1
  · rcases List.mem_cons.mp hb with rfl | hb
    · exact ⟨by rw [upd_same]; trivial, rel.fresh hp, nS2p, .inr hp, nO⟩
    · obtain ⟨hne, m, bb, ns, n, no⟩ := hF2 b hb
      exact ⟨by rw [upd_ne hne]; exact m, bb, ns, n, no⟩
/-! ### truths -/
/-- an expression behind what has been done so far -/
theorem tE_then {b m : E} {Q : VK} {e1 : Bool} {ρ1 ρ2 : Env} {O1 : Nat → List Addr} {S1 : Addr → Prop} {d dm : D} {k km : Kd} (rel1 : Rel f σ H1 ρ1 O1 S1) (s1 : Stp H O S H1 O1 S1) (w1 : e1 = false → Ext H H1 ∧ O1 = O ∧ ρ1 = ρ)
    (he : m.eff = false → e1 = false ∧ b.eff = false) (e : denE Z b ρ1 = some (.ok d k ρ2)) (hc : ∀ {H2 : Hp} {O2 : Nat → List Addr} {S2 : Addr → Prop} {v : V} {F : List Addr}, Tm f (New H O) H2 O2 S2 v d k F → Tm f (New H O) H2 O2 S2 v dm km F)
    (q : ∀ v H1 O1 S1 F, Rel f σ H1 ρ2 O1 S1 → Stp H O S H1 O1 S1 → Tm f (New H O) H1 O1 S1 v dm km F → (m.eff = false → Ext H H1 ∧ O1 = O ∧ ρ2 = ρ) → Q v H1) : tE f Z b σ H1 Q := by
  refine ⟨ρ1, O1, S1, d, k, ρ2, rel1, e, fun v H2 O2 S2 F rel2 s2 t2 w2 => ?_⟩
  refine q v H2 O2 S2 F rel2 (s1.trans s2) (hc (t2.weaken fun a z => s1.back z)) fun hm => ?_
  obtain ⟨x1, rfl, rfl⟩ := w1 (he hm).1
  obtain ⟨x2, rfl, rfl⟩ := w2 (he hm).2
  exact ⟨x1.trans x2, rfl, rfl⟩
/-- a truth has no place and may be of any kind -/
theorem Tm.blk {v : V} {b : Bool} {k : Kd} {F : List Addr} (t : Tm f N H O S v (.bl b) k F) (l : Kd) : Tm f N H O S v (.bl b) l F := by
  obtain ⟨rfl, rfl⟩ := R.bl t.r
  exact ⟨t.r, (fun _ z => nomatch z), fun _ => ⟨List.nodup_nil, fun _ z => nomatch z⟩, fun _ _ z => nomatch z⟩
/-- the first of two: what it has come to, and what is still to be shown -/
theorem tE_fst {m a : E} {Q : VK} {c : D → Kd → Env → Option Out} (hd : ∀ ρ, denE Z m ρ = bnd (denE Z a ρ) c) (h : tE f Z m σ H Q) :
    ∃ ρ O S d k ρ1 dm km ρ2, Rel f σ H ρ O S ∧ denE Z a ρ = some (.ok d k ρ1) ∧ c d k ρ1 = some (.ok dm km ρ2) ∧
      ∀ v H1 O1 S1 F, Rel f σ H1 ρ2 O1 S1 → Stp H O S H1 O1 S1 → Tm f (New H O) H1 O1 S1 v dm km F → (m.eff = false → Ext H H1 ∧ O1 = O ∧ ρ2 = ρ) → Q v H1 := by
  obtain ⟨ρ, O, S, dm, km, ρ2, rel, e, q⟩ := h
  rw [hd] at e
  unfold bnd at e
  split at e
  · next d k ρ1 e1 => exact ⟨ρ, O, S, d, k, ρ1, dm, km, ρ2, rel, e1, e, q⟩
  · cases e
  · cases e
theorem getF_ix {g : Nat} {x : Al.D} : ∀ {es : List (Nat × Al.D)}, getF es g = some x → ∃ i, es[i]? = some (g, x) ∧ ∀ (m : Nat) (p : Nat × Al.D), m < i → es[m]? = some p → p.1 ≠ g
  | [], h => by cases h
  | (g', d') :: r, h => by
    by_cases hg : g = g'
    · subst hg
      simp only [getF, if_true, Option.some.injEq] at h
      subst h
      exact ⟨0, rfl, fun m p hm => absurd hm (Nat.not_lt_zero m)⟩
    · simp only [getF, hg, if_false] at h
      obtain ⟨i, h1, h3⟩ := getF_ix h
      refine ⟨i + 1, by simpa using h1, fun m p hm e => ?_⟩
      cases m with
      | zero => simp only [List.getElem?_cons_zero, Option.some.injEq] at e; rw [← e]; exact fun z => hg z.symm
      | succ m => exact h3 m p (by omega) (by simpa using e)
theorem baseB {o : Expr} (h : baseOk o = true) (m : Str) (env : PySem.Env) : attributeBase o m env (eval o env) = eval o env := by
  cases o <;> try rfl
  rename_i fn as kws p
  cases fn <;> try rfl
  cases as <;> cases kws <;> first | rfl | cases h
theorem fname_inj : ∀ {g h : Nat}, g ≤ 7 → h ≤ 7 → fname g = fname h → g = h := by
  intro g h hg hh e
  have hd : ∀ a ≤ 7, ∀ b ≤ 7, fname a = fname b → a = b := by decide +kernel
  exact hd g hg h hh e
theorem lookup_at {g : Nat} {w : V} : ∀ {es : List (Nat × Al.D)} {fs : List (Str × V)} {i : Nat} {x : Al.D}, g ≤ 7 → (es.all fun p => decide (p.1 ≤ 7)) = true → fs.map (·.1) = es.map (fun p => fname p.1) → es[i]? = some (g, x) → (∀ (m : Nat) (p : Nat × Al.D), m < i → es[m]? = some p → p.1 ≠ g) → fs[i]? = some (fname g, w) → fs.lookup (fname g) = some w
  | [], fs, i, x, _, _, _, h, _, _ => by simp at h
  | (g', d') :: r, [], i, x, _, _, h, _, _, _ => by simp at h
  | (g', d') :: r, (n, u) :: fs, 0, x, h7, _, _, h, _, h3 => by
    simp only [List.getElem?_cons_zero, Option.some.injEq, Prod.mk.injEq] at h h3
    obtain ⟨rfl, rfl⟩ := h3
    simp [List.lookup]
  | (g', d') :: r, (n, u) :: fs, i + 1, x, h7, ha, hm, h, h2, h3 => by
    simp only [List.map_cons, List.cons.injEq] at hm
    simp only [List.all_cons, Bool.and_eq_true, decide_eq_true_eq] at ha
    have hne : g' ≠ g := h2 0 (g', d') (Nat.succ_pos _) rfl
    have hn : (fname g == n) = false := by
      rw [hm.1]
      refine beq_false_of_ne fun z => hne (fname_inj ha.1 h7 z.symm)
    rw [List.lookup, hn]
    exact lookup_at (es := r) (i := i) h7 ha.2 hm.2 (by simpa using h) (fun m p hlt e => h2 (m + 1) p (by omega) (by simpa using e)) (by simpa using h3)
theorem k_attr (a : At wd T f k nm X) {g : Nat} {o : E} {e : Expr} (h : chkE T nm (.attr g o) e = true) (ih : ∀ e, chkE T nm o e = true → E1 T f Z nm X o e) : E1 T f Z nm X (.attr g o) e := by
  cases e <;> try simp only [chkE, Bool.false_eq_true] at h
  next x m pos =>
  simp only [chkE, Bool.and_eq_true, decide_eq_true_eq, Bool.not_eq_true'] at h
  obtain ⟨rfl, h7, hc, hb, ho⟩ := h
  obtain ⟨hcl, hna⟩ := a.cls hc
  refine E1.of a (PE.mono (pe_fld (ih x ho).pe (baseB hb _ _)) fun σ H Q q => ?_) rfl fun j hj => nomatch hj
  obtain ⟨ρ, O, S, d, k0, ρ1, dm, km, ρ2, rel, e0, e1, fin⟩ := tE_fst (m := .attr g o) (a := o) (fun ρ => by simp only [denE] <;> rfl) q
  refine ⟨ρ, O, S, d, k0, ρ1, rel, e0, fun v H1 O1 S1 F rel1 s1 t1 w1 => ?_⟩
  split at e1
  · next c fs =>
    simp only [Option.map_eq_some_iff, Out.ok.injEq] at e1
    obtain ⟨x', hx, rfl, rfl, rfl⟩ := e1
    obtain ⟨p, dx, vs, E, rfl, ea, hn, hall, r1, rfl⟩ := t1.r.obj'
    obtain ⟨i, g1, g2⟩ := getF_ix hx
    have e' : (fs.map (·.2))[i]? = some x' := by rw [List.getElem?_map, g1]; rfl
    obtain ⟨w, A2, F2, B2, ew, rfl, r2, _, _⟩ := r1.at e'
    have hfs : vs[i]? = some (fname g, w) := by
      have hk : (vs.map (·.1))[i]? = some (fname g) := by rw [hn, List.getElem?_map, g1]; rfl
      rw [List.getElem?_map] at hk ew
      cases hx : vs[i]? with
      | none => rw [hx] at hk; cases hk
      | some p =>
        rw [hx] at hk ew
        simp only [Option.map_some, Option.some.injEq] at hk ew
        rw [← hk, ← ew]
    refine ⟨p, f.cad c, dx, vs, w, rfl, ea, hcl c, hna c g h7, lookup_at h7 hall hn g1 g2 hfs, ?_⟩
    exact fin_pst (m := .attr g o) rel1 s1 (.cons t1 .nil fun _ _ z => nomatch z) w1 (fun he => he) (Pst.ofPart2 (A := p :: A2) (B := B2) r2 rfl List.mem_cons_self) fin
  · cases e1
theorem r_and {a b : E} {Q : VK} (h : tE f Z (.andE a b) σ H Q) : tAndV (tE f Z a) (tE f Z b) σ H Q := by
  obtain ⟨ρ, O, S, d, k, ρ1, dm, km, ρ2, rel, e1, e2, q⟩ := tE_fst (fun ρ => by simp only [denE] <;> rfl) h
  refine ⟨ρ, O, S, d, k, ρ1, rel, e1, fun v H1 O1 S1 F rel1 s1 t1 w1 => ?_⟩
  split at e2
  · next =>
    obtain ⟨rfl, _⟩ := R.bl t1.r
    refine ⟨true, rfl, ?_⟩
    rw [if_pos rfl]
    unfold bnd at e2
    split at e2
    · next d' k' ρ' e3 =>
      dsimp only at e2
      split at e2
      · simp only [Option.some.injEq, Out.ok.injEq] at e2
        obtain ⟨rfl, rfl, rfl⟩ := e2
        exact tE_then (m := .andE a b) rel1 s1 w1 (fun he => by simpa [E.eff] using he) e3 (fun t => t.blk _) q
      · cases e2
    · cases e2
    · cases e2
  · next =>
    obtain ⟨rfl, rfl⟩ := R.bl t1.r
    refine ⟨false, rfl, ?_⟩
    rw [if_neg Bool.false_ne_true]
    simp only [Option.some.injEq, Out.ok.injEq] at e2
    obtain ⟨rfl, rfl, rfl⟩ := e2
    exact q _ H1 O1 S1 [] rel1 s1 (t1.blk _) fun he => w1 (by simp [E.eff] at he; exact he.1)
  · cases e2
theorem r_or {a b : E} {Q : VK} (h : tE f Z (.orE a b) σ H Q) : tOrV (tE f Z a) (tE f Z b) σ H Q := by
  obtain ⟨ρ, O, S, d, k, ρ1, dm, km, ρ2, rel, e1, e2, q⟩ := tE_fst (fun ρ => by simp only [denE] <;> rfl) h
  refine ⟨ρ, O, S, d, k, ρ1, rel, e1, fun v H1 O1 S1 F rel1 s1 t1 w1 => ?_⟩
  split at e2
  · next =>
    obtain ⟨rfl, _⟩ := R.bl t1.r
    refine ⟨false, rfl, ?_⟩
    rw [if_neg Bool.false_ne_true]
    unfold bnd at e2
    split at e2
    · next d' k' ρ' e3 =>
      dsimp only at e2
      split at e2
      · simp only [Option.some.injEq, Out.ok.injEq] at e2
        obtain ⟨rfl, rfl, rfl⟩ := e2
        exact tE_then (m := .orE a b) rel1 s1 w1 (fun he => by simpa [E.eff] using he) e3 (fun t => t.blk _) q
      · cases e2
    · cases e2
    · cases e2
  · next =>
    obtain ⟨rfl, rfl⟩ := R.bl t1.r
    refine ⟨true, rfl, ?_⟩
    rw [if_pos rfl]
    simp only [Option.some.injEq, Out.ok.injEq] at e2
    obtain ⟨rfl, rfl, rfl⟩ := e2
    exact q _ H1 O1 S1 [] rel1 s1 (t1.blk _) fun he => w1 (by simp [E.eff] at he; exact he.1)
  · cases e2
theorem r_not {a : E} {Q : VK} (h : tE f Z (.notE a) σ H Q) : tNotV (tE f Z a) σ H Q := by
  obtain ⟨ρ, O, S, d, k, ρ1, dm, km, ρ2, rel, e1, e2, q⟩ := tE_fst (fun ρ => by simp only [denE] <;> rfl) h
  refine ⟨ρ, O, S, d, k, ρ1, rel, e1, fun v H1 O1 S1 F rel1 s1 t1 w1 => ?_⟩
  split at e2
  · next b =>
    obtain ⟨rfl, rfl⟩ := R.bl t1.r
    simp only [Option.some.injEq, Out.ok.injEq] at e2
    obtain ⟨rfl, rfl, rfl⟩ := e2
    exact ⟨b, rfl, q _ H1 O1 S1 [] rel1 s1 ⟨.atom (.bl _) .nil, (fun _ z => nomatch z), (fun z => nomatch z), (fun _ _ z => nomatch z)⟩ fun he => w1 (by simpa [E.eff] using he)⟩
  · cases e2
theorem r_ife {c a b : E} {Q : VK} (h : tE f Z (.ife c a b) σ H Q) : tIf (tT f Z c) (tE f Z a) (tE f Z b) σ H Q := by
  obtain ⟨ρ, O, S, d, k, ρ1, dm, km, ρ2, rel, e1, e2, q⟩ := tE_fst (fun ρ => by simp only [denE] <;> rfl) h
  refine ⟨ρ, O, S, d, k, ρ1, rel, e1, fun v H1 O1 S1 F rel1 s1 t1 w1 => ?_⟩
  split at e2
  · obtain ⟨rfl, rfl⟩ := R.bl t1.r
    refine ⟨true, rfl, ?_⟩
    show tE f Z a σ H1 Q
    exact tE_then (m := .ife c a b) rel1 s1 w1 (fun he => by simp [E.eff] at he; exact ⟨he.1, he.2.1⟩) e2 (fun t => t) q
  · obtain ⟨rfl, rfl⟩ := R.bl t1.r
    refine ⟨false, rfl, ?_⟩
    show tE f Z b σ H1 Q
    exact tE_then (m := .ife c a b) rel1 s1 w1 (fun he => by simp [E.eff] at he; exact ⟨he.1, he.2.2⟩) e2 (fun t => t) q
  · cases e2
/-! the same as tests -/
theorem rT_and {a b : E} {Q : Bool → Hp → Prop} (h : tT f Z (.andE a b) σ H Q) : tAnd (tT f Z a) (tT f Z b) σ H Q := by
  refine tE_mono (fun v H1 z => ?_) (r_and h)
  obtain ⟨c, e, z⟩ := z
  refine ⟨c, e, ?_⟩
  cases c with
  | true => rw [if_pos rfl] at z ⊢; exact z
  | false =>
    rw [if_neg Bool.false_ne_true] at z ⊢
    obtain ⟨c, e, z⟩ := z
    cases e
    exact z
theorem rT_or {a b : E} {Q : Bool → Hp → Prop} (h : tT f Z (.orE a b) σ H Q) : tOr (tT f Z a) (tT f Z b) σ H Q := by
  refine tE_mono (fun v H1 z => ?_) (r_or h)
  obtain ⟨c, e, z⟩ := z
  refine ⟨c, e, ?_⟩
  cases c with
  | false => rw [if_neg Bool.false_ne_true] at z ⊢; exact z
  | true =>
    rw [if_pos rfl] at z ⊢
    obtain ⟨c, e, z⟩ := z
    cases e
    exact z
theorem rT_not {a : E} {Q : Bool → Hp → Prop} (h : tT f Z (.notE a) σ H Q) : tNot (tT f Z a) σ H Q := by
  refine tE_mono (fun v H1 z => ?_) (r_not h)
  obtain ⟨c, e, d, e2, z⟩ := z
  cases e2
  exact ⟨c, e, z⟩
theorem strip_pe {op : BoolOp} {y : Expr} {r : List Expr} {p : Pos} {t : TE} (h : PE X (strip (.BoolOp op (y :: r) p)) t) : PE X (.BoolOp op (y :: r) p) t := by
  cases r with
  | nil => exact pe_one h
  | cons z r => exact h
theorem k_and (a : At wd T f k nm X) {m n : E} {e : Expr} (h : chkE T nm (.andE m n) e = true) (i1 : ∀ e, chkE T nm m e = true → E1 T f Z nm X m e) (i2 : ∀ e, chkE T nm n e = true → E1 T f Z nm X n e) : E1 T f Z nm X (.andE m n) e := by
  cases e <;> try simp only [chkE, Bool.false_eq_true] at h
  next op vs p =>
  cases op <;> try simp only [chkE, Bool.false_eq_true] at h
  cases vs with
  | nil => simp only [chkE, Bool.false_eq_true] at h
  | cons x vs =>
  cases vs with
  | nil => simp only [chkE, Bool.false_eq_true] at h
  | cons y r =>
  simp only [chkE, Bool.and_eq_true] at h
  obtain ⟨hx, hy, h1, h2⟩ := h
  have x1 := i1 _ h1
  have x2 := i2 _ h2
  have pw : PW X (.BoolOp .And (x :: y :: r) p) (tT f Z (.andE m n)) := by
    refine PW.mono (pw_and (x1.pt hx) ?_) fun σ H Q => rT_and
    cases r with
    | nil => exact pw_and1 (x2.pt hy)
    | cons z r => exact x2.pw rfl
  have pe := PE.mono (pe_and (pos := p) x1.pe (strip_pe x2.pe)) fun σ H Q => r_and (f := f) (Z := Z)
  exact ⟨pe, fun _ => pw.pt, fun _ => pw, (fun _ z => nomatch z), asg_of a pe rfl⟩
theorem k_or (a : At wd T f k nm X) {m n : E} {e : Expr} (h : chkE T nm (.orE m n) e = true) (i1 : ∀ e, chkE T nm m e = true → E1 T f Z nm X m e) (i2 : ∀ e, chkE T nm n e = true → E1 T f Z nm X n e) : E1 T f Z nm X (.orE m n) e := by
  cases e <;> try simp only [chkE, Bool.false_eq_true] at h
  next op vs p =>
  cases op <;> try simp only [chkE, Bool.false_eq_true] at h
  cases vs with
  | nil => simp only [chkE, Bool.false_eq_true] at h
  | cons x vs =>
  cases vs with
  | nil => simp only [chkE, Bool.false_eq_true] at h
  | cons y r =>
  simp only [chkE, Bool.and_eq_true] at h
  obtain ⟨hx, hy, h1, h2⟩ := h
  have x1 := i1 _ h1
  have x2 := i2 _ h2
  have pw : PW X (.BoolOp .Or (x :: y :: r) p) (tT f Z (.orE m n)) := by
    refine PW.mono (pw_or (x1.pt hx) ?_) fun σ H Q => rT_or
    cases r with
    | nil => exact pw_or1 (x2.pt hy)
    | cons z r => exact x2.pw rfl
  have pe := PE.mono (pe_or (pos := p) x1.pe (strip_pe x2.pe)) fun σ H Q => r_or (f := f) (Z := Z)
  exact ⟨pe, fun _ => pw.pt, fun _ => pw, (fun _ z => nomatch z), asg_of a pe rfl⟩
theorem k_not (a : At wd T f k nm X) {m : E} {e : Expr} (h : chkE T nm (.notE m) e = true) (i1 : ∀ e, chkE T nm m e = true → E1 T f Z nm X m e) : E1 T f Z nm X (.notE m) e := by
  cases e <;> try simp only [chkE, Bool.false_eq_true] at h
  next op x p =>
  cases op <;> try simp only [chkE, Bool.false_eq_true] at h
  simp only [Bool.and_eq_true] at h
  have x1 := i1 _ h.2
  have pe := PE.mono (pe_not (pos := p) x1.pe) fun σ H Q => r_not (f := f) (Z := Z)
  exact ⟨pe, fun _ => PT.mono (pt_not (x1.pt h.1)) fun σ H Q => rT_not, (fun z => nomatch z), (fun _ z => nomatch z), asg_of a pe rfl⟩
theorem k_ife (a : At wd T f k nm X) {c m n : E} {e : Expr} (h : chkE T nm (.ife c m n) e = true) (i0 : ∀ e, chkE T nm c e = true → E1 T f Z nm X c e) (i1 : ∀ e, chkE T nm m e = true → E1 T f Z nm X m e) (i2 : ∀ e, chkE T nm n e = true → E1 T f Z nm X n e) : E1 T f Z nm X (.ife c m n) e := by
  cases e <;> try simp only [chkE, Bool.false_eq_true] at h
  next x y z p =>
  simp only [Bool.and_eq_true] at h
  obtain ⟨h0, h1, h2, h3⟩ := h
  have pe := PE.mono (pe_ifExp (pos := p) ((i0 _ h1).pt h0) (i1 _ h2).pe (i2 _ h3).pe) fun σ H Q => r_ife (f := f) (Z := Z)
  exact ⟨pe, (fun z => nomatch z), (fun z => nomatch z), (fun _ z => nomatch z), asg_of a pe rfl⟩
end
end Al
/-! A5n0: what is changed at a name. -/
namespace Al
open PySem L2

section
variable {wd : Wd} {T : Tab} {f : Fx} {k : Nat} {nm : Nms} {X : Cx} {Z : Far} {σ : St} {H H1 : Hp} {ρ : Env} {O O1 : Nat → List Addr} {S S1 : Addr → Prop} {N : Addr → Prop}
theorem killBo_get {ρ : Env} {j : Nat} {d : Al.D} {k : Kd} (h : (killBo ρ)[j]? = some (some (d, k))) : ρ[j]? = some (some (d, k)) ∧ k ≠ .bo := by
  unfold killBo at h
  rw [List.getElem?_map] at h
  cases e : ρ[j]? with
  | none => rw [e] at h; cases h
  | some o =>
    rw [e] at h
    simp only [Option.map_some, Option.some.injEq] at h
    cases o with
    | none => cases h
    | some p =>
      obtain ⟨d', k'⟩ := p
      cases k' with
      | bo => cases h
      | fr => simp only [keepBo, Option.some.injEq, Prod.mk.injEq] at h; obtain ⟨rfl, rfl⟩ := h; exact ⟨rfl, fun z => nomatch z⟩
      | st => simp only [keepBo, Option.some.injEq, Prod.mk.injEq] at h; obtain ⟨rfl, rfl⟩ := h; exact ⟨rfl, fun z => nomatch z⟩
theorem killBo_fr {ρ : Env} {j : Nat} {d : Al.D} (h : ρ[j]? = some (some (d, .fr))) : (killBo ρ)[j]? = some (some (d, .fr)) := by
  unfold killBo
  rw [List.getElem?_map, h]
  rfl
/-- the thing at a slot is changed -/
theorem Rel.chg (rel : Rel f σ H ρ O S) {i : Nat} {d0 d' : Al.D} {v0 : V} {H' : Hp} {F' : List Addr} (hl : look ρ i = some (d0, .fr)) (hv : σ[i]? = some (some v0)) (r : f.R H' [v0] [d'] F')
    (keep : ∀ b o, b ∉ O i → H b = some o → H' b = some o) (nd : F'.Nodup) (hF : ∀ b ∈ F', Mut (H' b) ∧ f.B b ∧ ¬ S b ∧ (b ∈ O i ∨ ∀ j, b ∉ O j)) :
    Rel f σ H' (killBo (ρ.set i (some (d', .fr)))) (fun j => if j = i then F' else O j) S := by
  have hlt : i < ρ.length := (List.getElem?_eq_some_iff.mp (look_some hl)).1
  refine ⟨?_, fun j d kk e => ?_, fun j a ha => ?_, fun j => ?_, fun j l a h1 h2 => ?_, fun a z => ?_, fun a o hb e => ?_⟩
  · unfold killBo
    rw [List.length_map, List.length_set]
    exact rel.len
  · obtain ⟨e, hk⟩ := killBo_get e
    by_cases hj : j = i
    · subst hj
      rw [List.getElem?_set_self hlt] at e
      simp only [Option.some.injEq, Prod.mk.injEq] at e
      obtain ⟨rfl, rfl⟩ := e
      exact ⟨v0, F', hv, r, fun a ha => f.hSB a (hF a ha).2.1, fun _ => by rw [if_pos rfl], fun z => nomatch z⟩
    · rw [List.getElem?_set_ne (fun z => hj z.symm)] at e
      obtain ⟨v, F, e1, r1, al, c1, c2⟩ := rel.slot j d kk e
      have hFo : ∀ a ∈ F, a ∉ O i := fun a ha z => by
        cases kk with
        | fr => rw [c1 rfl] at ha; exact hj (rel.dis j i a ha z)
        | st => exact (rel.own i a z).2.2.2 (c2 rfl a ha)
        | bo => exact hk rfl
      refine ⟨v, F, e1, R.keep r1 fun a o ha e => keep a o (fun z => ?_) e, al, fun z => by rw [if_neg hj]; exact c1 z, c2⟩
      rcases ha with ha | ha
      · exact hFo a ha z
      · refine ha ?_
        have := (rel.own i a z).2.1
        rwa [e] at this
  · by_cases hj : j = i
    · rw [if_pos hj] at ha
      subst hj
      obtain ⟨m, b, ns, _⟩ := hF a ha
      exact ⟨⟨d', killBo_fr (List.getElem?_set_self hlt)⟩, m, b, ns⟩
    · rw [if_neg hj] at ha
      obtain ⟨⟨d, e⟩, m, b, ns⟩ := rel.own j a ha
      refine ⟨⟨d, killBo_fr (by rw [List.getElem?_set_ne (fun z => hj z.symm)]; exact e)⟩, ?_, b, ns⟩
      cases e2 : H a with
      | none => rw [e2] at m; exact m.elim
      | some o =>
        rw [keep a o (fun z => hj (rel.dis j i a ha z)) e2, ← e2]
        exact m
  · by_cases hj : j = i
    · rw [if_pos hj]; exact nd
    · rw [if_neg hj]; exact rel.nod j
  · by_cases hj : j = i
    · by_cases hl2 : l = i
      · rw [hj, hl2]
      · rw [if_pos hj] at h1
        rw [if_neg hl2] at h2
        rcases (hF a h1).2.2.2 with z | z
        · exact absurd (rel.dis l i a h2 z) hl2
        · exact absurd h2 (z l)
    · rw [if_neg hj] at h1
      by_cases hl2 : l = i
      · rw [if_pos hl2] at h2
        rcases (hF a h2).2.2.2 with z | z
        · exact absurd (rel.dis j i a h1 z) hj
        · exact absurd h1 (z j)
      · rw [if_neg hl2] at h2
        exact rel.dis j l a h1 h2
  · obtain ⟨sb, o, e⟩ := rel.stb a z
    exact ⟨sb, o, keep a o (fun q => (rel.own i a q).2.2.2 z) e⟩
  · exact keep a o (fun q => hb (rel.own i a q).2.2.1) (rel.kept a o hb e)
theorem Stp.chg {O0 : Nat → List Addr} {H0 : Hp} {S0 : Addr → Prop} (s : Stp H0 O0 S0 H O S) {i : Nat} {H' : Hp} {F' : List Addr} (keep : ∀ b o, b ∉ O i → H b = some o → H' b = some o) (hF : ∀ b ∈ F', b ∈ O i ∨ New H0 O0 b) :
    Stp H0 O0 S0 H' (fun j => if j = i then F' else O j) S := by
  refine ⟨fun a o hn e => ?_, fun j a z => ?_, s.st', s.mono⟩
  · have e1 := s.keep a o hn e
    refine keep a o (fun z => ?_) e1
    rcases s.own' i a z with ⟨j, q⟩ | q
    · exact hn j q
    · rw [e] at q; cases q
  · by_cases hj : j = i
    · rw [if_pos hj] at z
      rcases hF a z with z | z
      · exact s.own' i a z
      · exact z
    · rw [if_neg hj] at z; exact s.own' j a z
/-- what stands in a list stays when the list itself is changed -/
theorem R.upd {vs : List V} {ds : List Al.D} {F : List Addr} {a : Addr} {xs : List V} {x : HO} (r : f.R H vs ds F) (hF : a ∉ F) (ha : H a = some (.lst xs)) : f.R (upd H a x) vs ds F := by
  refine R.keep r fun b o hb e => ?_
  rw [upd_ne (fun z => ?_)]
  · exact e
  · subst z
    rcases hb with hb | hb
    · exact hF hb
    · rw [ha] at e
      cases e
      exact hb trivial
/-- a list at a name gets its items anew -/
theorem Rel.setLst {O0 : Nat → List Addr} {H0 : Hp} {S0 : Addr → Prop} (s : Stp H0 O0 S0 H O S) (rel : Rel f σ H ρ O S) {i : Nat} {es es' : List Al.D} {a : Addr} {vs vs' : List V} {E E' : List Addr} (hl : look ρ i = some (.lst es, .fr)) (hv : σ[i]? = some (some (.ref a))) (ha : H a = some (.lst vs)) (hO : O i = a :: E)
    (r : f.R H vs' es' E') (hlen : vs'.length ≤ LINE) (nd : E'.Nodup) (hE : ∀ b ∈ E', b ≠ a ∧ Mut (H b) ∧ f.B b ∧ ¬ S b ∧ (b ∈ E ∨ ((∀ j, b ∉ O j) ∧ New H0 O0 b))) :
    Rel f σ (upd H a (.lst vs')) (killBo (ρ.set i (some (.lst es', .fr)))) (fun j => if j = i then a :: E' else O j) S ∧ Stp H0 O0 S0 (upd H a (.lst vs')) (fun j => if j = i then a :: E' else O j) S := by
  have hna : a ∉ E' := fun z => (hE a z).1 rfl
  have keep : ∀ b o, b ∉ O i → H b = some o → upd H a (.lst vs') b = some o := fun b o hn he => by
    rw [upd_ne (fun z => hn (by rw [hO, z]; exact List.mem_cons_self))]
    exact he
  have r' : f.R (upd H a (.lst vs')) [.ref a] [.lst es'] (a :: E') := by
    simpa using R.lst (vs := []) (ds := []) (F := []) upd_same hlen (R.upd r hna ha) .nil
  refine ⟨rel.chg hl hv r' keep (List.nodup_cons.mpr ⟨hna, nd⟩) fun b hb => ?_, s.chg keep fun b hb => ?_⟩
  · rcases List.mem_cons.mp hb with rfl | hb
    · have o := rel.own i b (by rw [hO]; exact List.mem_cons_self)
      exact ⟨by rw [upd_same]; trivial, o.2.2.1, o.2.2.2, .inl (by rw [hO]; exact List.mem_cons_self)⟩
    · obtain ⟨hne, m, bb, ns, q⟩ := hE b hb
      refine ⟨by rw [upd_ne hne]; exact m, bb, ns, ?_⟩
      rcases q with q | q
      · exact .inl (by rw [hO]; exact List.mem_cons_of_mem _ q)
      · exact .inr q.1
  · rcases List.mem_cons.mp hb with rfl | hb
    · exact .inl (by rw [hO]; exact List.mem_cons_self)
    · rcases (hE b hb).2.2.2.2 with q | q
      · exact .inl (by rw [hO]; exact List.mem_cons_of_mem _ q)
      · exact .inr q.2
theorem lens_var {i : Nat} {r : Nat} {d : Al.D} {put : Al.D → Al.D} (h : lensE Z (.var i) ρ = some (r, d, put)) : r = i ∧ look ρ i = some (d, .fr) ∧ put = fun x => x := by
  simp only [lensE] at h
  split at h
  · next d' e =>
    simp only [Option.some.injEq, Prod.mk.injEq] at h
    obtain ⟨rfl, rfl, rfl⟩ := h
    exact ⟨rfl, e, rfl⟩
  · cases h
theorem slot_lst (rel : Rel f σ H ρ O S) {i : Nat} {es : List Al.D} (hl : look ρ i = some (.lst es, .fr)) : ∃ a vs E, σ[i]? = some (some (.ref a)) ∧ H a = some (.lst vs) ∧ vs.length ≤ LINE ∧ f.R H vs es E ∧ O i = a :: E := by
  obtain ⟨v, F, e1, r, al, c1, c2⟩ := rel.slot i _ _ (look_some hl)
  obtain ⟨a, vs, E, rfl, ea, la, r1, rfl⟩ := R.lst' r
  exact ⟨a, vs, E, e1, ea, la, r1, (c1 rfl).symm⟩
end
end Al
/-! A6a: a part of a thing of the frame's own, and its change. -/
namespace Al
open PySem L2

section
variable {wd : Wd} {T : Tab} {f : Fx} {k : Nat} {nm : Nms} {X : Cx} {Z : Far} {σ : St} {H H1 : Hp} {ρ : Env} {O O1 : Nat → List Addr} {S S1 : Addr → Prop} {N : Addr → Prop}
/-- the part v, which is d, of what stands at the slot r: F its places, A and B those around -/
structure LensAt (f : Fx) (σ : St) (H : Hp) (O : Nat → List Addr) (r : Nat) (v : V) (d : Al.D) (put : Al.D → Al.D) (A F B : List Addr) : Prop where
  own : O r = A ++ (F ++ B)
  nd : (A ++ (F ++ B)).Nodup
  mu : ∀ b ∈ A ++ (F ++ B), Mut (H b)
  rr : f.R H [v] [d] F
  put : ∃ v0, σ[r]? = some (some v0) ∧ ∀ H' d' F', f.R H' [v] [d'] F' → (∀ b o, b ∉ F → H b = some o → H' b = some o) → f.R H' [v0] [put d'] (A ++ (F' ++ B))
theorem mut_ext (x : Ext H H1) {b : Addr} (m : Mut (H b)) : Mut (H1 b) := by
  cases e : H b with
  | none => rw [e] at m; exact m.elim
  | some o => rw [x b o e]; rw [e] at m; exact m
theorem LensAt.ext {r : Nat} {v : V} {d : Al.D} {put : Al.D → Al.D} {A F B : List Addr} (l : LensAt f σ H O r v d put A F B) (x : Ext H H1) : LensAt f σ H1 O r v d put A F B := by
  obtain ⟨v0, e, h⟩ := l.put
  exact ⟨l.own, l.nd, fun b hb => (mut_ext x (l.mu b hb)), R.ext l.rr x, v0, e, fun H' d' F' r' q => h H' d' F' r' fun b o hb e => q b o hb (x b o e)⟩
theorem LensAt.var (rel : Rel f σ H ρ O S) {i : Nat} {d : Al.D} (h : look ρ i = some (d, .fr)) : ∃ v, σ[i]? = some (some v) ∧ LensAt f σ H O i v d (fun x => x) [] (O i) [] := by
  obtain ⟨v, F, e, r, al, c1, c2⟩ := rel.slot i d .fr (look_some h)
  obtain rfl := c1 rfl
  refine ⟨v, e, by simp, by simpa using rel.nod i, fun b hb => (rel.own i b (by simpa using hb)).2.1, r, v, e, fun H' d' F' r' _ => by simpa using r'⟩
/-- items set anew -/
theorem R.setAt {vs : List V} {ds : List Al.D} {E : List Addr} {i : Nat} {d : Al.D} (h : f.R H vs ds E) (e : ds[i]? = some d) : ∃ v A F B, vs[i]? = some v ∧ E = A ++ (F ++ B) ∧ f.R H [v] [d] F ∧
    ∀ H' d' F', f.R H' [v] [d'] F' → (∀ b o, (b ∈ A ∨ b ∈ B ∨ ¬ Mut (some o)) → H b = some o → H' b = some o) → f.R H' vs (ds.set i d') (A ++ (F' ++ B)) := by
  obtain ⟨v, A, F, B, e1, e2, r1, r2, r3⟩ := h.at e
  refine ⟨v, A, F, B, e1, e2, r1, fun H' d' F' r' q => ?_⟩
  have hv : i < vs.length := (List.getElem?_eq_some_iff.mp e1).1
  have hd : i < ds.length := (List.getElem?_eq_some_iff.mp e).1
  have k2 : f.R H' (vs.take i) (ds.take i) A := R.keep r2 fun b o hb e => q b o (hb.imp id .inr) e
  have k3 : f.R H' (vs.drop (i + 1)) (ds.drop (i + 1)) B := R.keep r3 fun b o hb e => q b o (hb.elim (fun z => .inr (.inl z)) fun z => .inr (.inr z)) e
  have key := k2.app (r'.app k3)
  have ev : vs.take i ++ ([v] ++ vs.drop (i + 1)) = vs := by
    have : vs[i] = v := by rw [List.getElem?_eq_getElem hv] at e1; exact Option.some.inj e1
    rw [← this]
    simp
  have ed : ds.take i ++ ([d'] ++ ds.drop (i + 1)) = ds.set i d' := by
    rw [List.set_eq_take_append_cons_drop, if_pos hd]
    rfl
  rw [ev, ed] at key
  exact key
theorem nodup_mid {A F B : List Addr} (h : (A ++ (F ++ B)).Nodup) : (∀ b ∈ A, b ∉ F) ∧ (∀ b ∈ B, b ∉ F) ∧ F.Nodup := by
  obtain ⟨h1, h2, h3⟩ := List.nodup_append.mp h
  obtain ⟨h4, h5, h6⟩ := List.nodup_append.mp h2
  exact ⟨fun b hb hf => h3 b hb b (List.mem_append_left _ hf) rfl, fun b hb hf => h6 b hf b hb rfl, h4⟩
/-- an item of a list that is a part -/
theorem LensAt.lst {r : Nat} {v : V} {es : List Al.D} {put : Al.D → Al.D} {A F B : List Addr} (l : LensAt f σ H O r v (.lst es) put A F B) {j : Nat} {x : Al.D} (e : es[j]? = some x) :
    ∃ a vs w A' F' B', v = .ref a ∧ H a = some (.lst vs) ∧ vs[j]? = some w ∧ vs.length ≤ LINE ∧ es.length = vs.length ∧ LensAt f σ H O r w x (fun y => put (.lst (es.set j y))) A' F' B' := by
  obtain ⟨a, vs, E, rfl, ea, la, r1, rfl⟩ := l.rr.lst'
  obtain ⟨w, A2, F2, B2, e1, rfl, r2, q⟩ := r1.setAt e
  obtain ⟨v0, e0, h⟩ := l.put
  obtain ⟨n1, n2, n3⟩ := nodup_mid l.nd
  have e3 : A ++ (a :: (A2 ++ (F2 ++ B2)) ++ B) = (A ++ a :: A2) ++ (F2 ++ (B2 ++ B)) := by simp [List.append_assoc]
  have nd' : ((A ++ a :: A2) ++ (F2 ++ (B2 ++ B))).Nodup := by rw [← e3]; exact l.nd
  obtain ⟨m1, m2, m3⟩ := nodup_mid nd'
  refine ⟨a, vs, w, A ++ a :: A2, F2, B2 ++ B, rfl, ea, e1, la, r1.length.symm, by rw [l.own, e3], nd', (by rw [← e3]; exact l.mu), r2, v0, e0, fun H' d' F' r' k => ?_⟩
  have ha : H' a = some (.lst vs) := k a _ (fun z => m1 a (by simp) z) ea
  have key := h H' (.lst (es.set j d')) (a :: (A2 ++ (F' ++ B2))) (by
    have := R.lst (w := f.w) (K := f.K) (cad := f.cad) (vs := []) (ds := []) (F := []) ha la (q H' d' F' r' fun b o hb e => ?_) .nil
    · simpa using this
    · refine k b o (fun z => ?_) e
      rcases hb with hb | hb | hb
      · exact m1 b (by simp [hb]) z
      · exact m2 b (by simp [hb]) z
      · refine hb ?_
        have := l.mu b (by rw [e3]; simp [z])
        rwa [e] at this) fun b o hb e => k b o (fun z => hb (by simp [z])) e
  simpa [List.append_assoc] using key
/-- a part of a tuple -/
theorem LensAt.tup {r : Nat} {v : V} {es : List Al.D} {put : Al.D → Al.D} {A F B : List Addr} (l : LensAt f σ H O r v (.tup es) put A F B) {j : Nat} {x : Al.D} (e : es[j]? = some x) :
    ∃ a vs w A' F' B', v = .ref a ∧ SqT f.K H a vs ∧ vs[j]? = some w ∧ es.length = vs.length ∧ LensAt f σ H O r w x (fun y => put (.tup (es.set j y))) A' F' B' := by
  obtain ⟨a, vs, rfl, ea, la, r1⟩ := l.rr.tup'
  obtain ⟨w, A2, F2, B2, e1, rfl, r2, q⟩ := r1.setAt e
  obtain ⟨v0, e0, h⟩ := l.put
  have e3 : A ++ (A2 ++ (F2 ++ B2) ++ B) = (A ++ A2) ++ (F2 ++ (B2 ++ B)) := by simp [List.append_assoc]
  have nd' : ((A ++ A2) ++ (F2 ++ (B2 ++ B))).Nodup := by rw [← e3]; exact l.nd
  obtain ⟨m1, m2, m3⟩ := nodup_mid nd'
  refine ⟨a, vs, w, A ++ A2, F2, B2 ++ B, rfl, ea, e1, r1.length.symm, by rw [l.own, e3], nd', (by rw [← e3]; exact l.mu), r2, v0, e0, fun H' d' F' r' k => ?_⟩
  have ki : ∀ b o, ¬ Mut (some o) → H b = some o → H' b = some o := fun b o hb e => k b o (fun z => by
    have := l.mu b (by rw [e3]; simp [z])
    rw [e] at this
    exact hb this) e
  have ha : SqT f.K H' a vs := by
    rcases ea with (ea | ⟨o, ea⟩) | ea
    · exact .inl (.inl (ki _ _ (fun z => z) ea))
    · exact .inl (.inr ⟨o, ki _ _ (fun z => z) ea⟩)
    · exact .inr ea
  have key := h H' (.tup (es.set j d')) (A2 ++ (F' ++ B2)) (by
    have := R.tup (w := f.w) (K := f.K) (cad := f.cad) (vs := []) (ds := []) (F := []) ha la (q H' d' F' r' fun b o hb e => ?_) .nil
    · simpa using this
    · rcases hb with hb | hb | hb
      · exact k b o (fun z => m1 b (by simp [hb]) z) e
      · exact k b o (fun z => m2 b (by simp [hb]) z) e
      · exact ki b o hb e) fun b o hb e => k b o (fun z => hb (by simp [z])) e
  simpa [List.append_assoc] using key
theorem getF_at {g : Nat} {x : Al.D} : ∀ {es : List (Nat × Al.D)}, getF es g = some x → ∃ i, es[i]? = some (g, x) ∧ (∀ y, putF g y es = es.set i (g, y)) ∧ ∀ (m : Nat) (p : Nat × Al.D), m < i → es[m]? = some p → p.1 ≠ g
  | [], h => by cases h
  | (g', d') :: r, h => by
    by_cases hg : g = g'
    · subst hg
      simp only [getF, if_true, Option.some.injEq] at h
      subst h
      exact ⟨0, rfl, fun y => by simp [putF], fun m p hm => absurd hm (Nat.not_lt_zero m)⟩
    · simp only [getF, hg, if_false] at h
      obtain ⟨i, h1, h2, h3⟩ := getF_at h
      refine ⟨i + 1, by simpa using h1, fun y => by simp [putF, Ne.symm hg, h2], fun m p hm e => ?_⟩
      cases m with
      | zero => simp only [List.getElem?_cons_zero, Option.some.injEq] at e; rw [← e]; exact fun z => hg z.symm
      | succ m => exact h3 m p (by omega) (by simpa using e)
/-- an attribute that is a part -/
theorem LensAt.obj {r : Nat} {v : V} {c : Nat} {es : List (Nat × Al.D)} {put : Al.D → Al.D} {A F B : List Addr} (l : LensAt f σ H O r v (.obj c es) put A F B) {g : Nat} {x : Al.D} (e : getF es g = some x) :
    ∃ a dx fs i w A' F' B', v = .ref a ∧ H a = some (.ins (f.cad c) dx fs) ∧ fs.map (·.1) = es.map (fun p => fname p.1) ∧ es[i]? = some (g, x) ∧ fs[i]? = some (fname g, w) ∧ (∀ (m : Nat) (p : Nat × Al.D), m < i → es[m]? = some p → p.1 ≠ g) ∧ (es.all fun p => decide (p.1 ≤ 7)) = true ∧ LensAt f σ H O r w x (fun y => put (.obj c (putF g y es))) A' F' B' := by
  obtain ⟨i, h1, h2, h3⟩ := getF_at e
  obtain ⟨a, dx, fs, E, rfl, ea, hn, h7, r1, rfl⟩ := l.rr.obj'
  have e' : (es.map (·.2))[i]? = some x := by rw [List.getElem?_map, h1]; rfl
  obtain ⟨w, A2, F2, B2, e1, rfl, r2, q⟩ := r1.setAt e'
  obtain ⟨v0, e0, h⟩ := l.put
  have e3 : A ++ (a :: (A2 ++ (F2 ++ B2)) ++ B) = (A ++ a :: A2) ++ (F2 ++ (B2 ++ B)) := by simp [List.append_assoc]
  have nd' : ((A ++ a :: A2) ++ (F2 ++ (B2 ++ B))).Nodup := by rw [← e3]; exact l.nd
  obtain ⟨m1, m2, m3⟩ := nodup_mid nd'
  have hfs : fs[i]? = some (fname g, w) := by
    have hk : (fs.map (·.1))[i]? = some (fname g) := by rw [hn, List.getElem?_map, h1]; rfl
    rw [List.getElem?_map] at hk e1
    cases hx : fs[i]? with
    | none => rw [hx] at hk; cases hk
    | some p =>
      rw [hx] at hk e1
      simp only [Option.map_some, Option.some.injEq] at hk e1
      rw [← hk, ← e1]
  refine ⟨a, dx, fs, i, w, A ++ a :: A2, F2, B2 ++ B, rfl, ea, hn, h1, hfs, h3, h7, by rw [l.own, e3], nd', (by rw [← e3]; exact l.mu), r2, v0, e0, fun H' d' F' r' k => ?_⟩
  have ha : H' a = some (.ins (f.cad c) dx fs) := k a _ (fun z => m1 a (by simp) z) ea
  have key := h H' (.obj c (putF g d' es)) (a :: (A2 ++ (F' ++ B2))) (by
    have hi : i < es.length := (List.getElem?_eq_some_iff.mp h1).1
    have hm : es.map (fun p => fname p.1) = (putF g d' es).map fun p => fname p.1 := by
      rw [h2]
      apply List.ext_getElem?
      intro m
      rw [List.getElem?_map, List.getElem?_map, List.getElem?_set]
      by_cases hmi : i = m
      · subst hmi
        rw [h1, if_pos rfl, if_pos hi]
        rfl
      · rw [if_neg hmi]
    have hv : (putF g d' es).map (·.2) = (es.map (·.2)).set i d' := by rw [h2, List.map_set]
    have h7' : ((putF g d' es).all fun p => decide (p.1 ≤ 7)) = true := by
      rw [h2, List.all_eq_true]
      intro p hp
      rw [List.all_eq_true] at h7
      rcases List.mem_or_eq_of_mem_set hp with hp | rfl
      · exact h7 p hp
      · exact h7 (g, x) (List.mem_of_getElem? h1)
    have hq := q H' d' F' r' fun b o hb e => by
      refine k b o (fun z => ?_) e
      rcases hb with hb | hb | hb
      · exact m1 b (by simp [hb]) z
      · exact m2 b (by simp [hb]) z
      · refine hb ?_
        have := l.mu b (by rw [e3]; simp [z])
        rwa [e] at this
    rw [← hv] at hq
    have := R.obj (w := f.w) (K := f.K) (cad := f.cad) (vs := []) (ds := []) (F := []) ha (hn.trans hm) h7' hq .nil
    simpa using this) fun b o hb e => k b o (fun z => hb (by simp [z])) e
  simpa [List.append_assoc] using key
/-- the part itself, a thing at p, is changed -/
theorem Rel.lens {O0 : Nat → List Addr} {H0 : Hp} {S0 : Addr → Prop} (s : Stp H0 O0 S0 H O S) (rel : Rel f σ H ρ O S) {r : Nat} {v : V} {d dr d' : Al.D} {put : Al.D → Al.D} {A B : List Addr} {p : Addr} {E E' : List Addr} (l : LensAt f σ H O r v d put A (p :: E) B) (hl : look ρ r = some (dr, .fr)) {x : HO} (hx : Mut (some x))
    (r' : f.R (upd H p x) [v] [d'] (p :: E')) (nd : E'.Nodup) (hE : ∀ b ∈ E', b ≠ p ∧ Mut (H b) ∧ f.B b ∧ ¬ S b ∧ (b ∈ E ∨ ((∀ j, b ∉ O j) ∧ New H0 O0 b))) :
    Rel f σ (upd H p x) (killBo (ρ.set r (some (put d', .fr)))) (fun j => if j = r then A ++ (p :: E' ++ B) else O j) S ∧ Stp H0 O0 S0 (upd H p x) (fun j => if j = r then A ++ (p :: E' ++ B) else O j) S := by
  have hO := l.own
  have keep : ∀ b o, b ∉ O r → H b = some o → upd H p x b = some o := fun b o hn he => by
    rw [upd_ne (fun z => hn (by rw [hO, z]; simp))]
    exact he
  obtain ⟨v0, e0, h⟩ := l.put
  have rr := h (upd H p x) d' (p :: E') r' fun b o hb e => by
    rw [upd_ne (fun z => hb (by rw [z]; exact List.mem_cons_self))]
    exact e
  have hA : ∀ b, b ∈ A ∨ b ∈ B → b ≠ p ∧ b ∉ E' := fun b hb => by
    have hin : b ∈ O r := by rw [hO]; rcases hb with hb | hb <;> simp [hb]
    have hnd := l.nd
    have hne : b ∉ p :: E := by
      obtain ⟨m1, m2, _⟩ := nodup_mid hnd
      rcases hb with hb | hb
      · exact m1 b hb
      · exact m2 b hb
    refine ⟨fun z => hne (by rw [z]; exact List.mem_cons_self), fun z => ?_⟩
    rcases (hE b z).2.2.2.2 with q | q
    · exact hne (List.mem_cons_of_mem _ q)
    · exact q.1 r hin
  have ndE : (p :: E').Nodup := List.nodup_cons.mpr ⟨fun z => (hE p z).1 rfl, nd⟩
  have ndF : (A ++ (p :: E' ++ B)).Nodup := by
    obtain ⟨h1, h2, h3⟩ := List.nodup_append.mp l.nd
    obtain ⟨h4, h5, h6⟩ := List.nodup_append.mp h2
    refine List.nodup_append.mpr ⟨h1, List.nodup_append.mpr ⟨ndE, h5, fun b hb c hc e => ?_⟩, fun b hb c hc e => ?_⟩
    · subst e
      rcases List.mem_cons.mp hb with rfl | hb
      · exact (hA b (.inr hc)).1 rfl
      · exact (hA b (.inr hc)).2 hb
    · subst e
      rcases List.mem_append.mp hc with hc | hc
      · rcases List.mem_cons.mp hc with rfl | hc
        · exact (hA b (.inl hb)).1 rfl
        · exact (hA b (.inl hb)).2 hc
      · exact h3 b hb b (List.mem_append_right _ hc) rfl
  have hin : ∀ b ∈ A ++ (p :: E' ++ B), b ∈ O r ∨ (b ∈ E' ∧ (∀ j, b ∉ O j) ∧ New H0 O0 b) := fun b hb => by
    simp only [List.mem_append, List.mem_cons] at hb
    rcases hb with hb | (rfl | hb) | hb
    · exact .inl (by rw [hO]; simp [hb])
    · exact .inl (by rw [hO]; simp)
    · rcases (hE b hb).2.2.2.2 with q | q
      · exact .inl (by rw [hO]; simp [q])
      · exact .inr ⟨hb, q⟩
    · exact .inl (by rw [hO]; simp [hb])
  refine ⟨rel.chg hl e0 rr keep ndF fun b hb => ?_, s.chg keep fun b hb => ?_⟩
  · rcases hin b hb with q | ⟨q1, q2, q3⟩
    · have o := rel.own r b q
      refine ⟨?_, o.2.2.1, o.2.2.2, .inl q⟩
      by_cases hbp : b = p
      · rw [hbp, upd_same]; exact hx
      · rw [upd_ne hbp]; exact o.2.1
    · obtain ⟨hne, m, bb, ns, _⟩ := hE b q1
      exact ⟨by rw [upd_ne hne]; exact m, bb, ns, .inr q2⟩
  · rcases hin b hb with q | ⟨_, _, q3⟩
    · exact .inl q
    · exact .inr q3
end
end Al
/-! A6b: items put into a part; the reading of a part. -/
namespace Al
open PySem L2

section
variable {wd : Wd} {T : Tab} {f : Fx} {k : Nat} {nm : Nms} {X : Cx} {Z : Far} {σ : St} {H H1 : Hp} {ρ : Env} {O O1 : Nat → List Addr} {S S1 : Addr → Prop} {N : Addr → Prop}
/-- places that may be taken over -/
def FrOk (f : Fx) (H : Hp) (O : Nat → List Addr) (S N : Addr → Prop) (F : List Addr) : Prop := F.Nodup ∧ ∀ b ∈ F, Mut (H b) ∧ f.B b ∧ ¬ S b ∧ N b ∧ ∀ i, b ∉ O i
theorem FrOk.nil : FrOk f H O S N [] := ⟨List.nodup_nil, fun _ z => nomatch z⟩
theorem Tm.frOk {v : V} {d : Al.D} {kk : Kd} {F : List Addr} (t : Tm f N H O S v d kk F) (h : flat d = true ∨ kk = .fr) : FrOk f H O S N F := by
  rcases h with h | h
  · rw [R.flat t.r h]; exact FrOk.nil
  · exact t.fr h
/-- the part's items anew: some of them go, what comes is taken over -/
theorem Rel.lensI {O0 : Nat → List Addr} {H0 : Hp} {S0 : Addr → Prop} (s : Stp H0 O0 S0 H O S) (rel : Rel f σ H ρ O S) {r : Nat} {v : V} {d dr d' : Al.D} {put : Al.D → Al.D} {A B : List Addr} {p : Addr} {A2 F0 B2 F : List Addr} (l : LensAt f σ H O r v d put A (p :: (A2 ++ (F0 ++ B2))) B) (hl : look ρ r = some (dr, .fr)) {x : HO} (hx : Mut (some x))
    (hF : FrOk f H O S (New H0 O0) F) (r' : f.R (upd H p x) [v] [d'] (p :: (A2 ++ (F ++ B2)))) :
    Rel f σ (upd H p x) (killBo (ρ.set r (some (put d', .fr)))) (fun j => if j = r then A ++ (p :: (A2 ++ (F ++ B2)) ++ B) else O j) S ∧ Stp H0 O0 S0 (upd H p x) (fun j => if j = r then A ++ (p :: (A2 ++ (F ++ B2)) ++ B) else O j) S := by
  obtain ⟨_, _, nd⟩ := nodup_mid l.nd
  obtain ⟨n1, n2⟩ := List.nodup_cons.mp nd
  obtain ⟨m1, m2, m3⟩ := List.nodup_append.mp n2
  obtain ⟨m4, m5, m6⟩ := List.nodup_append.mp m2
  have hin : ∀ b, b ∈ A2 ∨ b ∈ B2 → b ∈ O r := fun b hb => by
    rw [l.own]
    rcases hb with hb | hb <;> simp [hb]
  refine rel.lens s l hl hx r' (List.nodup_append.mpr ⟨m1, List.nodup_append.mpr ⟨hF.1, m5, fun b hb c hc e => ?_⟩, fun b hb c hc e => ?_⟩) fun b hb => ?_
  · subst e
    exact (hF.2 b hb).2.2.2.2 r (hin b (.inr hc))
  · subst e
    rcases List.mem_append.mp hc with hc | hc
    · exact (hF.2 b hc).2.2.2.2 r (hin b (.inl hb))
    · exact m3 b hb b (List.mem_append_right _ hc) rfl
  · have old : b ∈ A2 ∨ b ∈ B2 → b ≠ p ∧ Mut (H b) ∧ f.B b ∧ ¬ S b ∧ (b ∈ A2 ++ (F0 ++ B2) ∨ ((∀ j, b ∉ O j) ∧ New H0 O0 b)) := fun hb => by
      have o := rel.own r b (hin b hb)
      have hE : b ∈ A2 ++ (F0 ++ B2) := by rcases hb with hb | hb <;> simp [hb]
      exact ⟨fun z => n1 (z ▸ hE), o.2.1, o.2.2.1, o.2.2.2, .inl hE⟩
    simp only [List.mem_append] at hb
    rcases hb with hb | hb | hb
    · exact old (.inl hb)
    · obtain ⟨m, bb, ns, n, no⟩ := hF.2 b hb
      exact ⟨fun z => no r (by rw [l.own, z]; simp), m, bb, ns, .inr ⟨no, n⟩⟩
    · exact old (.inr hb)
/-- .. over a heap where something of the frame's own, not among these, is changed -/
theorem R.updM {vs : List V} {ds : List Al.D} {F : List Addr} {a : Addr} {x y : HO} (r : f.R H vs ds F) (hF : a ∉ F) (ha : H a = some y) (hm : Mut (some y)) : f.R (L2.upd H a x) vs ds F := by
  refine R.keep r fun b o hb e => ?_
  rw [upd_ne (fun z => ?_)]
  · exact e
  · subst z
    rcases hb with hb | hb
    · exact hF hb
    · rw [ha] at e
      cases e
      exact hb hm

/-! ### the reading of a part -/
/-- what a piece that names a part comes to: the part itself -/
def tLn (f : Fx) (Z : Far) (o : E) : TE := fun σ H Q => ∃ ρ O S r d put, Rel f σ H ρ O S ∧ lensE Z o ρ = some (r, d, put) ∧
  ∀ v H1 S1 A F B dr, Rel f σ H1 ρ O S1 → Stp H O S H1 O S1 → Ext H H1 → look ρ r = some (dr, .fr) → LensAt f σ H1 O r v d put A F B → Q v H1
inductive Lv : E → Prop
  | var (i : Nat) : Lv (.var i)
  | attr {g : Nat} {o : E} : Lv o → Lv (.attr g o)
  | idx {o e : E} : Lv o → e.eff = false → Lv (.prim .idx (.cons o (.cons e .nil)))
theorem lv_of {o : E} (h : lvOk o = true) : Lv o := by
  fun_induction lvOk o
  · exact .var _
  · next ih => exact .attr (ih h)
  · next ih => simp only [Bool.and_eq_true, Bool.not_eq_true'] at h; exact .idx (ih h.1) h.2
  · cases h
theorem lens_root {Z : Far} {o : E} (hv : Lv o) : ∀ {ρ : Env} {r : Nat} {d : Al.D} {put : Al.D → Al.D}, lensE Z o ρ = some (r, d, put) → ∃ dr, look ρ r = some (dr, .fr) := by
  induction hv with
  | var i =>
    intro ρ r d put h
    obtain ⟨rfl, h, _⟩ := lens_var h
    exact ⟨_, h⟩
  | attr _ ih =>
    intro ρ r d put h
    simp only [lensE] at h
    split at h
    · next i c fs put' e =>
      simp only [Option.map_eq_some_iff, Prod.mk.injEq] at h
      obtain ⟨x, _, rfl, rfl, rfl⟩ := h
      exact ih e
    · cases h
  | idx _ he ih =>
    intro ρ r d put h
    simp only [lensE, he, Bool.false_eq_true, if_false] at h
    split at h
    · next i xs put' e1 =>
      split at h
      · simp only [Option.bind_eq_some_iff, Option.map_eq_some_iff, Prod.mk.injEq] at h
        obtain ⟨j, _, x, _, rfl, rfl, rfl⟩ := h
        exact ih e1
      · cases h
    · next i xs put' e1 =>
      split at h
      · simp only [Option.bind_eq_some_iff, Option.map_eq_some_iff, Prod.mk.injEq] at h
        obtain ⟨j, _, x, _, rfl, rfl, rfl⟩ := h
        exact ih e1
      · cases h
    · cases h
theorem tLn_var {i : Nat} {Q : VK} (h : tLn f Z (.var i) σ H Q) : tVar i σ H Q := by
  obtain ⟨ρ, O, S, r, d, put, rel, e, q⟩ := h
  obtain ⟨rfl, hl, rfl⟩ := lens_var e
  obtain ⟨v, ev, l⟩ := LensAt.var rel hl
  exact ⟨v, ev, q v H S _ _ _ d rel Stp.refl (Ext.refl H) hl l⟩
/-- an item -/
theorem tLn_idx {o e : E} (he : e.eff = false) {Q : VK} (hK : X.K = f.K) (h : tLn f Z (.prim .idx (.cons o (.cons e .nil))) σ H Q) : tOp (fun x y H Q => rIxL X.K x y H Q ∨ rIxT X.K x y H Q) (tLn f Z o) (tE f Z e) σ H Q := by
  obtain ⟨ρ, O, S, r, d, put, rel, h1, q⟩ := h
  simp only [lensE, he, Bool.false_eq_true, if_false] at h1
  split at h1
  · next i xs put' e1 =>
    split at h1
    · next n _ _ e2 =>
      simp only [Option.bind_eq_some_iff, Option.map_eq_some_iff, Prod.mk.injEq] at h1
      obtain ⟨j, hj, x, hx, rfl, rfl, rfl⟩ := h1
      refine ⟨ρ, O, S, i, .lst xs, put', rel, e1, fun v H1 S1 A F B dr rel1 s1 x1 hl l => ?_⟩
      refine ⟨ρ, O, S1, .int n, _, _, rel1, e2, fun w H2 O2 S2 F2 rel2 s2 t2 w2 => ?_⟩
      obtain ⟨x2, rfl, rfl⟩ := w2 he
      obtain ⟨rfl, _⟩ := R.int t2.r
      obtain ⟨a, vs, u, A', F', B', rfl, ea, eu, la, el, l'⟩ := (l.ext x2).lst hx
      refine .inl ⟨a, vs, n, u, rfl, rfl, SqL.of ea, ?_, q u H2 S2 A' F' B' dr rel2 (s1.trans s2) (x1.trans x2) hl l'⟩
      unfold L2.atI
      rw [← el, ← ixI_eq, hj]
      exact eu
    · cases h1
  · next i xs put' e1 =>
    split at h1
    · next n _ _ e2 =>
      simp only [Option.bind_eq_some_iff, Option.map_eq_some_iff, Prod.mk.injEq] at h1
      obtain ⟨j, hj, x, hx, rfl, rfl, rfl⟩ := h1
      refine ⟨ρ, O, S, i, .tup xs, put', rel, e1, fun v H1 S1 A F B dr rel1 s1 x1 hl l => ?_⟩
      refine ⟨ρ, O, S1, .int n, _, _, rel1, e2, fun w H2 O2 S2 F2 rel2 s2 t2 w2 => ?_⟩
      obtain ⟨x2, rfl, rfl⟩ := w2 he
      obtain ⟨rfl, _⟩ := R.int t2.r
      obtain ⟨a, vs, u, A', F', B', rfl, ea, eu, el, l'⟩ := (l.ext x2).tup hx
      refine .inr ⟨a, vs, n, u, rfl, rfl, by rw [hK]; exact ea, ?_, q u H2 S2 A' F' B' dr rel2 (s1.trans s2) (x1.trans x2) hl l'⟩
      unfold L2.atI
      rw [← el, ← ixI_eq, hj]
      exact eu
    · cases h1
  · cases h1
theorem ix_part : IxR X (fun x y H Q => rIxL X.K x y H Q ∨ rIxT X.K x y H Q) := by
  intro value slice pins s σ H x y v u Q I rx ry h hs
  rcases h with h | h
  · exact ix_list value slice pins s σ H x y v u Q I rx ry h hs
  · exact ix_tup value slice pins s σ H x y v u Q I rx ry h hs
end
end Al
/-! A5e: operations. -/
namespace Al
open PySem L2

section
variable {wd : Wd} {T : Tab} {f : Fx} {k : Nat} {nm : Nms} {X : Cx} {Z : Far}
theorem cmp_ok (a : At wd T f k nm X) {p : Pr} {op : CmpOp} (hb : cmpOf p = some op) : OpR X (compareOp op) (fun x y => rPr f p [x, y]) := by
  have hu := a.hu
  cases p <;> simp only [cmpOf, Option.some.injEq, reduceCtorEq] at hb <;> subst hb
  · exact o_eq a.K (by omega)
  · exact o_ne a.K (by omega)
  · exact o_lt a.K (by omega)
  · exact o_le a.K (by omega)
  · exact o_gt
  · exact o_ge
  · exact o_isin a.K a.w (by omega)
  · exact o_notin a.K a.w (by omega)
/-- a comparison -/
theorem k_cmp (a : At wd T f k nm X) {p : Pr} {es : Es} {op : CmpOp} {x y : Expr} {pos : Pos} {r : R2} (ho : OpR X (compareOp op) r) (hm : behindInMarks op y = false) {tx ty : TE} (px : PE X x tx) (py : PE X y ty)
    (h : ∀ σ H Q, tE f Z (.prim p es) σ H Q → tOp r tx ty σ H Q) : E1 T f Z nm X (.prim p es) (.Compare x [op] [y] pos) := by
  have pe : PE X (.Compare x [op] [y] pos) (tE f Z (.prim p es)) := PE.mono (pe_cmpR ho px py hm) h
  refine ⟨pe, fun _ => PT.mono (pt_cmpR ho px py hm) fun σ H Q q => h _ _ _ q, (fun z => nomatch z), (fun _ z => nomatch z), asg_of a pe rfl⟩
/-- a call of a builtin -/
theorem k_callB (a : At wd T f k nm X) {p : Pr} {es : Es} {x : Str} {xp pos : Pos} {as : List Expr} {id : String} (hc : CallR X (.builtin id) (fun vs => rPr f p vs)) (hg : Gl X x) (hm : X.mg x = none) (hv : bootBuiltins x = some (.builtin id)) (hx : x ≠ "__name__") (hd : (x == ("__debug__" : Str)) = false)
    (hn : es.noRef = true) (h : Es1 T f Z nm X es as) (hs : (as.all noStar) = true) (h0 : as ≠ []) : PE X (.Call (.Name x xp) as [] pos) (tE f Z (.prim p es)) := by
  obtain ⟨ts, h1, h2⟩ := h.each
  cases as with
  | nil => exact absurd rfl h0
  | cons e es' =>
    have hs' := hs
    simp only [List.all_cons, Bool.and_eq_true] at hs'
    exact PE.mono (pe_callB hc hg hm hv (h1.pa hs) hx hd (star_one hs'.1 _ _) (star_all hs'.2 _ _)) fun σ H Q q => h2 _ _ _ (tPr hn q)
theorem k_callT (a : At wd T f k nm X) {p : Pr} {es : Es} {x : Str} {xp pos : Pos} {as : List Expr} {id : String} (hc : CallR X (.type id) (fun vs => rPr f p vs)) (hg : Gl X x) (hm : X.mg x = none) (hv : bootBuiltins x = some (.type id)) (hx : x ≠ "__name__") (hd : (x == ("__debug__" : Str)) = false)
    (hn : es.noRef = true) (h : Es1 T f Z nm X es as) (hs : (as.all noStar) = true) (h0 : as ≠ []) : PE X (.Call (.Name x xp) as [] pos) (tE f Z (.prim p es)) := by
  obtain ⟨ts, h1, h2⟩ := h.each
  cases as with
  | nil => exact absurd rfl h0
  | cons e es' =>
    have hs' := hs
    simp only [List.all_cons, Bool.and_eq_true] at hs'
    exact PE.mono (pe_callTy hc hg hm hv (h1.pa hs) hx hd (star_one hs'.1 _ _) (star_all hs'.2 _ _)) fun σ H Q q => h2 _ _ _ (tPr hn q)
theorem k_builtin (a : At wd T f k nm X) {p : Pr} {es : Es} {x s : Str} {n : Nat} {xp pos : Pos} {as : List Expr} (hp : prCall p = some (s, n)) (hb : bt T nm x s = true) (hl : as.length = n) (hd : prDone p = true) (hn : es.noRef = true) (h : Es1 T f Z nm X es as) (hs : (as.all noStar) = true) : PE X (.Call (.Name x xp) as [] pos) (tE f Z (.prim p es)) := by
  obtain ⟨rfl, hg, hm⟩ := a.bt hb
  cases p <;> simp only [prCall, Option.some.injEq, Prod.mk.injEq, reduceCtorEq] at hp <;> obtain ⟨rfl, rfl⟩ := hp <;> (try cases hd)
  · exact k_callB a (c_len a.K a.w) hg hm PySem.boot_len (by decide +kernel) (by decide +kernel) hn h hs (by rintro rfl; cases hl)
  · exact k_callB a (c_min2 a.calm) hg hm (by decide +kernel) (by decide +kernel) (by decide +kernel) hn h hs (by rintro rfl; cases hl)
  · exact k_callB a (c_max2 a.calm) hg hm (by decide +kernel) (by decide +kernel) (by decide +kernel) hn h hs (by rintro rfl; cases hl)
  · exact k_callB a (c_max1 a.K a.calm) hg hm (by decide +kernel) (by decide +kernel) (by decide +kernel) hn h hs (by rintro rfl; cases hl)
  · exact k_callB a (c_sum a.K a.calm) hg hm (by decide +kernel) (by decide +kernel) (by decide +kernel) hn h hs (by rintro rfl; cases hl)
  · exact k_callB a (c_all a.K a.calm) hg hm (by decide +kernel) (by decide +kernel) (by decide +kernel) hn h hs (by rintro rfl; cases hl)
  · exact k_callB a (c_any a.K a.calm) hg hm (by decide +kernel) (by decide +kernel) (by decide +kernel) hn h hs (by rintro rfl; cases hl)
  · exact k_callB a (c_sorted a.K a.w a.calm (by have := a.hu; omega)) hg hm (by decide +kernel) (by decide +kernel) (by decide +kernel) hn h hs (by rintro rfl; cases hl)
  · exact k_callT a (c_list a.K a.calm) hg hm (by decide +kernel) (by decide +kernel) (by decide +kernel) hn h hs (by rintro rfl; cases hl)
  · exact k_callT a (c_tuple a.K) hg hm (by decide +kernel) (by decide +kernel) (by decide +kernel) hn h hs (by rintro rfl; cases hl)
  · exact k_callT a c_int1 hg hm (by decide +kernel) (by decide +kernel) (by decide +kernel) hn h hs (by rintro rfl; cases hl)
  · exact k_callT a c_str1 hg hm (by decide +kernel) (by decide +kernel) (by decide +kernel) hn h hs (by rintro rfl; cases hl)
theorem plainIx_ok {b : Expr} (h : plainIx b = true) : PlainIx b := by
  intro o i
  cases b <;> first | rfl | cases h
theorem k_bin (a : At wd T f k nm X) {p : Pr} {es : Es} {x y : Expr} {op : Operator} {pos : Pos} (hb : binOf p = some op) (hn : es.noRef = true) (h : Es1 T f Z nm X es [x, y]) : PE X (.BinOp x op y pos) (tE f Z (.prim p es)) := by
  obtain ⟨t, u, ht, hu, q⟩ := tPr2 (p := p) hn h
  exact PE.mono (pe_op (bin_ok a hb) ht hu) q
theorem k_neg (a : At wd T f k nm X) {es : Es} {x : Expr} {pos : Pos} (hn : es.noRef = true) (h : Es1 T f Z nm X es [x]) : PE X (.UnaryOp .USub x pos) (tE f Z (.prim .neg es)) := by
  obtain ⟨t, ht, hm, q⟩ := tPr1 (p := .neg) hn h
  exact PE.mono (pe_un o_neg ht) q
theorem k_cut (a : At wd T f k nm X) {es : Es} {x lo hi : Expr} {p2 pos : Pos} (hn : es.noRef = true) (he : es.eff = false) (h : Es1 T f Z nm X es [x, lo, hi]) : PE X (.Subscript x (.Slice (some lo) (some hi) none p2) pos) (tE f Z (.prim .cut es)) := by
  match es, h with
  | .cons e1 (.cons e2 (.cons e3 .nil)), ⟨h1, h2, h3, _⟩ =>
    simp only [Es.eff, Bool.or_eq_false_iff] at he
    refine PE.mono (pe_slice (sl_cut a.K) h1.pe (po_some h2.pe) (po_some h3.pe)) fun σ H Q h => ?_
    refine tE_mono (fun v H1 z => ?_) (tEsP_cons (.inr (by simp [Es.eff, he])) (tPrP hn h))
    obtain ⟨d1, k1, F1, r1, z⟩ := z
    refine tE_mono (fun v2 H2 z => ?_) (tEsP_cons (.inr (by simp [Es.eff, he])) z)
    obtain ⟨d2, k2, F2, r2, z⟩ := z
    have z' := tEsP_has z
    obtain ⟨ds, x, hx⟩ := z'
    obtain ⟨i, rfl⟩ : ∃ i, d2 = .int i := by
      simp only [prD] at hx
      unfold p_cut at hx
      split at hx <;> first | (cases hx; done) | skip
      · next e => simp only [List.cons.injEq, Prod.mk.injEq] at e; exact ⟨_, e.2.1.1⟩
      · next e => simp only [List.cons.injEq, Prod.mk.injEq] at e; exact ⟨_, e.2.1.1⟩
    obtain ⟨rfl, _⟩ := R.int r2
    refine ⟨i, rfl, ?_⟩
    refine tE_mono (fun v3 H3 z => ?_) (tEsP_cons (.inr rfl) z)
    obtain ⟨d3, k3, F3, r3, z⟩ := z
    have z' := tEsP_nilP z
    have z2 := tEsP_nil z
    obtain ⟨x, hx⟩ := z'
    obtain ⟨j, rfl⟩ : ∃ i, d3 = .int i := by
      simp only [prD] at hx
      unfold p_cut at hx
      split at hx <;> first | (cases hx; done) | skip
      · next e => simp only [List.cons.injEq, Prod.mk.injEq] at e; exact ⟨_, e.2.2.1.1⟩
      · next e => simp only [List.cons.injEq, Prod.mk.injEq] at e; exact ⟨_, e.2.2.1.1⟩
    obtain ⟨rfl, _⟩ := R.int r3
    exact ⟨j, rfl, i, j, rfl, rfl, z2⟩
theorem k_cutTo (a : At wd T f k nm X) {es : Es} {x hi : Expr} {p2 pos : Pos} (hn : es.noRef = true) (he : es.eff = false) (h : Es1 T f Z nm X es [x, hi]) : PE X (.Subscript x (.Slice none (some hi) none p2) pos) (tE f Z (.prim .cutTo es)) := by
  match es, h with
  | .cons e1 (.cons e2 .nil), ⟨h1, h2, _⟩ =>
    simp only [Es.eff, Bool.or_eq_false_iff] at he
    refine PE.mono (pe_slice (sl_cutTo a.K) h1.pe po_none (po_some h2.pe)) fun σ H Q h => ?_
    refine tE_mono (fun v H1 z => ?_) (tEsP_cons (.inr (by simp [Es.eff, he])) (tPrP hn h))
    obtain ⟨d1, k1, F1, r1, z⟩ := z
    refine tE_mono (fun v2 H2 z => ?_) (tEsP_cons (.inr rfl) z)
    obtain ⟨d2, k2, F2, r2, z⟩ := z
    have z' := tEsP_nilP z
    have z2 := tEsP_nil z
    obtain ⟨x, hx⟩ := z'
    obtain ⟨i, rfl⟩ : ∃ i, d2 = .int i := by
      simp only [prD] at hx
      unfold p_cutTo at hx
      split at hx <;> first | (cases hx; done) | skip
      · next e => simp only [List.cons.injEq, Prod.mk.injEq] at e; exact ⟨_, e.2.1.1⟩
      · next e => simp only [List.cons.injEq, Prod.mk.injEq] at e; exact ⟨_, e.2.1.1⟩
      · next e => simp only [List.cons.injEq, Prod.mk.injEq] at e; exact ⟨_, e.2.1.1⟩
    obtain ⟨rfl, _⟩ := R.int r2
    exact ⟨i, rfl, i, rfl, rfl, z2⟩
theorem k_cutFrom (a : At wd T f k nm X) {es : Es} {x hi : Expr} {p2 pos : Pos} (hn : es.noRef = true) (he : es.eff = false) (h : Es1 T f Z nm X es [x, hi]) : PE X (.Subscript x (.Slice (some hi) none none p2) pos) (tE f Z (.prim .cutFrom es)) := by
  match es, h with
  | .cons e1 (.cons e2 .nil), ⟨h1, h2, _⟩ =>
    simp only [Es.eff, Bool.or_eq_false_iff] at he
    refine PE.mono (pe_slice (sl_cutFrom a.K) h1.pe (po_some h2.pe) po_none) fun σ H Q h => ?_
    refine tE_mono (fun v H1 z => ?_) (tEsP_cons (.inr (by simp [Es.eff, he])) (tPrP hn h))
    obtain ⟨d1, k1, F1, r1, z⟩ := z
    refine tE_mono (fun v2 H2 z => ?_) (tEsP_cons (.inr rfl) z)
    obtain ⟨d2, k2, F2, r2, z⟩ := z
    have z' := tEsP_nilP z
    have z2 := tEsP_nil z
    obtain ⟨x, hx⟩ := z'
    obtain ⟨i, rfl⟩ : ∃ i, d2 = .int i := by
      simp only [prD] at hx
      unfold p_cutFrom at hx
      split at hx <;> first | (cases hx; done) | skip
      · next e => simp only [List.cons.injEq, Prod.mk.injEq] at e; exact ⟨_, e.2.1.1⟩
      · next e => simp only [List.cons.injEq, Prod.mk.injEq] at e; exact ⟨_, e.2.1.1⟩
    obtain ⟨rfl, _⟩ := R.int r2
    exact ⟨i, rfl, i, rfl, rfl, z2⟩
theorem k_join (a : At wd T f k nm X) {es : Es} {o x : Expr} {apos cpos : Pos} (hn : es.noRef = true) (he : es.eff = false) (h : Es1 T f Z nm X es [o, x]) (hs : noStar x = true) (hb : baseOk o = true) (hl : apos.endLine = cpos.line) : PE X (.Call (.Attribute o "join" apos) [x] [] cpos) (tE f Z (.prim .join es)) := by
  match es, h with
  | .cons e1 (.cons e2 .nil), ⟨h1, h2, _⟩ =>
    simp only [Es.eff, Bool.or_eq_false_iff] at he
    refine PE.mono (pe_join h1.pe h2.pe (star_one hs _ _) (baseB hb _ _) (by rw [hl]; simp)) fun σ H Q h => ?_
    refine tE_mono (fun v H1 z => ?_) (tEsP_cons (.inr (by simp [Es.eff, he])) (tPrP hn h))
    obtain ⟨d1, k1, F1, r1, z⟩ := z
    obtain ⟨ds, x, hx⟩ := tEsP_has z
    refine ⟨?_, ?_⟩
    · obtain ⟨w, rfl⟩ : ∃ i, d1 = .str i := by
        simp only [prD] at hx
        unfold p_join at hx
        split at hx <;> first | (cases hx; done) | skip
        · next e => simp only [List.cons.injEq, Prod.mk.injEq] at e; exact ⟨_, e.1.1⟩
      obtain ⟨rfl, _⟩ := R.str r1
      exact ⟨_, rfl⟩
    · refine tE_mono (fun v2 H2 z => ?_) (tEsP_cons (.inr rfl) z)
      obtain ⟨d2, k2, F2, r2, z⟩ := z
      exact r_join a.K (tEsP_nil z)
theorem k_split (a : At wd T f k nm X) {es : Es} {o x : Expr} {apos cpos : Pos} (hn : es.noRef = true) (he : es.eff = false) (h : Es1 T f Z nm X es [o, x]) (hs : noStar x = true) (hb : baseOk o = true) (hl : apos.endLine = cpos.line) : PE X (.Call (.Attribute o "split" apos) [x] [] cpos) (tE f Z (.prim .split es)) := by
  match es, h with
  | .cons e1 (.cons e2 .nil), ⟨h1, h2, _⟩ =>
    simp only [Es.eff, Bool.or_eq_false_iff] at he
    refine PE.mono (pe_split h1.pe h2.pe (star_one hs _ _) (baseB hb _ _) (by rw [hl]; simp)) fun σ H Q h => ?_
    refine tE_mono (fun v H1 z => ?_) (tEsP_cons (.inr (by simp [Es.eff, he])) (tPrP hn h))
    obtain ⟨d1, k1, F1, r1, z⟩ := z
    obtain ⟨ds, x, hx⟩ := tEsP_has z
    refine ⟨?_, ?_⟩
    · obtain ⟨w, rfl⟩ : ∃ i, d1 = .str i := by
        simp only [prD] at hx
        unfold p_split at hx
        split at hx <;> first | (cases hx; done) | skip
        · next e => simp only [List.cons.injEq, Prod.mk.injEq] at e; exact ⟨_, e.1.1⟩
      obtain ⟨rfl, _⟩ := R.str r1
      exact ⟨_, rfl⟩
    · refine tE_mono (fun v2 H2 z => ?_) (tEsP_cons (.inr rfl) z)
      obtain ⟨d2, k2, F2, r2, z⟩ := z
      exact r_split (tEsP_nil z)
theorem m1_of {o e : Expr} {m : Str} {apos cpos : Pos} (hs : noStar e = true) (hb : baseOk o = true) (hl : apos.endLine = cpos.line) : M1 X o m apos e cpos := by
  have h : backTo cpos (starEach [e] X.env) = [(false, eval e X.env)] := by rw [star_one hs]; rfl
  exact ⟨baseB hb _ _, by rw [h]; rfl, by rw [hl]; simp, h⟩
theorem m2_of {o e g : Expr} {m : Str} {apos cpos : Pos} (hs : noStar e = true) (hs2 : noStar g = true) (hb : baseOk o = true) (hl : apos.endLine = cpos.line) : M2 X o m apos e g cpos := by
  have h : backTo cpos (starEach [e, g] X.env) = [(false, eval e X.env), (false, eval g X.env)] := by rw [star_one hs, star_one hs2]; rfl
  exact ⟨baseB hb _ _, by rw [h]; rfl, by rw [hl]; simp, h⟩
theorem isD_dk {H : Hp} {v : V} {es : List (Al.D × Al.D)} {F : List Addr} (r : f.R H [v] [.dic false es] F) : ∃ a, v = .ref a ∧ IsD H a := by
  obtain ⟨p, kvs, E, rfl, e, hl, m, t, r, rfl⟩ := r.dk'
  exact ⟨p, rfl, .inl ⟨kvs, e⟩⟩
theorem k_get1 (a : At wd T f k nm X) {es : Es} {o x : Expr} {apos cpos : Pos} (hn : es.noRef = true) (he : es.eff = false) (h : Es1 T f Z nm X es [o, x]) (hs : noStar x = true) (hb : baseOk o = true) (hl : apos.endLine = cpos.line) : PE X (.Call (.Attribute o "get" apos) [x] [] cpos) (tE f Z (.prim .get1 es)) := by
  match es, h with
  | .cons e1 (.cons e2 .nil), ⟨h1, h2, _⟩ =>
    simp only [Es.eff, Bool.or_eq_false_iff] at he
    refine PE.mono (pe_dget1 (by have := a.hu; omega) h1.pe h2.pe (m1_of hs hb hl)) fun σ H Q h => ?_
    refine tE_mono (fun v H1 z => ?_) (tEsP_cons (.inr (by simp [Es.eff, he])) (tPrP hn h))
    obtain ⟨d1, k1, F1, r1, z⟩ := z
    obtain ⟨ds, x, hx⟩ := tEsP_has z
    obtain ⟨es, rfl⟩ : ∃ es, d1 = .dic false es := by
      simp only [prD] at hx
      unfold p_get1 at hx
      split at hx <;> first | (cases hx; done) | skip
      · next e => simp only [List.cons.injEq, Prod.mk.injEq] at e; exact ⟨_, e.1.1⟩
    obtain ⟨p, rfl, hD⟩ := isD_dk r1
    refine ⟨p, rfl, hD, ?_⟩
    refine tE_mono (fun v2 H2 z => ?_) (tEsP_cons (.inr rfl) z)
    obtain ⟨d2, k2, F2, r2, z⟩ := z
    obtain ⟨a', o, e1, g1, g2⟩ := r_get1 (tEsP_nil z)
    cases e1
    exact ⟨o, g1, g2⟩
theorem k_get2 (a : At wd T f k nm X) {es : Es} {o x y : Expr} {apos cpos : Pos} (hn : es.noRef = true) (he : es.eff = false) (h : Es1 T f Z nm X es [o, x, y]) (hs : noStar x = true) (hs2 : noStar y = true) (hb : baseOk o = true) (hl : apos.endLine = cpos.line) : PE X (.Call (.Attribute o "get" apos) [x, y] [] cpos) (tE f Z (.prim .get2 es)) := by
  match es, h with
  | .cons e1 (.cons e2 (.cons e3 .nil)), ⟨h1, h2, h3, _⟩ =>
    simp only [Es.eff, Bool.or_eq_false_iff] at he
    refine PE.mono (pe_dget2 (by have := a.hu; omega) h1.pe h2.pe h3.pe (m2_of hs hs2 hb hl)) fun σ H Q h => ?_
    refine tE_mono (fun v H1 z => ?_) (tEsP_cons (.inr (by simp [Es.eff, he])) (tPrP hn h))
    obtain ⟨d1, k1, F1, r1, z⟩ := z
    obtain ⟨ds, x, hx⟩ := tEsP_has z
    obtain ⟨es, rfl⟩ : ∃ es, d1 = .dic false es := by
      simp only [prD] at hx
      unfold p_get2 at hx
      split at hx <;> first | (cases hx; done) | skip
      · next e => simp only [List.cons.injEq, Prod.mk.injEq] at e; exact ⟨_, e.1.1⟩
    obtain ⟨p, rfl, hD⟩ := isD_dk r1
    refine ⟨p, rfl, hD, ?_⟩
    refine tE_mono (fun v2 H2 z => ?_) (tEsP_cons (.inr (by simp [Es.eff, he])) z)
    obtain ⟨d2, k2, F2, r2, z⟩ := z
    refine tE_mono (fun v3 H3 z => ?_) (tEsP_cons (.inr rfl) z)
    obtain ⟨d3, k3, F3, r3, z⟩ := z
    obtain ⟨a', o, e1, g1, g2⟩ := r_get2 (tEsP_nil z)
    cases e1
    exact ⟨o, g1, g2⟩
theorem k_isi (a : At wd T f k nm X) {es : Es} {t : Nat} {x y : Str} {e : Expr} {xp yp pos : Pos} (h1 : bt T nm x "isinstance" = true) (h2 : bt T nm y (tyName t) = true) (h3 : noStar e = true) (h4 : t ≤ 4) (hn : es.noRef = true) (h : Es1 T f Z nm X es [e]) : PE X (.Call (.Name x xp) [e, .Name y yp] [] pos) (tE f Z (.prim (.isi t) es)) := by
  obtain ⟨te, ht, hm, q⟩ := tPr1 (p := .isi t) hn h
  obtain ⟨rfl, hg, hmg⟩ := a.bt h1
  obtain ⟨rfl, hg2, hmg2⟩ := a.bt h2
  have hb : bootBuiltins (tyName t) = some (.type (tyS t)) ∧ tyName t ≠ "__name__" ∧ (tyName t == ("__debug__" : Str)) = false := by
    match t, h4 with
    | 0, _ => exact ⟨by decide +kernel, by decide +kernel, by decide +kernel⟩
    | 1, _ => exact ⟨by decide +kernel, by decide +kernel, by decide +kernel⟩
    | 2, _ => exact ⟨by decide +kernel, by decide +kernel, by decide +kernel⟩
    | 3, _ => exact ⟨by decide +kernel, by decide +kernel, by decide +kernel⟩
    | 4, _ => exact ⟨by decide +kernel, by decide +kernel, by decide +kernel⟩
  have pty : PE X (.Name (tyName t) yp) (tC (.ty (tyS t))) := pe_bltn hg2 hmg2 hb.1 rfl hb.2.1 hb.2.2
  refine PE.mono (pe_callB call_isi hg hmg (by decide +kernel) (pa_cons ht (pa_cons pty pa_nil (star_one rfl _ _)) (star_one h3 _ _)) (by decide +kernel) (by decide +kernel) (star_one h3 _ _) (star_all (es := [.Name (tyName t) yp]) rfl _ _)) fun σ H Q h => ?_
  exact hm (fun v H1 z => c_isi a.K h4 z) (q σ H Q h)
/-- an operation -/
theorem k_prim (a : At wd T f k nm X) {p : Pr} {es : Es} {e : Expr} (h : chkE T nm (.prim p es) e = true) (ih : ∀ as, chkEs T nm es as = true → Es1 T f Z nm X es as) : E1 T f Z nm X (.prim p es) e := by
  simp only [chkE] at h
  split at h
  · next as hp =>
    simp only [Bool.and_eq_true, Bool.or_eq_true, Bool.not_eq_true'] at h
    obtain ⟨hd, hpe, hn, hc⟩ := h
    have hs := ih as hc
    have pure : prPure p = true → es.eff = false := fun z => by
      rcases hpe with q | q
      · rw [z] at q; cases q
      · exact q
    unfold prArgs at hp
    split at hp
    · split at hp
      · next hb =>
        simp only [Option.some.injEq] at hp; subst hp
        exact E1.of a (k_bin a hb hn hs) rfl prim_nv
      · cases hp
    · split at hp
      · next hb =>
        subst hb
        simp only [Option.some.injEq] at hp; subst hp
        exact E1.of a (k_neg a hn hs) rfl prim_nv
      · cases hp
    · split at hp
      · next hb =>
        simp only [Option.some.injEq] at hp; subst hp
        obtain ⟨t, u, ht, hu, q⟩ := tPr2 (p := p) hn hs
        exact k_cmp a (cmp_ok a hb.1) (nomarkB hb.2) ht hu q
      · split at hp
        · split at hp
          · next hb =>
            subst hb
            simp only [Option.some.injEq] at hp; subst hp
            obtain ⟨t, ht, hm, q⟩ := tPr1 (p := .isN) hn hs
            exact k_cmp a op_isN1 rfl ht pe_non fun σ H Q h => hm (fun v H1 z => r_isN z) (q σ H Q h)
          · cases hp
        · split at hp
          · next hb =>
            subst hb
            simp only [Option.some.injEq] at hp; subst hp
            obtain ⟨t, ht, hm, q⟩ := tPr1 (p := .notN) hn hs
            exact k_cmp a op_notN1 rfl ht pe_non fun σ H Q h => hm (fun v H1 z => r_notN z) (q σ H Q h)
          · cases hp
        · cases hp
    · split at hp
      · next hb =>
        subst hb
        simp only [Option.some.injEq] at hp; subst hp
        exact E1.of a (k_cut a hn (pure rfl) hs) rfl prim_nv
      · cases hp
    · split at hp
      · next hb =>
        subst hb
        simp only [Option.some.injEq] at hp; subst hp
        exact E1.of a (k_cutTo a hn (pure rfl) hs) rfl prim_nv
      · cases hp
    · split at hp
      · next hb =>
        subst hb
        simp only [Option.some.injEq] at hp; subst hp
        exact E1.of a (k_cutFrom a hn (pure rfl) hs) rfl prim_nv
      · cases hp
    · split at hp
      · next hb =>
        obtain ⟨rfl, _⟩ := hb
        cases hd
      · cases hp
    · split at hp
      · next hb =>
        obtain ⟨rfl, hb⟩ := hb
        simp only [Option.some.injEq] at hp; subst hp
        obtain ⟨t, u, ht, hu, q⟩ := tPr2 (p := .idx) hn hs
        exact E1.of a (PE.mono (pe_ix (i_idx a.K a.w (by have := a.hu; omega)) ht hu (plainIx_ok hb)) q) rfl prim_nv
      · cases hp
    · split at hp
      · next s n hq =>
        split at hp
        · next hb =>
          simp only [Option.some.injEq] at hp; subst hp
          exact E1.of a (k_builtin a hq hb.1 hb.2.1 hd hn hs hb.2.2) rfl prim_nv
        · cases hp
      · split at hp
        · next t x' y yp hq =>
          split at hp
          · next hb =>
            simp only [Option.some.injEq] at hp; subst hp
            exact E1.of a (k_isi a hb.1 hb.2.1 hb.2.2.1 hb.2.2.2 hn hs) rfl prim_nv
          · cases hp
        · cases hp
    · split at hp
      · next s n hq =>
        split at hp
        · next hb =>
          obtain ⟨rfl, h1, h2, h3, h4⟩ := hb
          simp only [Option.some.injEq] at hp; subst hp
          rename_i o apos as' cpos _
          cases p <;> simp only [prMeth, Option.some.injEq, Prod.mk.injEq, reduceCtorEq] at hq <;> obtain ⟨rfl, rfl⟩ := hq <;> (try cases hd)
          · obtain ⟨x, rfl⟩ : ∃ x, as' = [x] := by
              match as', h1 with
              | [x], _ => exact ⟨x, rfl⟩
            exact E1.of a (k_join a hn (pure rfl) hs (by simpa using h2) h3 h4) rfl prim_nv
          · obtain ⟨x, rfl⟩ : ∃ x, as' = [x] := by
              match as', h1 with
              | [x], _ => exact ⟨x, rfl⟩
            exact E1.of a (k_split a hn (pure rfl) hs (by simpa using h2) h3 h4) rfl prim_nv
          · obtain ⟨x, rfl⟩ : ∃ x, as' = [x] := by
              match as', h1 with
              | [x], _ => exact ⟨x, rfl⟩
            exact E1.of a (k_get1 a hn (pure rfl) hs (by simpa using h2) h3 h4) rfl prim_nv
          · obtain ⟨x, y, rfl⟩ : ∃ x y, as' = [x, y] := by
              match as', h1 with
              | [x, y], _ => exact ⟨x, y, rfl⟩
            simp only [List.all_cons, List.all_nil, Bool.and_true, Bool.and_eq_true] at h2
            exact E1.of a (k_get2 a hn (pure rfl) hs h2.1 h2.2 h3 h4) rfl prim_nv
        · cases hp
      · cases hp
    · cases hp
  · cases h
end
end Al
/-! A5f: calls. -/
namespace Al
open PySem L2

/-- values that are data, each with its places -/
inductive Rs (w : World) (K : PySem.W.Frag) (cad : Nat → Addr) (H : Hp) : List V → List D → List (List Addr) → Prop
  | nil : Rs w K cad H [] [] []
  | cons {v : V} {d : D} {F : List Addr} {vs : List V} {ds : List D} {Fs : List (List Addr)} : R w K cad H [v] [d] F → Rs w K cad H vs ds Fs → Rs w K cad H (v :: vs) (d :: ds) (F :: Fs)
/-- what a def is handed: what it may change is its own alone -/
structure Handed (w : World) (K : PySem.W.Frag) (cad : Nat → Addr) (mu : List Nat) (H : Hp) (vs : List V) (ds : List D) (Fs : List (List Addr)) : Prop where
  rs : Rs w K cad H vs ds Fs
  own : ∀ i ∈ mu, ∀ F, Fs[i]? = some F → F.Nodup ∧ ∀ a ∈ F, Mut (H a)
  dis : ∀ i ∈ mu, ∀ j F G, Fs[i]? = some F → Fs[j]? = some G → i ≠ j → ∀ a ∈ F, a ∉ G
/-- what it leaves -/
structure Left (w : World) (K : PySem.W.Frag) (cad : Nat → Addr) (mu : List Nat) (H : Hp) (vs : List V) (Fs : List (List Addr)) (d : D) (k : Kd) (out : List D) (v : V) (H' : Hp) (F : List Addr) (Gs : List (List Addr)) : Prop where
  keep : ∀ a o, (∀ i ∈ mu, ∀ G, Fs[i]? = some G → a ∉ G) → H a = some o → H' a = some o
  r : R w K cad H' [v] [d] F
  outs : Rs w K cad H' (mu.map fun i => vs.getD i .non) out Gs
  src : ∀ a ∈ F, H a = none ∨ ∃ G ∈ Fs, a ∈ G
  fr : k = .fr → F.Nodup ∧ ∀ a ∈ F, Mut (H' a) ∧ (H a = none ∨ ∃ i ∈ mu, ∃ G, Fs[i]? = some G ∧ a ∈ G) ∧ ∀ G ∈ Gs, a ∉ G
  gs : ∀ G ∈ Gs, G.Nodup ∧ ∀ a ∈ G, Mut (H' a) ∧ (H a = none ∨ ∃ i ∈ mu, ∃ G', Fs[i]? = some G' ∧ a ∈ G')
  gd : Gs.Pairwise fun G G' => ∀ a ∈ G, a ∉ G'
  nb : k ≠ .bo
  fl : flat d = true ∨ mu = [] ∨ k = .fr
/-- a def's promise -/
def spFn (w : World) (K : PySem.W.Frag) (cad : Nat → Addr) (Z : Far) (g : Fn) : Sp := fun vs H Q _ => ∃ ds Fs d k out, Handed w K cad g.mu H vs ds Fs ∧ run Z g ds = some (.ok d k out) ∧ ∀ v H' F Gs, Left w K cad g.mu H vs Fs d k out v H' F Gs → Q v H'
/-- the def stands at its name and keeps its promise -/
def CallOk (wd : Wd) (k : Nat) (x : Str) (g : Fn) : Prop := ∃ a fd ps j, FnOk wd.prog wd.w wd.K wd.mg wd.base CX0 j a fd ps (spFn wd.w wd.K wd.cad wd.Z g) ∧ j ≤ k ∧ wd.mg x = some (.ref a) ∧ PySem.W.keepIn wd.K (.ref a) = true ∧ Binds wd.K fd ps []
/-- of the defs called: those that the table names -/
def PF (wd : Wd) (T : Tab) (k : Nat) (g : Fn) : Prop := ∀ x, (x, g.nm) ∈ T.fns → CallOk wd k x g

section
variable {wd : Wd} {T : Tab} {f : Fx} {k : Nat} {nm : Nms} {X : Cx} {Z : Far} {σ : St} {H H1 : Hp} {O : Nat → List Addr} {S : Addr → Prop} {N : Addr → Prop}
theorem Tms.rs {vs : List V} {ds : List (D × Kd)} {Fs : List (List Addr)} (t : Tms f N H O S vs ds Fs) : Rs f.w f.K f.cad H vs (ds.map (·.1)) Fs := by
  induction t with
  | nil => exact .nil
  | cons h _ _ ih => exact .cons h.r ih
theorem mem_zip {α β : Type} : ∀ {xs : List α} {ys : List β} {y : β}, xs.length = ys.length → y ∈ ys → ∃ x, (x, y) ∈ xs.zip ys
  | [], _, _, h, hy => by cases ys_nil : ‹List β› <;> simp_all
  | x :: xs, [], _, h, hy => by cases hy
  | x :: xs, y' :: ys, y, h, hy => by
    rcases List.mem_cons.mp hy with rfl | hy
    · exact ⟨x, by simp⟩
    · obtain ⟨x', hx⟩ := mem_zip (by simpa using h) hy
      exact ⟨x', by simp [hx]⟩
theorem Tms.lens {vs : List V} {ds : List (D × Kd)} {Fs : List (List Addr)} (t : Tms f N H O S vs ds Fs) : ds.length = Fs.length := by
  induction t with
  | nil => rfl
  | cons _ _ _ ih => simp [ih]
/-- what a call that changes nothing leaves, among things in hand -/
theorem Left.pst {vs : List V} {ds : List (D × Kd)} {Fs : List (List Addr)} {d : D} {kk : Kd} {out : List D} {v : V} {H' : Hp} {F : List Addr} {Gs : List (List Addr)} (t : Tms f N H O S vs ds Fs) (h : Left f.w f.K f.cad [] H vs Fs d kk out v H' F Gs) : Pst f H (ds.zip Fs) d (callKd d kk ds) v H' F := by
  have zip : ∀ a, (∃ G ∈ Fs, a ∈ G) → ∃ p ∈ ds.zip Fs, a ∈ p.2 := fun a ⟨G, hG, ha⟩ => by
    obtain ⟨x, hx⟩ := mem_zip t.lens hG
    exact ⟨_, hx, ha⟩
  refine ⟨fun a o e => h.keep a o (fun i hi => nomatch hi) e, h.r, fun a ha => (h.src a ha).imp id (zip a), fun e => ?_, fun e a ha => ?_⟩
  · unfold callKd at e
    split at e
    · cases e
    · split at e
      · next hk =>
        obtain ⟨nd, q⟩ := h.fr (by simpa using hk)
        refine ⟨nd, fun a ha => ⟨(q a ha).1, .inl ?_⟩⟩
        rcases (q a ha).2.1 with z | ⟨i, hi, _⟩
        · exact z
        · cases hi
      · exact absurd e (jn_st_ne _)
  · unfold callKd at e
    split at e
    · next hf => rw [R.flat h.r hf] at ha; cases ha
    · split at e
      · cases e
      · have hb := jn_st _ e
        rcases h.src a ha with z | ⟨G, hG, z⟩
        · exact .inl z
        · refine .inr (t.st hb a ?_)
          exact List.mem_flatten.mpr ⟨G, hG, z⟩
theorem mu_nil {g : Fn} (h : g.isMut = false) : g.mu = [] := by
  unfold Fn.isMut at h
  simpa using h
theorem k_call0 (a : At wd T f k nm X) (hZ : Z = wd.Z) {g : Fn} {es : Es} {e : Expr} (h : chkE T nm (.call g es) e = true) (hP : PF wd T k g) (ih : ∀ as, chkEs T nm es as = true → Es1 T f Z nm X es as) : E1 T f Z nm X (.call g es) e := by
  cases e <;> try simp only [chkE, Bool.false_eq_true] at h
  next fn as kws pos =>
  cases fn <;> try simp only [chkE, Bool.false_eq_true] at h
  next x xp =>
  cases kws <;> try simp only [chkE, Bool.false_eq_true] at h
  simp only [chkE, Bool.and_eq_true, Bool.not_eq_true', fnOkB, decide_eq_true_eq] at h
  obtain ⟨h1, h2, h3, h4, h5, h6, h7, h8⟩ := h
  have hs := ih as h8
  obtain ⟨ts, q1, q2⟩ := hs.each
  obtain ⟨ad, fd, ps, j, F, hj, hm, hk, hb⟩ := hP x h3
  cases as with
  | nil => cases h6
  | cons e0 es' =>
    have h4' := h4
    simp only [List.all_cons, Bool.and_eq_true] at h4'
    have F' : FnOk X.prog X.w X.K X.mg X.base CX0 j ad fd ps (spFn wd.w wd.K wd.cad wd.Z g) := by
      rw [a.prog, a.w', a.K', a.mg, a.base]; exact F
    refine E1.of a (PE.mono (pe_call (dvs := []) (E := fun _ _ _ => False) F' (a.room.mono (Nat.le_succ_of_le hj)) (a.gl h1) (by rw [a.mg]; exact hm) (by rw [a.K']; exact hk) (by rw [a.K']; exact hb) .nil pass0 (q1.pa h4) h2 (star_one h4'.1 _ _) (star_all h4'.2 _ _)) fun σ H Q q => q2 _ _ _ ?_) rfl fun i hi => nomatch hi
    obtain ⟨ρ, O, S, d, kk, ρ1, rel, e1, q⟩ := q
    simp only [denE] at e1
    unfold bndL at e1
    split at e1
    · next ds ρ2 e2 =>
      dsimp only at e1
      rw [h5] at e1
      simp only [Bool.false_eq_true, if_false] at e1
      split at e1
      · next d' k' out hr =>
        simp only [Option.some.injEq, Out.ok.injEq] at e1
        obtain ⟨rfl, rfl, rfl⟩ := e1
        refine ⟨ρ, O, S, ds, ρ2, rel, e2, fun vs H1 O1 S1 Fs rel1 s1 ta w1 => ?_⟩
        have tm := ta.tms h7
        show spFn wd.w wd.K wd.cad wd.Z g (vs ++ []) H1 Q _
        rw [List.append_nil]
        have hmu := mu_nil h5
        have eW : f.w = wd.w := by rw [← a.w, a.w']
        have eK : f.K = wd.K := by rw [← a.K, a.K']
        refine ⟨ds.map (·.1), Fs, d', k', out, ?_, by rw [← hZ]; exact hr, fun v H' F Gs hl => ?_⟩
        · rw [hmu, ← eW, ← eK, ← a.cad]
          exact ⟨tm.rs, fun i hi => (nomatch hi), fun i hi => nomatch hi⟩
        · rw [hmu, ← eW, ← eK, ← a.cad] at hl
          exact fin_pst (m := .call g es) rel1 s1 tm w1 (fun he => by simp only [E.eff, Bool.or_eq_false_iff] at he; exact he.2) (Left.pst tm hl) q
      · cases e1
      · cases e1
    · cases e1
    · cases e1
/-- something in hand over a heap that has grown -/
theorem Tm.item {v : V} {d : D} {kk : Kd} {F : List Addr} {H' : Hp} (t : Tm f N H O S v d kk F) (x : Ext H H') : f.R H' [v] [d] F ∧ (kk = .fr → F.Nodup ∧ ∀ a ∈ F, Mut (H' a)) := by
  refine ⟨R.ext t.r x, fun h => ⟨(t.fr h).1, fun a ha => ?_⟩⟩
  have m := ((t.fr h).2 a ha).1
  cases e : H a with
  | none => rw [e] at m; exact m.elim
  | some o => rw [x a o e]; rw [e] at m; exact m
theorem Stp.ext {H' : Hp} {O1 : Nat → List Addr} {S1 : Addr → Prop} (s : Stp H O S H1 O1 S1) (x : Ext H1 H') : Stp H O S H' O1 S1 := ⟨fun a o hn e => x a o (s.keep a o hn e), s.own', s.st', s.mono⟩
theorem Tm.bool {b : Bool} (kk : Kd) : Tm f N H O S (.bl b) (.bl b) kk [] := ⟨.atom (.bl b) .nil, (fun _ z => nomatch z), (fun _ => ⟨List.nodup_nil, fun _ z => nomatch z⟩), fun _ _ z => nomatch z⟩
theorem r_chain {p q : Pr} {a b c : E} {Q : VK} (h : tE f Z (.chain p q a b c) σ H Q) : tChain (fun x y => rPr f p [x, y]) (fun x y => rPr f q [x, y]) (tE f Z a) (tE f Z b) (tE f Z c) σ H Q := by
  obtain ⟨ρ, O, S, dm, km, ρm, rel, e0, fin⟩ := h
  simp only [denE] at e0
  split at e0
  · cases e0
  · next he =>
    simp only [Bool.or_eq_true, not_or, Bool.not_eq_true] at he
    obtain ⟨hb, hc⟩ := he
    unfold bnd at e0
    split at e0
    · next d k ρ1 e1 =>
      dsimp only at e0
      split at e0
      · next e l ρ2 e2 =>
        refine ⟨ρ, O, S, d, k, ρ1, rel, e1, fun v H1 O1 S1 F rel1 s1 t1 w1 => ⟨ρ1, O1, S1, e, l, ρ2, rel1, e2, fun u H2 O2 S2 G rel2 s2 t2 w2 => ?_⟩⟩
        obtain ⟨x2, rfl, rfl⟩ := w2 hb
        have i1 := t1.item x2
        have i2 := t2.item (Ext.refl H2)
        try dsimp only at e0
        split at e0
        · next kb e3 =>
          refine ⟨[(d, k), (e, l)], [F, G], _, _, .cons i1.1 i1.2 (.cons i2.1 i2.2 .nil), e3, fun z H3 Fz ps => ?_⟩
          obtain ⟨rfl, _⟩ := R.bl ps.r
          refine ⟨true, rfl, ?_⟩
          rw [if_pos rfl]
          split at e0
          · next g m ρ3 e4 =>
            refine ⟨ρ2, O2, S2, g, m, ρ3, rel2.ext ps.ext, e4, fun w H4 O4 S4 E4 rel4 s4 t4 w4 => ?_⟩
            obtain ⟨x4, rfl, rfl⟩ := w4 hc
            have i3 := t2.item (ps.ext.trans x4)
            have i4 := t4.item (Ext.refl H4)
            try dsimp only at e0
            split at e0
            · next r kr e5 =>
              simp only [Option.some.injEq, Out.ok.injEq] at e0
              obtain ⟨rfl, rfl, rfl⟩ := e0
              refine ⟨[(e, l), (g, m)], [G, E4], _, _, .cons i3.1 i3.2 (.cons i4.1 i4.2 .nil), e5, fun z H5 Fz' ps' => ?_⟩
              obtain ⟨rfl, _⟩ := R.bl ps'.r
              refine fin _ H5 O4 S4 [] (rel4.ext ps'.ext) (((s1.trans s2).ext ps.ext).trans s4 |>.ext ps'.ext) (Tm.bool _) fun he => ?_
              obtain ⟨x1, rfl, rfl⟩ := w1 (by simp only [E.eff, Bool.or_eq_false_iff] at he; exact he.1)
              exact ⟨((x1.trans x2).trans (ps.ext.trans x4)).trans ps'.ext, rfl, rfl⟩
            · cases e0
          · cases e0
          · cases e0
        · next kb e3 =>
          simp only [Option.some.injEq, Out.ok.injEq] at e0
          obtain ⟨rfl, rfl, rfl⟩ := e0
          refine ⟨[(d, k), (e, l)], [F, G], _, _, .cons i1.1 i1.2 (.cons i2.1 i2.2 .nil), e3, fun z H3 Fz ps => ?_⟩
          obtain ⟨rfl, _⟩ := R.bl ps.r
          refine ⟨false, rfl, ?_⟩
          rw [if_neg Bool.false_ne_true]
          refine fin _ H3 O2 S2 [] (rel2.ext ps.ext) ((s1.trans s2).ext ps.ext) (Tm.bool _) fun he => ?_
          obtain ⟨x1, rfl, rfl⟩ := w1 (by simp only [E.eff, Bool.or_eq_false_iff] at he; exact he.1)
          exact ⟨(x1.trans x2).trans ps.ext, rfl, rfl⟩
        · cases e0
      · cases e0
      · cases e0
    · cases e0
    · cases e0
theorem k_chain (a : At wd T f k nm X) {p q : Pr} {x y z : E} {e : Expr} (h : chkE T nm (.chain p q x y z) e = true) (i1 : ∀ e, chkE T nm x e = true → E1 T f Z nm X x e) (i2 : ∀ e, chkE T nm y e = true → E1 T f Z nm X y e) (i3 : ∀ e, chkE T nm z e = true → E1 T f Z nm X z e) : E1 T f Z nm X (.chain p q x y z) e := by
  cases e <;> try simp only [chkE, Bool.false_eq_true] at h
  next l ops cs pos =>
  match ops, cs, h with
  | [o, o'], [u, v], h =>
    simp only [chkE, Bool.and_eq_true, decide_eq_true_eq] at h
    obtain ⟨h1, h2, h3, h4, h5, h6, h7⟩ := h
    have hm : lastMarks [o, o'] [u, v] = false := by
      show behindInMarks o' v = false
      exact nomarkB h4
    have o1 := cmp_ok a h1
    have o2 := cmp_ok a h2
    have pe := PE.mono (pe_chain (pos := pos) o1 o2 (i1 _ h5).pe (i2 _ h6).pe (i3 _ h7).pe hm) fun σ H Q => r_chain (f := f) (Z := Z)
    exact ⟨pe, fun _ => PT.mono (pt_chain o1 o2 (i1 _ h5).pe (i2 _ h6).pe (i3 _ h7).pe hm) fun σ H Q q => r_chain q, (fun z => nomatch z), (fun _ z => nomatch z), asg_of a pe rfl⟩
end
end Al
/-! A5g: what is walked. -/
namespace Al
open PySem L2

section
variable {wd : Wd} {T : Tab} {f : Fx} {k : Nat} {nm : Nms} {X : Cx} {Z : Far} {σ : St} {H H1 : Hp} {O : Nat → List Addr} {S : Addr → Prop} {N : Addr → Prop}
/-- the walk's meaning: J gives these items while the things in hand are as they were -/
def ItOk (f : Fx) (J : L2.It) (vs : List V) (ds : List (D × Kd)) (items : List (D × Kd)) : Prop := ∀ H Fs, (∀ a o, ¬ f.B a → f.H0 a = some o → H a = some o) → As f H vs ds Fs →
  items.length ≤ LINE ∧ (∀ it ∈ items, it.2 ≠ .fr) ∧ (∀ i, i < items.length → J.go i H) ∧ J.stop items.length H ∧ ∀ i x H' it, items[i]? = some it → J.yld i H x H' → ∃ E, Pst f H (ds.zip Fs) it.1 it.2 x H' E
def tI (f : Fx) (Z : Far) (chg : Bool) (m : Al.It) : TI := fun σ H R => ∃ ρ O S items ρ1, Rel f σ H ρ O S ∧ denI Z chg m ρ = some (.ok items ρ1) ∧
  ∀ J vs ds H1 O1 S1 Fs, Rel f σ H1 ρ1 O1 S1 → Stp H O S H1 O1 S1 → Tms f (New H O) H1 O1 S1 vs ds Fs → (∀ p ∈ ds, p.2 ≠ .fr) → (chg = true → ∀ p ∈ ds, p.2 ≠ .bo) → ItOk f J vs ds items → (m.eff = false → Ext H H1 ∧ O1 = O ∧ ρ1 = ρ) → R J H1
theorem PI.mono {tg e : Expr} {t t' : TI} (h : PI X tg e t) (q : ∀ σ H R, t' σ H R → t σ H R) : PI X tg e t' := ⟨fun pins s σ H R I w => h.run pins s σ H R I (q σ H R w)⟩

/-! a list, a tuple, a text: one rule -/
theorem it_list {pins : List (Addr × Obj)} {H1 : Hp} {s1 : Shared} {a : Addr} {xs : List V} {tg : Expr} {R : L2.It → Hp → Prop} (I1 : L2.Inv X pins σ H1 s1) (hq : SqL X.K H1 a xs) (q : R (Itl X.K a) H1) : wpAny (model X.prog X.w) X.A (pyIter (.ref a)) (PIE X pins σ tg R) X.xe s1 := by
  obtain ⟨its, rv, p, hz⟩ := Inv.list I1 hq
  exact wpAny_pyIter_list p.isList (pi_one I1 { cls := .type "list_iterator", data := .fields #[.ref a, .int 0 0] } (turn_list a _) ⟨_, Heap.get?_push_size s1.heap rfl, rfl, rfl⟩ q)
theorem it_tup {pins : List (Addr × Obj)} {H1 : Hp} {s1 : Shared} {a : Addr} {xs : List V} {tg : Expr} {R : L2.It → Hp → Prop} (I1 : L2.Inv X pins σ H1 s1) (hq : SqT X.K H1 a xs) (q : R (Itt X.K a) H1) : wpAny (model X.prog X.w) X.A (pyIter (.ref a)) (PIE X pins σ tg R) X.xe s1 := by
  obtain ⟨its, rv, p, hz⟩ := Inv.tuple I1 hq
  exact wpAny_pyIter_tuple p (pi_one I1 { cls := .type "tuple_iterator", data := .fields #[.ref a, .int 0 0] } (turn_tuple a _) ⟨_, Heap.get?_push_size s1.heap rfl, rfl, rfl⟩ q)
theorem it_str {pins : List (Addr × Obj)} {H1 : Hp} {s1 : Shared} {z : Str} {t : Tok} {tg : Expr} {R : L2.It → Hp → Prop} (I1 : L2.Inv X pins σ H1 s1) (q : R (Its z) H1) : wpAny (model X.prog X.w) X.A (pyIter (.str z t)) (PIE X pins σ tg R) X.xe s1 := by
  cases h : z.cps.all fun c => decide (c < 128) with
  | false => exact wpAny_pyIter_wide h (pi_one I1 { cls := .type "str_iterator", data := .fields #[.str z t, .int 0 0] } (turn_str _ z t "str_iterator" (.inr rfl)) ⟨_, Heap.get?_push_size s1.heap rfl, rfl, rfl⟩ q)
  | true => exact wpAny_pyIter_ascii h (pi_one I1 { cls := .type "str_ascii_iterator", data := .fields #[.str z t, .int 0 0] } (turn_str _ z t "str_ascii_iterator" (.inl rfl)) ⟨_, Heap.get?_push_size s1.heap rfl, rfl, rfl⟩ q)
def iAny (K : PySem.W.Frag) (tl : TE) : TI := fun σ H R => tl σ H fun x H1 => (∃ a xs, x = .ref a ∧ SqL K H1 a xs ∧ R (Itl K a) H1) ∨ (∃ a xs, x = .ref a ∧ SqT K H1 a xs ∧ R (Itt K a) H1) ∨ ∃ z, x = .str z ∧ R (Its z) H1
theorem pi_any {tg l : Expr} {tl : TE} (h : PE X l tl) : PI X tg l (iAny X.K tl) := by
  refine ⟨fun pins s σ H R I w => thn (h.run pins s σ H _ I w) fun v s1 z => ?_⟩
  obtain ⟨x, H1, I1, rv, z⟩ := z
  rcases z with ⟨a, xs, rfl, hq, q⟩ | ⟨a, xs, rfl, hq, q⟩ | ⟨z, rfl, q⟩
  · cases rv
    exact it_list I1 hq q
  · cases rv
    exact it_tup I1 hq q
  · obtain ⟨t, rfl⟩ := rv
    exact it_str I1 q

/-! what they give -/
theorem R.nth {vs : List V} {es : List D} {F : List Addr} (h : f.R H vs es F) {i : Nat} {d : D} (e : es[i]? = some d) : ∃ v A E B, vs[i]? = some v ∧ f.R H [v] [d] E ∧ F = A ++ (E ++ B) := by
  obtain ⟨v, A, E, B, e1, e2, r, _⟩ := R.at h e
  exact ⟨v, A, E, B, e1, r, e2⟩
theorem kd_nf {d : D} {kk : Kd} : kd d (jn kk .st) ≠ .fr := fun h => absurd (kd_fr h).2 (jn_st_ne _)
theorem kdT_nf {ds : List D} {kk : Kd} (h : kk ≠ .fr) : kdT ds kk ≠ .fr := by
  unfold kdT
  split
  · exact fun z => nomatch z
  · exact h
theorem map_nf {α : Type} {xs : List α} {g : α → D × Kd} (h : ∀ x, (g x).2 ≠ .fr) : ∀ it ∈ xs.map g, it.2 ≠ .fr := fun it hi => by
  obtain ⟨x, _, rfl⟩ := List.mem_map.mp hi
  exact h x
theorem ok_list {a : Addr} {es : List D} {kk : Kd} : ItOk f (Itl f.K a) [.ref a] [(.lst es, kk)] (es.map fun x => (x, kd x (jn kk .st))) := by
  intro H Fs _ as
  obtain ⟨x, F, e, rfl, ra, _⟩ := as.d1
  cases e
  obtain ⟨a', vs, E, e, ea, la, r1, rfl⟩ := ra.lst'
  cases e
  have hl := r1.length
  refine ⟨by rw [List.length_map]; omega, map_nf fun x => kd_nf, fun i hi => ?_, ⟨vs, SqL.of ea, by simp [hl]⟩, fun i x H' it e h => ?_⟩
  · rw [List.length_map] at hi
    have hi' : i < vs.length := by omega
    exact ⟨vs, vs[i], SqL.of ea, List.getElem?_eq_getElem hi'⟩
  · obtain ⟨rfl, hx⟩ := h
    rw [List.getElem?_map] at e
    cases e2 : es[i]? with
    | none => rw [e2] at e; cases e
    | some d =>
      rw [e2] at e
      cases e
      obtain ⟨v, A, E', B, e3, r, rfl⟩ := R.nth r1 e2
      have e4 := hx vs (SqL.of ea)
      rw [e3] at e4
      cases e4
      exact ⟨E', Pst.ofPart2 (A := a :: A) (B := B) r rfl List.mem_cons_self⟩
theorem ok_tup {a : Addr} {es : List D} {kk : Kd} : ItOk f (Itt f.K a) [.ref a] [(.tup es, kk)] (es.map fun x => (x, kd x (jn kk .st))) := by
  intro H Fs _ as
  obtain ⟨x, F, e, rfl, ra, _⟩ := as.d1
  cases e
  obtain ⟨a', vs, e, ea, la, r1⟩ := ra.tup'
  cases e
  have hl := r1.length
  refine ⟨by rw [List.length_map]; omega, map_nf fun x => kd_nf, fun i hi => ?_, ⟨vs, ea, by simp [hl]⟩, fun i x H' it e h => ?_⟩
  · rw [List.length_map] at hi
    have hi' : i < vs.length := by omega
    exact ⟨vs, vs[i], ea, List.getElem?_eq_getElem hi'⟩
  · obtain ⟨rfl, hx⟩ := h
    rw [List.getElem?_map] at e
    cases e2 : es[i]? with
    | none => rw [e2] at e; cases e
    | some d =>
      rw [e2] at e
      cases e
      obtain ⟨v, A, E', B, e3, r, rfl⟩ := R.nth r1 e2
      have e4 := hx vs ea
      rw [e3] at e4
      cases e4
      exact ⟨E', Pst.ofPart2 (A := A) (B := B) r rfl List.mem_cons_self⟩
theorem LINE1 : 1 ≤ LINE := by decide
theorem ok_str {w : W} {kk : Kd} : ItOk f (Its (mkS w)) [.str (mkS w)] [(.str w, kk)] (w.map fun c => (.str [c], .st)) := by
  intro H Fs _ as
  obtain ⟨x, F, e, rfl, ra, _⟩ := as.d1
  have hw := (R.str ra).2.1
  refine ⟨by rw [List.length_map]; exact hw, map_nf fun x => (fun z => nomatch z), fun i hi => by simpa [Its, mkS] using hi, by simp [Its, mkS], fun i x H' it e h => ?_⟩
  obtain ⟨rfl, c, hc, rfl⟩ := h
  rw [List.getElem?_map] at e
  simp only [mkS, List.getElem?_toArray] at hc
  rw [hc] at e
  cases e
  exact ⟨[], Pst.str (w := [c]) LINE1⟩
theorem ok_rng {lo : Int} {n : Nat} (hn : n ≤ LINE) : ItOk f (Itr lo n) [] [] ((List.range n).map fun k => (.int (lo + (k : Nat)), .st)) := by
  intro H Fs _ as
  refine ⟨by simpa using hn, map_nf fun x => (fun z => nomatch z), fun i hi => by simpa [Itr] using hi, by simp [Itr], fun i x H' it e h => ?_⟩
  obtain ⟨rfl, rfl⟩ := h
  rw [List.getElem?_map] at e
  cases e2 : (List.range n)[i]? with
  | none => rw [e2] at e; cases e
  | some j =>
    rw [e2] at e
    cases e
    obtain rfl : i = j := by
      obtain ⟨h1, h2⟩ := List.getElem?_eq_some_iff.mp e2
      simpa using h2
    exact ⟨[], Pst.int⟩
theorem enumL_get : ∀ (xs : List (D × Kd)) (n i : Nat), (enumL n xs)[i]? = (xs[i]?).map fun p => (.tup [.int (n + i : Nat), p.1], kdT [.int (n + i : Nat), p.1] (jn p.2 .st))
  | [], n, i => by simp [enumL]
  | (d, kk) :: r, n, 0 => by simp [enumL]
  | (d, kk) :: r, n, i + 1 => by
    simp only [enumL, List.getElem?_cons_succ]
    rw [enumL_get r (n + 1) i]
    have e : n + 1 + i = n + (i + 1) := by omega
    rw [e]
theorem enumL_len : ∀ (xs : List (D × Kd)) (n : Nat), (enumL n xs).length = xs.length
  | [], n => rfl
  | (d, kk) :: r, n => by simp [enumL, enumL_len r]
theorem enumL_nf : ∀ (xs : List (D × Kd)) (n : Nat), (∀ it ∈ xs, it.2 ≠ .fr) → ∀ it ∈ enumL n xs, it.2 ≠ .fr
  | [], n, _, it, h => nomatch h
  | (d, kk) :: r, n, h, it, hi => by
    rcases List.mem_cons.mp hi with rfl | hi
    · exact kdT_nf (jn_st_ne _)
    · exact enumL_nf r (n + 1) (fun x hx => h x (List.mem_cons_of_mem _ hx)) it hi
theorem zipL_nf : ∀ (xs ys : List (D × Kd)), ∀ it ∈ zipL xs ys, it.2 ≠ .fr
  | [], _, it, h => nomatch h
  | (d, kk) :: r, [], it, h => nomatch h
  | (d, kk) :: r, (e, l) :: t, it, hi => by
    rcases List.mem_cons.mp hi with rfl | hi
    · exact kdT_nf (jn_st_ne _)
    · exact zipL_nf r t it hi
theorem jn_jn (kk : Kd) : jn (jn kk .st) .st = jn kk .st := by cases kk <;> rfl
theorem kd_jn (d : D) (kk : Kd) : flat d = true ∨ kd d (jn kk .st) = jn kk .st := by
  unfold kd
  split
  · next h => exact .inl h
  · exact .inr rfl
theorem ok_enum {a : Addr} {es : List D} {kk : Kd} : ItOk f (Ite f.K a) [.ref a] [(.lst es, kk)] (enumL 0 (es.map fun x => (x, kd x (jn kk .st)))) := by
  intro H Fs _ as
  obtain ⟨x, F, e, rfl, ra, _⟩ := as.d1
  cases e
  obtain ⟨a', vs, E, e, ea, la, r1, rfl⟩ := ra.lst'
  cases e
  have hl := r1.length
  refine ⟨by rw [enumL_len, List.length_map]; omega, enumL_nf _ _ (map_nf fun x => kd_nf), fun i hi => ?_, ⟨vs, SqL.of ea, by rw [enumL_len, List.length_map, hl]; exact Nat.le_refl _⟩, fun i x H' it e h => ?_⟩
  · rw [enumL_len, List.length_map] at hi
    have hi' : i < vs.length := by omega
    exact ⟨vs, vs[i], SqL.of ea, List.getElem?_eq_getElem hi'⟩
  · obtain ⟨p, v', rfl, hp, rfl, hx⟩ := h
    rw [enumL_get, List.getElem?_map] at e
    cases e2 : es[i]? with
    | none => rw [e2] at e; cases e
    | some d =>
      rw [e2] at e
      simp only [Option.map_some, Option.some.injEq, Nat.zero_add] at e
      subst e
      obtain ⟨v, A, E', B, e3, r, rfl⟩ := R.nth r1 e2
      have e4 := hx vs (SqL.of ea)
      rw [e3] at e4
      cases e4
      have hsrc : ∀ c ∈ E', c ∈ a :: (A ++ (E' ++ B)) := fun c hc => by simp [hc]
      refine ⟨E', Pst.tuple hp (by show 2 ≤ LINE; decide) (.atom (.int _) r) (jn_st_ne _) (fun c hc => ⟨_, List.mem_cons_self, hsrc c hc⟩) fun h c hc => ⟨_, List.mem_cons_self, ?_, hsrc c hc⟩⟩
      rcases kd_jn d kk with hf | hk
      · rw [r.flat hf] at hc; cases hc
      · rw [hk, jn_jn] at h
        exact jn_st _ h
theorem zipL_get : ∀ (xs ys : List (D × Kd)) (i : Nat), (zipL xs ys)[i]? = (xs[i]?).bind fun p => (ys[i]?).map fun q => (.tup [p.1, q.1], kdT [p.1, q.1] (jn (jn p.2 q.2) .st))
  | [], ys, i => by simp [zipL]
  | (d, kk) :: r, [], i => by
    simp only [zipL, List.getElem?_nil, Option.map_none]
    cases ((d, kk) :: r)[i]? <;> rfl
  | (d, kk) :: r, (e, l) :: t, 0 => by simp [zipL]
  | (d, kk) :: r, (e, l) :: t, i + 1 => by
    simp only [zipL, List.getElem?_cons_succ]
    exact zipL_get r t i
theorem zipL_len : ∀ (xs ys : List (D × Kd)), (zipL xs ys).length = min xs.length ys.length
  | [], ys => by simp [zipL]
  | (d, kk) :: r, [] => by simp [zipL]
  | (d, kk) :: r, (e, l) :: t => by
    simp only [zipL, List.length_cons, zipL_len r t]
    omega
theorem ok_zip {a b : Addr} {es gs : List D} {kk ll : Kd} : ItOk f (Itz f.K a b) [.ref a, .ref b] [(.lst es, kk), (.lst gs, ll)] (zipL (es.map fun x => (x, kd x (jn kk .st))) (gs.map fun x => (x, kd x (jn ll .st)))) := by
  intro H Fs _ as
  obtain ⟨x, y, F, G, e, rfl, ra, rb⟩ := as.d2
  cases e
  obtain ⟨a', vs, E, e, ea, la, r1, rfl⟩ := ra.lst'
  cases e
  obtain ⟨b', us, E2, e, eb, lb, r2, rfl⟩ := rb.lst'
  cases e
  have hl := r1.length
  have hl2 := r2.length
  refine ⟨by rw [zipL_len, List.length_map, List.length_map]; omega, zipL_nf _ _, fun i hi => ?_, ⟨vs, us, SqL.of ea, SqL.of eb, by rw [zipL_len, List.length_map, List.length_map, hl, hl2]; omega⟩, fun i x H' it e h => ?_⟩
  · rw [zipL_len, List.length_map, List.length_map] at hi
    have h1 : i < vs.length := by omega
    have h2 : i < us.length := by omega
    exact ⟨vs, us, vs[i], us[i], SqL.of ea, SqL.of eb, List.getElem?_eq_getElem h1, List.getElem?_eq_getElem h2⟩
  · obtain ⟨p, v', u', rfl, hp, rfl, hx, hy⟩ := h
    rw [zipL_get, List.getElem?_map, List.getElem?_map] at e
    cases e2 : es[i]? with
    | none => rw [e2] at e; cases e
    | some d =>
      rw [e2] at e
      cases e3 : gs[i]? with
      | none => rw [e3] at e; cases e
      | some g =>
        rw [e3] at e
        simp only [Option.map_some, Option.bind_some, Option.some.injEq] at e
        subst e
        obtain ⟨v, A, E', B, e4, r, rfl⟩ := R.nth r1 e2
        have e5 := hx vs (SqL.of ea)
        rw [e4] at e5
        cases e5
        obtain ⟨u, A2, E3, B2, e6, r', rfl⟩ := R.nth r2 e3
        have e7 := hy us (SqL.of eb)
        rw [e6] at e7
        cases e7
        refine ⟨E' ++ E3, Pst.tuple hp (by show 2 ≤ LINE; decide) (R.cons r r') (jn_st_ne _) (fun c hc => ?_) fun h c hc => ?_⟩
        · rcases List.mem_append.mp hc with hc | hc
          · exact ⟨_, List.mem_cons_self, by simp [hc]⟩
          · exact ⟨_, List.mem_cons_of_mem _ List.mem_cons_self, by simp [hc]⟩
        · obtain ⟨h1, h2⟩ := jn2_st _ _ h
          rcases List.mem_append.mp hc with hc | hc
          · refine ⟨_, List.mem_cons_self, ?_, by simp [hc]⟩
            rcases kd_jn d kk with hf | hk
            · rw [r.flat hf] at hc; cases hc
            · rw [hk] at h1
              intro z
              dsimp only at z
              subst z
              exact h1 rfl
          · refine ⟨_, List.mem_cons_of_mem _ List.mem_cons_self, ?_, by simp [hc]⟩
            rcases kd_jn g ll with hf | hk
            · rw [r'.flat hf] at hc; cases hc
            · rw [hk] at h2
              intro z
              dsimp only at z
              subst z
              exact h2 rfl
/-- what is new comes to stand still -/
theorem Tm.settle {ρ : Env} (h : Rel f σ H ρ O S) {v : V} {d : D} {k : Kd} {F : List Addr} (t : Tm f N H O S v d k F) (hk : k = .fr) : Rel f σ H ρ O (fun a => S a ∨ a ∈ F) ∧ Tm f N H O (fun a => S a ∨ a ∈ F) v d .st F := by
  subst hk
  refine ⟨h.grow (Ext.refl H) _ (fun a z => .inl z) fun a z => ?_, t.r, t.al, (fun z => nomatch z), fun _ a ha => .inr ha⟩
  rcases z with z | z
  · exact ⟨(h.stb a z).1, (h.stb a z).2, fun i q => (h.own i a q).2.2.2 z⟩
  · exact ⟨t.al a z, t.r.there a z, ((t.fr rfl).2 a z).2.2.2.2⟩
theorem Tm.settled {ρ : Env} (h : Rel f σ H ρ O S) {v : V} {d : D} {k : Kd} {F : List Addr} (t : Tm f N H O S v d k F) : ∃ S' k', Rel f σ H ρ O S' ∧ Tm f N H O S' v d k' F ∧ k' ≠ .fr ∧ jn k' .st = jn k .st ∧ (k ≠ .bo → k' ≠ .bo) ∧ (∀ a, S a → S' a) ∧ ∀ a, S' a → S a ∨ N a := by
  by_cases hk : k = .fr
  · obtain ⟨r1, t1⟩ := t.settle h hk
    subst hk
    exact ⟨_, .st, r1, t1, (fun z => nomatch z), rfl, (fun _ z => nomatch z), fun a z => .inl z, fun a z => z.imp id fun z => ((t.fr rfl).2 a z).2.2.2.1⟩
  · exact ⟨S, k, h, t, hk, rfl, id, fun a z => z, fun a z => .inl z⟩
theorem Stp.more {O1 : Nat → List Addr} {S1 S2 : Addr → Prop} (s : Stp H O S H1 O1 S1) (h1 : ∀ a, S1 a → S2 a) (h2 : ∀ a, S2 a → S1 a ∨ New H O a) : Stp H O S H1 O1 S2 := ⟨s.keep, s.own', fun a z => by
  rcases h2 a z with z | z
  · exact s.st' a z
  · exact .inr z, fun a z => h1 a (s.mono a z)⟩
/-- the walk over a value -/
theorem k_val (a : At wd T f k nm X) {m : E} {e t : Expr} {chg : Bool} (pe : PE X e (tE f Z m)) : PI X t e (tI f Z chg (.val m)) := by
  refine PI.mono (pi_any pe) fun σ H Rr h => ?_
  obtain ⟨ρ, O, S, items, ρ1, rel, e1, q⟩ := h
  simp only [denI] at e1
  split at e1
  · next d kk ρ2 e2 =>
    split at e1
    · cases e1
    · next hb =>
      simp only [Option.map_eq_some_iff, OutL.ok.injEq] at e1
      obtain ⟨xs, hxs, rfl, rfl⟩ := e1
      refine ⟨ρ, O, S, d, kk, ρ2, rel, e2, fun v H1 O1 S0 F rel0 s0 t0 w1 => ?_⟩
      obtain ⟨S1, k1, rel1, t1, nf, hj, hb1, m1, m2⟩ := t0.settled rel0
      have s1 := s0.more m1 m2
      have tms : Tms f (New H O) H1 O1 S1 [v] [(d, k1)] [F] := .cons t1 .nil fun _ p hp => nomatch hp
      have hnf : ∀ p ∈ [(d, k1)], p.2 ≠ .fr := fun p hp => by rw [List.mem_singleton.mp hp]; exact nf
      have hbo : chg = true → ∀ p ∈ [(d, k1)], p.2 ≠ .bo := fun hc p hp => by
        rw [List.mem_singleton.mp hp]
        refine hb1 fun z => ?_
        rw [hc, z] at hb
        exact hb rfl
      have w1' : (It.val m).eff = false → Ext H H1 ∧ O1 = O ∧ ρ2 = ρ := w1
      cases d <;> simp only [itemsOf, Option.some.injEq, reduceCtorEq] at hxs
      · subst hxs
        obtain ⟨rfl, _, rfl⟩ := R.str t1.r
        exact .inr (.inr ⟨_, rfl, q _ _ _ H1 O1 S1 _ rel1 s1 tms hnf hbo ok_str w1'⟩)
      · subst hxs
        obtain ⟨p, vs, E, rfl, ea, la, r1, rfl⟩ := R.lst' t1.r
        refine .inl ⟨p, vs, rfl, SqL.of ea, ?_⟩
        rw [a.K]
        rw [← hj] at q
        exact q _ _ _ H1 O1 S1 _ rel1 s1 tms hnf hbo ok_list w1'
      · subst hxs
        obtain ⟨p, vs, rfl, ea, la, r1⟩ := R.tup' t1.r
        refine .inr (.inl ⟨p, vs, rfl, by rw [a.K]; exact ea, ?_⟩)
        rw [a.K]
        rw [← hj] at q
        exact q _ _ _ H1 O1 S1 _ rel1 s1 tms hnf hbo ok_tup w1'
  · cases e1
  · cases e1
theorem k_enum (a : At wd T f k nm X) {m : E} {e : Expr} {x : Str} {xp pos tp : Pos} {elts : List Expr} {kk : Nat} {chg : Bool} (hb : bt T nm x "enumerate" = true) (hs : noStar e = true) (pe : PE X e (tE f Z m)) : PI X (.Tuple elts kk tp) (.Call (.Name x xp) [e] [] pos) (tI f Z chg (.enum m)) := by
  obtain ⟨rfl, hg, hm⟩ := a.bt hb
  refine PI.mono (pi_enum hg hm (pa_cons pe pa_nil (star_one hs _ _)) (star_one hs _ _)) fun σ H Rr h => ?_
  obtain ⟨ρ, O, S, items, ρ1, rel, e1, q⟩ := h
  simp only [denI] at e1
  split at e1
  · next ds kk ρ2 e2 =>
    split at e1
    · cases e1
    · next hb =>
      simp only [Option.some.injEq, OutL.ok.injEq] at e1
      obtain ⟨rfl, rfl⟩ := e1
      refine ⟨ρ, O, S, _, kk, ρ2, rel, e2, fun v H1 O1 S0 F rel0 s0 t0 w1 => ?_⟩
      obtain ⟨S1, k1, rel1, t1, nf, hj, hb1, m1, m2⟩ := t0.settled rel0
      have s1 := s0.more m1 m2
      obtain ⟨p, vs, E, rfl, ea, la, r1, rfl⟩ := R.lst' t1.r
      have tms : Tms f (New H O) H1 O1 S1 [.ref p] [(.lst ds, k1)] [p :: E] := .cons t1 .nil fun _ p hp => nomatch hp
      refine ⟨p, vs, rfl, SqL.of ea, ?_⟩
      rw [a.K]
      rw [← hj] at q
      refine q _ _ _ H1 O1 S1 _ rel1 s1 tms (fun p hp => by rw [List.mem_singleton.mp hp]; exact nf) (fun hc p hp => ?_) ok_enum w1
      rw [List.mem_singleton.mp hp]
      refine hb1 fun z => ?_
      rw [hc, z] at hb
      exact hb rfl
  · cases e1
  · cases e1
theorem k_zip (a : At wd T f k nm X) {m n : E} {e g : Expr} {x : Str} {xp pos tp : Pos} {elts : List Expr} {kk : Nat} {chg : Bool} (hb : bt T nm x "zip" = true) (hs : noStar e = true) (hs2 : noStar g = true) (pe : PE X e (tE f Z m)) (pg : PE X g (tE f Z n)) : PI X (.Tuple elts kk tp) (.Call (.Name x xp) [e, g] [] pos) (tI f Z chg (.zip m n)) := by
  obtain ⟨rfl, hg, hm⟩ := a.bt hb
  refine PI.mono (pi_zip hg hm (pa_cons pe (pa_cons pg pa_nil (star_one hs2 _ _)) (star_one hs _ _)) (star_one hs _ _) (star_all (by simp [hs2]) _ _)) fun σ H Rr h => ?_
  obtain ⟨ρ, O, S, items, ρ1, rel, e1, q⟩ := h
  simp only [denI] at e1
  split at e1
  · cases e1
  · next hbe =>
    have hbe : n.eff = false := by simpa using hbe
    split at e1
    · next xs kx ρ2 e2 =>
      split at e1
      · next ys ky ρ3 e3 =>
        split at e1
        · cases e1
        · next hb =>
          simp only [Option.some.injEq, OutL.ok.injEq] at e1
          obtain ⟨rfl, rfl⟩ := e1
          refine ⟨ρ, O, S, _, kx, ρ2, rel, e2, fun v H1 O1 S1 F rel1 s1 t1 w1 => ⟨ρ2, O1, S1, _, ky, ρ3, rel1, e3, fun u H2 O2 S2 G rel2 s2 t2 w2 => ?_⟩⟩
          obtain ⟨x2, hO, hρ⟩ := w2 hbe
          have t1' := t1.carry rel1 s2 (.inr x2) fun _ z => z
          have t2' := t2.weaken (N' := New H O) fun a z => s1.back z
          simp only [Bool.or_eq_true, beq_iff_eq, not_or] at hb
          obtain ⟨⟨nf1, nf2⟩, hb⟩ := hb
          obtain ⟨p, vs, E, rfl, ea, la, r1, rfl⟩ := R.lst' t1'.r
          obtain ⟨p2, us, E2, rfl, eb, lb, r2, rfl⟩ := R.lst' t2'.r
          have tms : Tms f (New H O) H2 O2 S2 [.ref p, .ref p2] [(.lst xs, kx), (.lst ys, ky)] [p :: E, p2 :: E2] :=
            .cons t1' (.cons t2' .nil fun _ p hp => nomatch hp) fun hk => absurd hk nf1
          refine ⟨p, p2, vs, us, rfl, SqL.of ea, SqL.of eb, ?_⟩
          rw [a.K]
          refine q _ _ _ H2 O2 S2 _ rel2 (s1.trans s2) tms (fun q hq => ?_) (fun hc q hq z => ?_) ok_zip fun he => ?_
          · rcases List.mem_cons.mp hq with rfl | hq
            · exact nf1
            · obtain rfl := List.mem_singleton.mp hq
              exact nf2
          · rw [hc] at hb
            simp only [Bool.true_and, Bool.or_eq_true, beq_iff_eq, not_or] at hb
            rcases List.mem_cons.mp hq with rfl | hq
            · exact hb.1 z
            · obtain rfl := List.mem_singleton.mp hq
              exact hb.2 z
          · simp only [It.eff, Bool.or_eq_false_iff] at he
            obtain ⟨x1, rfl, rfl⟩ := w1 he.1
            exact ⟨x1.trans x2, by rw [hO], by rw [hρ]⟩
      · cases e1
      · cases e1
    · cases e1
    · cases e1
theorem k_rng (a : At wd T f k nm X) {es : Es} {as : List Expr} {t : Expr} {x : Str} {xp pos : Pos} {chg : Bool} (hb : bt T nm x "range" = true) (hs : (as.all noStar) = true) (h0 : as.isEmpty = false) (hl : as.length ≤ 2) (hn : es.noRef = true) (h : Es1 T f Z nm X es as) : PI X t (.Call (.Name x xp) as [] pos) (tI f Z chg (.rng es)) := by
  obtain ⟨rfl, hg, hm⟩ := a.bt hb
  obtain ⟨ts, q1, q2⟩ := h.each
  have pa := q1.pa hs
  match as, h0, hl, hs, pa with
  | [e], _, _, hs, pa =>
    simp only [List.all_cons, List.all_nil, Bool.and_true] at hs
    refine PI.mono (pi_range1 hg hm pa (star_one hs _ _)) fun σ H Rr h => q2 _ _ _ ?_
    obtain ⟨ρ, O, S, items, ρ1, rel, e1, q⟩ := h
    simp only [denI] at e1
    split at e1
    · next ds ρ2 e2 =>
      simp only [Option.map_eq_some_iff, OutL.ok.injEq] at e1
      obtain ⟨xs, hxs, rfl, rfl⟩ := e1
      refine ⟨ρ, O, S, ds, ρ2, rel, e2, fun vs H1 O1 S1 Fs rel1 s1 ta w1 => ?_⟩
      have tm := ta.tms hn
      have hc := ta.cnt
      rw [← h.cnt] at hc
      have hL : LINE = 16777216 := rfl
      unfold rngOf at hxs
      split at hxs
      · next j _ =>
        obtain ⟨v, F, rfl, rfl, r, _⟩ := tm.as.d1
        obtain ⟨rfl, rfl⟩ := R.int r
        split at hxs
        · next hj =>
          cases hxs
          refine ⟨j, rfl, by omega, by omega, ?_⟩
          have hok := ok_rng (f := f) (lo := 0) (n := j.toNat) (by omega)
          simp only [Int.zero_add] at hok
          exact q _ _ _ H1 O1 S1 _ rel1 s1 .nil (fun p hp => nomatch hp) (fun _ p hp => nomatch hp) hok w1
        · cases hxs
      · obtain ⟨v, u, F, G, rfl, rfl, r, r2⟩ := tm.as.d2
        simp at hc
      · cases hxs
    · cases e1
    · cases e1
  | [e, g], _, _, hs, pa =>
    simp only [List.all_cons, List.all_nil, Bool.and_true, Bool.and_eq_true] at hs
    refine PI.mono (pi_range2 hg hm pa (by rw [star_one hs.1, star_one hs.2]; rfl) (star_one hs.2 _ _)) fun σ H Rr h => q2 _ _ _ ?_
    obtain ⟨ρ, O, S, items, ρ1, rel, e1, q⟩ := h
    simp only [denI] at e1
    split at e1
    · next ds ρ2 e2 =>
      simp only [Option.map_eq_some_iff, OutL.ok.injEq] at e1
      obtain ⟨xs, hxs, rfl, rfl⟩ := e1
      refine ⟨ρ, O, S, ds, ρ2, rel, e2, fun vs H1 O1 S1 Fs rel1 s1 ta w1 => ?_⟩
      have tm := ta.tms hn
      have hc := ta.cnt
      rw [← h.cnt] at hc
      have hL : LINE = 16777216 := rfl
      unfold rngOf at hxs
      split at hxs
      · obtain ⟨v, F, rfl, rfl, r, _⟩ := tm.as.d1
        simp at hc
      · next i _ j _ =>
        obtain ⟨v, u, F, G, rfl, rfl, r, r2⟩ := tm.as.d2
        obtain ⟨rfl, rfl⟩ := R.int r
        obtain ⟨rfl, rfl⟩ := R.int r2
        split at hxs
        · next hj =>
          cases hxs
          refine ⟨i, j, rfl, ⟨by omega, by omega, by omega, by omega⟩, ?_⟩
          exact q _ _ _ H1 O1 S1 _ rel1 s1 .nil (fun p hp => nomatch hp) (fun _ p hp => nomatch hp) (ok_rng (by omega)) w1
        · cases hxs
      · cases hxs
    · cases e1
    · cases e1
end
end Al
/-! A5h: targets; what is forgotten. -/
namespace Al
open PySem L2

section
variable {wd : Wd} {T : Tab} {f : Fx} {k : Nat} {nm : Nms} {X : Cx} {Z : Far} {σ : St} {H H1 : Hp} {ρ : Env} {O : Nat → List Addr} {S : Addr → Prop} {N : Addr → Prop}
def putO (O : Nat → List Addr) (ρ : Env) (i : Nat) (k : Kd) (F : List Addr) : Nat → List Addr := fun j => if j = i then (if k = .fr ∧ i < ρ.length then F else []) else O j
/-- a slot is set -/
theorem Rel.put (h : Rel f σ H ρ O S) {v : V} {d : D} {k : Kd} {F : List Addr} (t : Tm f N H O S v d k F) (i : Nat) : Rel f (σ.set i (some v)) H (ρ.set i (some (d, k))) (putO O ρ i k F) S where
  len := by rw [List.length_set, List.length_set]; exact h.len
  slot := fun j d' k' e => by
    by_cases hj : j = i
    · subst hj
      have hlt : j < ρ.length := by
        have := (List.getElem?_eq_some_iff.mp e).1
        simpa using this
      rw [List.getElem?_set_self hlt] at e
      simp only [Option.some.injEq, Prod.mk.injEq] at e
      obtain ⟨rfl, rfl⟩ := e
      refine ⟨v, F, List.getElem?_set_self (by rw [h.len]; exact hlt), t.r, t.al, fun q => ?_, t.st⟩
      unfold putO
      rw [if_pos rfl, if_pos ⟨q, hlt⟩]
    · rw [List.getElem?_set_ne (fun z => hj z.symm)] at e
      obtain ⟨v', F', e1, r, al, c1, c2⟩ := h.slot j d' k' e
      refine ⟨v', F', by rw [List.getElem?_set_ne (fun z => hj z.symm)]; exact e1, r, al, fun q => ?_, c2⟩
      unfold putO
      rw [if_neg hj]
      exact c1 q
  own := fun j a ha => by
    unfold putO at ha
    by_cases hj : j = i
    · rw [if_pos hj] at ha
      subst hj
      by_cases hc : k = .fr ∧ j < ρ.length
      · rw [if_pos hc] at ha
        obtain ⟨rfl, hlt⟩ := hc
        obtain ⟨m, b, ns, _⟩ := (t.fr rfl).2 a ha
        exact ⟨⟨d, List.getElem?_set_self hlt⟩, m, b, ns⟩
      · rw [if_neg hc] at ha; cases ha
    · rw [if_neg hj] at ha
      obtain ⟨⟨d', e⟩, q⟩ := h.own j a ha
      exact ⟨⟨d', by rw [List.getElem?_set_ne (fun z => hj z.symm)]; exact e⟩, q⟩
  nod := fun j => by
    unfold putO
    by_cases hj : j = i
    · rw [if_pos hj]
      by_cases hc : k = .fr ∧ i < ρ.length
      · rw [if_pos hc]; exact (t.fr hc.1).1
      · rw [if_neg hc]; exact List.nodup_nil
    · rw [if_neg hj]; exact h.nod j
  dis := fun j l a h1 h2 => by
    unfold putO at h1 h2
    by_cases hj : j = i
    · by_cases hl : l = i
      · rw [hj, hl]
      · rw [if_pos hj] at h1
        rw [if_neg hl] at h2
        by_cases hc : k = .fr ∧ i < ρ.length
        · rw [if_pos hc] at h1
          exact absurd h2 (((t.fr hc.1).2 a h1).2.2.2.2 l)
        · rw [if_neg hc] at h1; cases h1
    · rw [if_neg hj] at h1
      by_cases hl : l = i
      · rw [if_pos hl] at h2
        by_cases hc : k = .fr ∧ i < ρ.length
        · rw [if_pos hc] at h2
          exact absurd h1 (((t.fr hc.1).2 a h2).2.2.2.2 j)
        · rw [if_neg hc] at h2; cases h2
      · rw [if_neg hl] at h2
        exact h.dis j l a h1 h2
  stb := h.stb
  kept := h.kept
theorem putO_in {O : Nat → List Addr} {ρ : Env} {i : Nat} {k : Kd} {F : List Addr} {j : Nat} {a : Addr} (h : a ∈ putO O ρ i k F j) : a ∈ O j ∨ (k = .fr ∧ a ∈ F) := by
  unfold putO at h
  split at h
  · split at h
    · next q => exact .inr ⟨q.1, h⟩
    · cases h
  · exact .inl h
def gNames : List Nat → TGs
  | [] => gNil
  | i :: is => gCons (gName i) (gNames is)
def tgG (K : PySem.W.Frag) : Tg → TG
  | .nm i => gName i
  | .tp is => gTup K is.length (gNames is)
theorem wipe_get (σ : St) : ∀ (vs : List Nat) (j : Nat), (wipe σ vs)[j]? = if j ∈ vs ∧ j < σ.length then some none else σ[j]?
  | [], j => by simp [wipe]
  | v :: vs, j => by
    rw [wipe.eq_def]
    simp only
    by_cases hj : j = v
    · subst hj
      by_cases hl : j < σ.length
      · rw [List.getElem?_set_self (by rw [wipe_length]; exact hl), if_pos ⟨List.mem_cons_self, hl⟩]
      · rw [if_neg (fun z => hl z.2)]
        have h1 : σ[j]? = none := List.getElem?_eq_none (by omega)
        have h2 : ((wipe σ vs).set j none)[j]? = none := List.getElem?_eq_none (by rw [List.length_set, wipe_length]; omega)
        rw [h1, h2]
    · rw [List.getElem?_set_ne (fun z => hj z.symm), wipe_get σ vs j]
      by_cases hm : j ∈ vs <;> simp [hm, hj]
theorem wipe_put {σ : St} {i : Nat} {v : Option V} {own : List Nat} (h : i ∈ own) : wipe (σ.set i v) own = wipe σ own := by
  apply List.ext_getElem?
  intro j
  rw [wipe_get, wipe_get, List.length_set]
  by_cases hj : j ∈ own ∧ j < σ.length
  · rw [if_pos hj, if_pos hj]
  · rw [if_neg hj, if_neg hj]
    by_cases e : i = j
    · subst e
      have hl : ¬ i < σ.length := fun z => hj ⟨h, z⟩
      rw [List.getElem?_eq_none (by rw [List.length_set]; omega), List.getElem?_eq_none (by omega)]
    · rw [List.getElem?_set_ne e]
theorem kill_get : ∀ (vs : List Nat) (ρ : Env) (j : Nat), (kill ρ vs)[j]? = if j ∈ vs ∧ j < ρ.length then some none else ρ[j]?
  | [], ρ, j => by simp [kill]
  | v :: vs, ρ, j => by
    rw [kill, kill_get vs (ρ.set v none) j, List.length_set]
    by_cases hm : j ∈ vs ∧ j < ρ.length
    · rw [if_pos hm, if_pos ⟨List.mem_cons_of_mem _ hm.1, hm.2⟩]
    · rw [if_neg hm]
      by_cases e : v = j
      · subst e
        by_cases hl : v < ρ.length
        · rw [List.getElem?_set_self hl, if_pos ⟨List.mem_cons_self, hl⟩]
        · rw [if_neg (fun z => hl z.2), List.getElem?_eq_none (by rw [List.length_set]; omega), List.getElem?_eq_none (by omega)]
      · rw [List.getElem?_set_ne e]
        rw [if_neg]
        rintro ⟨z1, z2⟩
        rcases List.mem_cons.mp z1 with z1 | z1
        · exact e z1.symm
        · exact hm ⟨z1, z2⟩
theorem kill_len : ∀ (vs : List Nat) (ρ : Env), (kill ρ vs).length = ρ.length
  | [], ρ => rfl
  | v :: vs, ρ => by rw [kill, kill_len vs, List.length_set]
/-- slots forgotten: by the language, and perhaps by the frame -/
theorem Rel.kill (h : Rel f σ H ρ O S) (ks : List Nat) {σ' : St} (hσ : σ' = σ ∨ σ' = wipe σ ks) : Rel f σ' H (Al.kill ρ ks) (fun j => if j ∈ ks then [] else O j) S where
  len := by
    rw [kill_len]
    rcases hσ with rfl | rfl
    · exact h.len
    · rw [wipe_length]; exact h.len
  slot := fun j d k e => by
    rw [kill_get] at e
    split at e
    · cases e
    · next hn =>
      obtain ⟨v, F, e1, r, al, c1, c2⟩ := h.slot j d k e
      have hlt : j < ρ.length := (List.getElem?_eq_some_iff.mp e).1
      have hnk : j ∉ ks := fun z => hn ⟨z, hlt⟩
      refine ⟨v, F, ?_, r, al, fun q => by rw [if_neg hnk]; exact c1 q, c2⟩
      rcases hσ with rfl | rfl
      · exact e1
      · rw [wipe_out hnk]; exact e1
  own := fun j a ha => by
    by_cases hj : j ∈ ks
    · rw [if_pos hj] at ha; cases ha
    · rw [if_neg hj] at ha
      obtain ⟨⟨d, e⟩, q⟩ := h.own j a ha
      exact ⟨⟨d, by rw [kill_get, if_neg (fun z => hj z.1)]; exact e⟩, q⟩
  nod := fun j => by
    by_cases hj : j ∈ ks
    · rw [if_pos hj]; exact List.nodup_nil
    · rw [if_neg hj]; exact h.nod j
  dis := fun j l a h1 h2 => by
    by_cases hj : j ∈ ks
    · rw [if_pos hj] at h1; cases h1
    · by_cases hl : l ∈ ks
      · rw [if_pos hl] at h2; cases h2
      · rw [if_neg hj] at h1; rw [if_neg hl] at h2
        exact h.dis j l a h1 h2
  stb := h.stb
  kept := h.kept
/-- all of the frame's own is lent -/
theorem Rel.lend (h : Rel f σ H ρ O S) : Rel f σ H (Al.lend ρ) (fun _ => []) S where
  len := by unfold Al.lend; rw [List.length_map]; exact h.len
  slot := fun j d k e => by
    unfold Al.lend at e
    rw [List.getElem?_map] at e
    cases e2 : ρ[j]? with
    | none => rw [e2] at e; cases e
    | some o =>
      rw [e2] at e
      cases o with
      | none => cases e
      | some p =>
        obtain ⟨d', k'⟩ := p
        obtain ⟨v, F, e1, r, al, c1, c2⟩ := h.slot j d' k' e2
        cases k' with
        | fr =>
          simp only [Option.map_some, Option.some.injEq, Prod.mk.injEq] at e
          obtain ⟨rfl, rfl⟩ := e
          exact ⟨v, F, e1, r, al, (fun z => nomatch z), fun z => nomatch z⟩
        | st =>
          simp only [Option.map_some, Option.some.injEq, Prod.mk.injEq] at e
          obtain ⟨rfl, rfl⟩ := e
          exact ⟨v, F, e1, r, al, (fun z => nomatch z), c2⟩
        | bo =>
          simp only [Option.map_some, Option.some.injEq, Prod.mk.injEq] at e
          obtain ⟨rfl, rfl⟩ := e
          exact ⟨v, F, e1, r, al, (fun z => nomatch z), c2⟩
  own := fun j a ha => nomatch ha
  nod := fun j => List.nodup_nil
  dis := fun j l a h1 => nomatch h1
  stb := h.stb
  kept := h.kept
theorem bindNms_ok {kk : Kd} (hk : kk ≠ .fr) : ∀ {is : List Nat} {vs : List V} {ds : List D} {F : List Addr} {σ : St} {ρ ρ1 : Env} {O : Nat → List Addr} {Q : St → Hp → Prop}, bindNms is ds kk ρ = some ρ1 → Rel f σ H ρ O S → f.R H vs ds F → (∀ a ∈ F, f.SB a) → (kk = .st → ∀ a ∈ F, S a) →
    (∀ σ1 O1, Rel f σ1 H ρ1 O1 S → (∀ i a, a ∈ O1 i → a ∈ O i) → (∀ own : List Nat, (is.all own.contains) = true → wipe σ1 own = wipe σ own) → Q σ1 H) → gNames is vs σ H Q
  | [], vs, ds, F, σ, ρ, ρ1, O, Q, e, rel, r, al, st, q => by
    cases ds with
    | nil =>
      obtain ⟨rfl, _⟩ := r.nil_of'
      simp only [bindNms, Option.some.injEq] at e
      subst e
      exact ⟨rfl, q σ O rel (fun _ _ z => z) fun _ _ => rfl⟩
    | cons d ds => simp [bindNms] at e
  | i :: is, vs, ds, F, σ, ρ, ρ1, O, Q, e, rel, r, al, st, q => by
    cases ds with
    | nil => simp [bindNms] at e
    | cons d ds =>
      cases vs with
      | nil => have := r.length; simp at this
      | cons v vs =>
        simp only [bindNms] at e
        obtain ⟨F1, F2, rfl, r1, r2⟩ := r.split
        have t : Tm f (fun _ => True) H O S v d (kd d (jn kk .st)) F1 := by
          refine ⟨r1, fun a ha => al a (by simp [ha]), fun z => absurd (kd_fr z).2 (jn_st_ne _), fun z a ha => ?_⟩
          rcases kd_st z with z | z
          · rw [r1.flat z] at ha; cases ha
          · refine st ?_ a (by simp [ha])
            cases kk with
            | fr => exact absurd rfl hk
            | st => rfl
            | bo => exact absurd rfl (jn_st _ z)
        refine ⟨v, vs, rfl, ?_⟩
        refine bindNms_ok hk e (rel.put t i) r2 (fun a ha => al a (by simp [ha])) (fun z a ha => st z a (by simp [ha])) fun σ1 O1 rel1 h1 h2 => q σ1 O1 rel1 (fun j a z => ?_) fun own ho => ?_
        · rcases putO_in (h1 j a z) with z | ⟨z, _⟩
          · exact z
          · exact absurd (kd_fr z).2 (jn_st_ne _)
        · simp only [List.all_cons, Bool.and_eq_true] at ho
          rw [h2 own ho.2]
          exact wipe_put (by simpa using ho.1)
/-- what a target does -/
theorem bind_ok {tg : Tg} {d : D} {kk : Kd} {ρ1 : Env} {v : V} {F : List Addr} {Q : St → Hp → Prop} (e : bindT tg d kk ρ = some ρ1) (rel : Rel f σ H ρ O S) (t : Tm f N H O S v d kk F)
    (q : ∀ σ1 O1 S1, Rel f σ1 H ρ1 O1 S1 → (∀ i a, a ∈ O1 i → (∃ j, a ∈ O j) ∨ N a) → (kk ≠ .fr → ∀ i a, a ∈ O1 i → a ∈ O i) → (∀ a, S a → S1 a) → (∀ a, S1 a → S a ∨ N a) → (kk ≠ .fr → S1 = S) → (∀ own : List Nat, tgInB own tg = true → wipe σ1 own = wipe σ own) → Q σ1 H) : tgG f.K tg v σ H Q := by
  cases tg with
  | nm i =>
    simp only [bindT, Option.some.injEq] at e
    subst e
    refine q _ _ S (rel.put t i) (fun j a z => ?_) (fun hk j a z => ?_) (fun _ z => z) (fun _ z => .inl z) (fun _ => rfl) fun own ho => wipe_put (by simpa [tgInB] using ho)
    · rcases putO_in z with z | ⟨z1, z⟩
      · exact .inl ⟨j, z⟩
      · exact .inr ((t.fr z1).2 a z).2.2.2.1
    · rcases putO_in z with z | ⟨z1, z⟩
      · exact z
      · exact absurd z1 hk
  | tp is =>
    cases d <;> simp only [bindT, reduceCtorEq] at e
    next ds =>
    obtain ⟨p, vs, rfl, ea, la, r⟩ := R.tup' t.r
    have hl : vs.length = is.length := by
      have h1 := r.length
      have h2 : ∀ (is : List Nat) (ds : List D) (ρ : Env), bindNms is ds kk ρ = some ρ1 → ds.length = is.length := by
        intro is
        induction is with
        | nil => intro ds ρ e; cases ds <;> simp_all [bindNms]
        | cons i is ih => intro ds ρ e; cases ds <;> simp_all [bindNms]; exact ih _ _ e
      rw [h1, h2 is ds ρ e]
    refine ⟨p, vs, rfl, ea, hl, ?_⟩
    by_cases hk : kk = .fr
    · subst hk
      obtain ⟨rel', t'⟩ := t.settle rel rfl
      have e' : bindNms is ds .st ρ = some ρ1 := by
        have : ∀ (is : List Nat) (ds : List D) (ρ : Env), bindNms is ds .st ρ = bindNms is ds .fr ρ := by
          intro is
          induction is with
          | nil => intro ds ρ; cases ds <;> rfl
          | cons i is ih => intro ds ρ; cases ds <;> simp [bindNms, jn, ih]
        rw [this]; exact e
      exact bindNms_ok (by intro z; cases z) e' rel' r t'.al (fun _ => t'.st rfl) fun σ1 O1 rel1 h1 h2 => q σ1 O1 _ rel1 (fun j a z => .inl ⟨j, h1 j a z⟩) (fun z => absurd rfl z) (fun a z => .inl z) (fun a z => z.imp id fun z => ((t.fr rfl).2 a z).2.2.2.1) (fun z => absurd rfl z) fun own ho => h2 own ho
    · exact bindNms_ok hk e rel r t.al t.st fun σ1 O1 rel1 h1 h2 => q σ1 O1 S rel1 (fun j a z => .inl ⟨j, h1 j a z⟩) (fun _ => h1) (fun a z => z) (fun a z => .inl z) (fun _ => rfl) fun own ho => h2 own ho
end
end Al
/-! A5i: comprehensions. -/
namespace Al
open PySem L2

section
variable {wd : Wd} {T : Tab} {f : Fx} {k : Nat} {nm : Nms} {X : Cx} {Z : Far} {σ : St} {H H1 : Hp} {ρ : Env} {O : Nat → List Addr} {S : Addr → Prop} {N : Addr → Prop}
theorem assign_names {ok : Str → Bool} (env : PySem.Env) : ∀ {is : List Nat} {es : List Expr}, chkNms T ok is es = true → (assignEach es env).length = is.length ∧ (assignEach es env).findIdx? (fun x => x.1) = none
  | [], [], _ => ⟨rfl, rfl⟩
  | [], _ :: _, h => by cases h
  | _ :: _, [], h => by cases h
  | i :: is, e :: es, h => by
    simp only [chkNms, Bool.and_eq_true] at h
    obtain ⟨h1, h2⟩ := h
    obtain ⟨q1, q2⟩ := assign_names env h2
    cases e <;> simp only [chkNm, Bool.false_eq_true] at h1
    next x pos =>
    have e : assignEach (.Name x pos :: es) env = (false, assign (.Name x pos) env) :: assignEach es env := rfl
    rw [e]
    refine ⟨by simp [q1], ?_⟩
    simp [List.findIdx?_cons, q2]
theorem k_nm (a : At wd T f k nm X) {ok : Str → Bool} (hf : ∀ x, ok x = true → L2.Loc X.env.scope x ∧ (X.fn x = true ∨ X.env.scope.names.lookup x = some .local)) {i : Nat} {e : Expr} (h : chkNm T ok i e = true) : PG X e (gName i) := by
  cases e <;> simp only [chkNm, Bool.false_eq_true] at h
  next x pos =>
  simp only [Bool.and_eq_true, decide_eq_true_eq] at h
  obtain ⟨q1, q2⟩ := hf x h.2
  exact pg_name (by rw [a.N]; exact a.nd) (by rw [a.N]; exact h.1) q1 q2
theorem k_nms (a : At wd T f k nm X) {ok : Str → Bool} (hf : ∀ x, ok x = true → L2.Loc X.env.scope x ∧ (X.fn x = true ∨ X.env.scope.names.lookup x = some .local)) : ∀ {is : List Nat} {es : List Expr}, chkNms T ok is es = true → PGs X es (gNames is)
  | [], [], _ => pgs_nil
  | [], _ :: _, h => by cases h
  | _ :: _, [], h => by cases h
  | i :: is, e :: es, h => by
    simp only [chkNms, Bool.and_eq_true] at h
    refine pgs_cons (k_nm a hf h.1) (k_nms a hf h.2) ?_
    have h1 := h.1
    cases e <;> simp only [chkNm, Bool.false_eq_true] at h1
    rfl
theorem k_tg (a : At wd T f k nm X) {ok : Str → Bool} (hf : ∀ x, ok x = true → L2.Loc X.env.scope x ∧ (X.fn x = true ∨ X.env.scope.names.lookup x = some .local)) {tg : Tg} {t : Expr} (h : chkTg T ok tg t = true) : PG X t (tgG f.K tg) := by
  cases tg with
  | nm i => exact k_nm a hf h
  | tp is =>
    cases t <;> simp only [chkTg, Bool.false_eq_true] at h
    obtain ⟨q1, q2⟩ := assign_names X.env h
    show PG X _ (gTup f.K is.length (gNames is))
    rw [← a.K]
    exact pg_tup a.calm (k_nms a hf h) q1 q2
/-- a comprehension's block -/
theorem At.blk (a : At wd T f k nm X) {f' : Fx} (hw : f'.w = f.w) (hK : f'.K = f.K) (hc : f'.cad = f.cad) {sc : Scope} (hkd : sc.kind = .function) (s : Shared) (H : Hp) (C : Addr) (cl : List (Str × Addr)) (fp : List Addr) : At wd T f' k (relNm nm sc.names) (X.blk s H sc (compEnvC sc cl C X.env) fp) where
  prog := a.prog
  mg := a.mg
  base := a.base
  w' := a.w'
  K' := a.K'
  cad := by rw [hc]; exact a.cad
  N := a.N
  nd := a.nd
  nm := by
    show (relabel sc X.env).names = relNm nm sc.names
    unfold relabel relNm
    refine List.map_congr_left fun x _ => ?_
    obtain ⟨n, kk⟩ := x
    have e : PySem.Env.kindOf X.env n = nm.lookup n := by unfold PySem.Env.kindOf; rw [a.nm]
    simp only [e, a.kd]
    have e2 : (ScopeKind.function == ScopeKind.function) = true := rfl
    rw [e2, Bool.and_true]
  kd := hkd
  calm := a.calm
  K := by rw [hK]; exact a.K
  w := by rw [hw]; exact a.w
  room := a.room
  xe := rfl
  bl := a.bl
  cst := a.cst
  cls := by rw [hc]; exact a.cls
theorem blk_ok {N : List Str} {sc1 sc2 sc : Scope} {own : List (Str × Nat)} (h : sc1.names = sc2.names) (q : blkC N sc1 sc own = true) : blkC N sc2 sc own = true := by
  unfold blkC at q ⊢
  rw [← h]
  exact q
/-- the frame while a list is being made at D -/
def Fx.hold (f : Fx) (D : Addr) (o : HO) : Fx where
  w := f.w
  K := f.K
  cad := f.cad
  H0 := fun a => if a = D then some o else f.H0 a
  B := fun a => f.B a ∧ a ≠ D
  SB := fun a => f.SB a ∧ a ≠ D
  hB := fun a h => by
    by_cases e : a = D
    · rw [if_pos e] at h; cases h
    · rw [if_neg e] at h; exact ⟨f.hB a h, e⟩
  hSB := fun a h => ⟨f.hSB a h.1, h.2⟩
theorem Rel.hold (h : Rel f σ H ρ O S) {D : Addr} {o : HO} (hD : H D = none) : Rel (f.hold D o) σ (upd H D o) ρ O S where
  len := h.len
  slot := fun i d k e => by
    obtain ⟨v, F, e1, r, al, c1, c2⟩ := h.slot i d k e
    have hne : ∀ a ∈ F, a ≠ D := fun a ha z => by
      obtain ⟨o', e'⟩ := r.there a ha
      rw [z, hD] at e'; cases e'
    exact ⟨v, F, e1, R.ext (f := f) r (Ext.new hD), fun a ha => ⟨al a ha, hne a ha⟩, c1, c2⟩
  own := fun i a ha => by
    obtain ⟨c, m, b, ns⟩ := h.own i a ha
    have hne : a ≠ D := fun z => by rw [z, hD] at m; exact m
    exact ⟨c, by rw [upd_ne hne]; exact m, ⟨b, hne⟩, ns⟩
  nod := h.nod
  dis := h.dis
  stb := fun a z => by
    obtain ⟨sb, o', e⟩ := h.stb a z
    have hne : a ≠ D := fun z => by rw [z, hD] at e; cases e
    exact ⟨⟨sb, hne⟩, o', by rw [upd_ne hne]; exact e⟩
  kept := fun a o' hb e => by
    by_cases hne : a = D
    · subst hne
      have e' : (if a = a then some o else f.H0 a) = some o' := e
      rw [if_pos rfl] at e'
      cases e'
      exact upd_same
    · have e' : (if a = D then some o else f.H0 a) = some o' := e
      rw [if_neg hne] at e'
      rw [upd_ne hne]
      exact h.kept a o' (fun z => hb ⟨z, hne⟩) e'
/-- back from it -/
theorem Rel.unhold {D : Addr} {o : HO} (h : Rel (f.hold D o) σ H1 ρ O S) (hB : f.B D) : Rel f σ H1 ρ O S where
  len := h.len
  slot := fun i d k e => by
    obtain ⟨v, F, e1, r, al, c1, c2⟩ := h.slot i d k e
    exact ⟨v, F, e1, r, fun a ha => (al a ha).1, c1, c2⟩
  own := fun i a ha => by
    obtain ⟨c, m, b, ns⟩ := h.own i a ha
    exact ⟨c, m, b.1, ns⟩
  nod := h.nod
  dis := h.dis
  stb := fun a z => ⟨(h.stb a z).1.1, (h.stb a z).2⟩
  kept := fun a o' hb e => by
    have hne : a ≠ D := fun z => hb (z ▸ hB)
    refine h.kept a o' (fun z => hb z.1) ?_
    show (if a = D then some o else f.H0 a) = some o'
    rw [if_neg hne]
    exact e
theorem As.ext {H' : Hp} {vs : List V} {ds : List (D × Kd)} {Fs : List (List Addr)} (h : As f H vs ds Fs) (x : Ext H H') : As f H' vs ds Fs := by
  induction h with
  | nil => exact .nil
  | cons r q _ ih =>
    refine .cons (R.ext r x) (fun hk => ⟨(q hk).1, fun a ha => ?_⟩) ih
    have m := (q hk).2 a ha
    cases e : H a with
    | none => rw [e] at m; exact m.elim
    | some o => rw [x a o e]; rw [e] at m; exact m
/-- things in hand that are not the frame's own, seen from elsewhere -/
theorem Tms.over {f' : Fx} {N' : Addr → Prop} {H' : Hp} {O' : Nat → List Addr} {S' : Addr → Prop} {vs : List V} {ds : List (D × Kd)} {Fs : List (List Addr)} (h : Tms f N H O S vs ds Fs) (hw : f'.w = f.w) (hK : f'.K = f.K) (hc : f'.cad = f.cad) (hnf : ∀ p ∈ ds, p.2 ≠ .fr) (x : Ext H H') (hS : ∀ a, S a → S' a) (hSB : ∀ a, f.SB a → (∃ o, H a = some o) → f'.SB a) : Tms f' N' H' O' S' vs ds Fs := by
  induction h with
  | nil => exact .nil
  | @cons v d kk F vs ds Fs t _ _ ih =>
    have hk : kk ≠ .fr := hnf _ List.mem_cons_self
    refine .cons ⟨?_, fun a ha => hSB a (t.al a ha) (t.r.there a ha), fun z => absurd z hk, fun z a ha => hS a (t.st z a ha)⟩ (ih fun p hp => hnf p (List.mem_cons_of_mem _ hp)) fun z => absurd z hk
    show Al.R f'.w f'.K f'.cad H' [v] [d] F
    rw [hw, hK, hc]
    exact R.ext t.r x
/-- a thing that was made while a list was held -/
theorem Tm.unhold {p : Addr} {o : HO} {v : V} {d : D} {kk : Kd} {F : List Addr} {N' : Addr → Prop} (t : Tm (f.hold p o) N H O S v d kk F) (hN : kk = .fr → ∀ a ∈ F, N a → N' a) : Tm f N' H O S v d kk F :=
  ⟨t.r, fun a ha => (t.al a ha).1, fun z => ⟨(t.fr z).1, fun a ha => let ⟨m, b, ns, n, no⟩ := (t.fr z).2 a ha; ⟨m, b.1, ns, hN z a ha n, no⟩⟩, t.st⟩
theorem Tms.carry {H' : Hp} {O1 : Nat → List Addr} {S1 : Addr → Prop} {vs : List V} {ds : List (D × Kd)} {Fs : List (List Addr)} (h : Tms f N H O S vs ds Fs) (hr : Rel f σ H ρ O S) (s : Stp H O S H' O1 S1) (x : Ext H H') : Tms f N H' O1 S1 vs ds Fs := by
  induction h with
  | nil => exact .nil
  | cons t _ q ih => exact .cons (t.carry hr s (.inr x) fun _ z => z) ih q
theorem Tms.step {σ : St} {ρ : Env} {H' : Hp} {O1 : Nat → List Addr} {S1 : Addr → Prop} {vs : List V} {ds : List (D × Kd)} {Fs : List (List Addr)} (h : Tms f N H O S vs ds Fs) (hr : Rel f σ H ρ O S) (s : Stp H O S H' O1 S1) (hb : ∀ p ∈ ds, p.2 ≠ .bo) : Tms f N H' O1 S1 vs ds Fs := by
  induction h with
  | nil => exact .nil
  | cons t _ q ih => exact .cons (t.carry hr s (.inl (hb _ List.mem_cons_self)) fun _ z => z) (ih fun p hp => hb p (List.mem_cons_of_mem _ hp)) q
/-- the frame's own again; what is in hand is none of it -/
theorem Tms.regain {N' : Addr → Prop} {O' : Nat → List Addr} {vs : List V} {ds : List (D × Kd)} {Fs : List (List Addr)} (h : Tms f N H O S vs ds Fs) (hN : ∀ a, N a → N' a) (hO : ∀ a, N a → ∀ i, a ∉ O' i) : Tms f N' H O' S vs ds Fs := by
  induction h with
  | nil => exact .nil
  | cons t _ q ih => exact .cons ⟨t.r, t.al, fun z => ⟨(t.fr z).1, fun a ha => let ⟨m, b, ns, n, _⟩ := (t.fr z).2 a ha; ⟨m, b, ns, hN a n, hO a n⟩⟩, t.st⟩ ih q
/-- the heap without what stands at a place -/
def erase (H : Hp) (D : Addr) : Hp := fun a => if a = D then none else H a
theorem erase_none {H : Hp} {D : Addr} : erase H D D = none := if_pos rfl
theorem erase_ne {H : Hp} {D a : Addr} (h : a ≠ D) : erase H D a = H a := if_neg h
theorem erase_upd {H : Hp} {D : Addr} {o : HO} (h : H D = some o) : upd (erase H D) D o = H := by
  funext a
  by_cases e : a = D
  · rw [e, upd_same, h]
  · rw [upd_ne e, erase_ne e]
theorem R.erase {vs : List V} {ds : List D} {F : List Addr} {D : Addr} {xs : List V} (h : f.R H vs ds F) (hF : ∀ a ∈ F, a ≠ D) (hD : H D = some (.lst xs)) : f.R (Al.erase H D) vs ds F := by
  refine R.keep h fun a o ha e => ?_
  have hne : a ≠ D := by
    rcases ha with ha | ha
    · exact hF a ha
    · intro z
      rw [z, hD] at e
      cases e
      exact ha trivial
  rw [erase_ne hne]
  exact e
/-- of a comprehension's tests -/
def tC1 (f : Fx) (Z : Far) : Es → TT
  | .cons c .nil => tT f Z c
  | _ => tYes
def tCnd (f : Fx) (Z : Far) (cnd : Es) : TT := fun σ H Q => ∃ f' : Fx, f'.w = f.w ∧ f'.K = f.K ∧ f'.cad = f.cad ∧ tC1 f' Z cnd σ H Q
def tElt (f : Fx) (Z : Far) (elt : E) : TE := fun σ H Q => ∃ f' : Fx, f'.w = f.w ∧ f'.K = f.K ∧ f'.cad = f.cad ∧ tE f' Z elt σ H Q
/-- what is done at an item -/
def lcStep (Z : Far) (elt : E) (tg : Tg) (cnd : Es) (ρc : Env) : D × Kd → Option (Option (D × Kd)) := fun x => match bindT tg x.1 x.2 ρc with
  | none => none
  | some ρ2 => match denEs Z cnd ρ2 with
    | some (.ok [] ρ3) => (match denE Z elt ρ3 with | some (.ok d k _) => some (some (d, k)) | _ => none)
    | some (.ok [(.bl true, _)] ρ3) => (match denE Z elt ρ3 with | some (.ok d k _) => some (some (d, k)) | _ => none)
    | some (.ok [(.bl false, _)] _) => some none
    | _ => none
theorem lc_eq {elt : E} {tg : Tg} {it : Al.It} {cnd : Es} {own : List Nat} (he : elt.eff = false) (hc : cnd.eff = false) {d : D} {kk : Kd} {ρ2 : Env} (e : denE Z (.lc elt tg it cnd own) ρ = some (.ok d kk ρ2)) :
    ∃ xs ys, denI Z false it ρ = some (.ok xs ρ2) ∧ lcF (lcStep Z elt tg cnd (kill (lend ρ2) own)) xs = some ys ∧ d = .lst (ys.map (·.1)) ∧ kk = kdL (ys.map (·.1)) (jnA ys) := by
  simp only [denE, hc, he, Bool.false_eq_true, if_false] at e
  unfold bndL at e
  split at e
  · next xs ρ1 e1 =>
    simp only [Option.map_eq_some_iff, Out.ok.injEq] at e
    obtain ⟨ys, hy, rfl, rfl, rfl⟩ := e
    exact ⟨xs, ys, e1, hy, rfl, rfl⟩
  · cases e
  · cases e
theorem lens_nil {j : Nat} {own : List Nat} : (if j ∈ own then ([] : List Addr) else []) = [] := by split <;> rfl
theorem wipe_wipe (σ : St) (own : List Nat) : wipe (wipe σ own) own = wipe σ own := by
  apply List.ext_getElem?
  intro j
  rw [wipe_get, wipe_get, wipe_length]
  by_cases h : j ∈ own ∧ j < σ.length
  · rw [if_pos h, if_pos h]
  · rw [if_neg h, if_neg h]
theorem Tms.snoc {vs : List V} {ds : List (D × Kd)} {Fs : List (List Addr)} {v : V} {d : D} {kk : Kd} {F : List Addr} (h : Tms f N H O S vs ds Fs) (t : Tm f N H O S v d kk F) : (kk = .fr → ∀ p ∈ ds.zip Fs, p.1.2 = .fr → ∀ a ∈ p.2, a ∉ F) → Tms f N H O S (vs ++ [v]) (ds ++ [(d, kk)]) (Fs ++ [F]) := by
  induction h with
  | nil => exact fun _ => .cons t .nil fun _ p hp => nomatch hp
  | @cons v0 d0 k0 F0 vs ds Fs t0 _ q ih =>
    intro hd
    refine .cons t0 (ih fun hk p hp => hd hk p (by simp [hp])) fun hk p hp hf a ha hb => ?_
    have hz : (ds ++ [(d, kk)]).zip (Fs ++ [F]) = ds.zip Fs ++ [((d, kk), F)] := by
      have hl : ds.length = Fs.length := Tms.lens ‹_›
      rw [List.zip_append hl]
      rfl
    have hp : p ∈ (ds ++ [(d, kk)]).zip (Fs ++ [F]) := hp
    rw [hz, List.mem_append] at hp
    rcases hp with hp | hp
    · exact q hk p hp hf a ha hb
    · obtain rfl := List.mem_singleton.mp hp
      exact hd hf ((d0, k0), F0) (by simp) hk a ha hb
/-- a comprehension's reading -/
theorem r_lc {elt : E} {tg : Tg} {it : Al.It} {cnd : Es} {own : List Nat} {Q : VK} (he : elt.eff = false) (hc : cnd.eff = false) (hn : cnd = .nil ∨ ∃ c, cnd = .cons c .nil) (htg : tgInB own tg = true) (h : tE f Z (.lc elt tg it cnd own) σ H Q) :
    tLc (tI f Z false it) (tgG f.K tg) (tCnd f Z cnd) (tElt f Z elt) own σ H Q := by
  obtain ⟨ρ, O, S, d, kk, ρ1, rel, e, fin⟩ := h
  obtain ⟨xs, ys, e1, e2, rfl, rfl⟩ := lc_eq he hc e
  refine ⟨ρ, O, S, xs, ρ1, rel, e1, fun J vs ds H1 O1 S1 Fs rel1 s1 tm1 hnf _ ok w1 p hp => ?_⟩
  have relc : Rel f (wipe σ own) H1 (kill (lend ρ1) own) (fun _ => []) S1 := by
    have r := rel1.lend.kill own (.inr rfl)
    have e : (fun j => if j ∈ own then ([] : List Addr) else []) = fun _ => [] := by funext j; exact lens_nil
    rw [e] at r
    exact r
  have hBp : f.B p := rel1.fresh hp
  let stepF := lcStep Z elt tg cnd (kill (lend ρ1) own)
  let Wi : Nat → Nat → Hp → Prop := fun i m H' => ∃ Hm S' acc dsA Fa rest, H' = upd Hm p (.lst acc) ∧ Hm p = none ∧ Ext H1 Hm ∧ Rel f (wipe σ own) Hm (kill (lend ρ1) own) (fun _ => []) S' ∧ (∀ a, S1 a → S' a) ∧ (∀ a, S' a → S1 a ∨ H1 a = none) ∧
    Tms f (fun a => H1 a = none) Hm (fun _ => []) S' acc dsA Fa ∧ lcF stepF (xs.drop i) = some rest ∧ ys = dsA ++ rest ∧ i ≤ xs.length ∧ m = xs.length - i ∧ acc.length ≤ i
  refine ⟨Wi, ⟨xs.length, H1, S1, [], [], [], ys, rfl, hp, Ext.refl H1, relc, (fun _ z => z), (fun _ z => .inl z), .nil, by simpa using e2, rfl, Nat.zero_le _, by simp, Nat.le_refl _⟩, ?_⟩
  rintro i m H' ⟨Hm, S', acc, dsA, Fa, rest, rfl, hpm, xm, relm, mS, mS', tA, eR, eY, hi, rfl, hla⟩
  have xH : Ext Hm (upd Hm p (.lst acc)) := Ext.new hpm
  obtain ⟨ok1, ok2, ok3, ok4, ok5⟩ := ok (upd Hm p (.lst acc)) Fs (fun a o hb e => xH a o (relm.kept a o hb e)) (tm1.as.ext (xm.trans xH))
  by_cases hlt : i < xs.length
  · right
    refine ⟨ok3 i hlt, Wi (i + 1) (xs.length - (i + 1)), fun H'' z => ⟨_, by omega, z⟩, fun x H'' hy => ?_⟩
    -- what has been made so far, at a heap that has grown
    have hpH : ∀ {Hx : Hp}, Ext (upd Hm p (.lst acc)) Hx → Hx p = some (.lst acc) := fun x => x p _ upd_same
    have adv : ∀ (Hx : Hp) (Sx : Addr → Prop), Ext (upd Hm p (.lst acc)) Hx → (∀ a, S' a → Sx a) → (∀ a, Sx a → S' a ∨ upd Hm p (.lst acc) a = none) → (∀ a, Sx a → f.SB a ∧ a ≠ p ∧ ∃ o, Hx a = some o) →
        Ext Hm (erase Hx p) ∧ Rel f (wipe σ own) (erase Hx p) (kill (lend ρ1) own) (fun _ => []) Sx ∧ Tms f (fun a => H1 a = none) (erase Hx p) (fun _ => []) Sx acc dsA Fa ∧ (∀ a, S1 a → Sx a) ∧ (∀ a, Sx a → S1 a ∨ H1 a = none) := by
      intro Hx Sx xx h1 h2 h3
      have xe : Ext Hm (erase Hx p) := fun a o e => by
        have hne : a ≠ p := fun z => by rw [z, hpm] at e; cases e
        rw [erase_ne hne]
        exact xx a o (xH a o e)
      have hst : ∀ a, Sx a → S' a ∨ Hm a = none := fun a z => (h2 a z).imp id fun z => xH.free z
      refine ⟨xe, relm.grow xe Sx h1 fun a z => ?_, ?_, fun a z => h1 a (mS a z), fun a z => ?_⟩
      · obtain ⟨sb, hne, o, e⟩ := h3 a z
        exact ⟨sb, ⟨o, by rw [erase_ne hne]; exact e⟩, fun i q => nomatch q⟩
      · exact tA.carry relm ⟨fun a o _ e => xe a o e, fun i a z => (nomatch z), fun a z => (hst a z).imp id .inr, h1⟩ xe
      · rcases hst a z with z | z
        · exact mS' a z
        · exact .inr (xm.free z)
    -- the item
    have hget : xs[i]? = some xs[i] := List.getElem?_eq_getElem hlt
    obtain ⟨E', pst⟩ := ok5 i x H'' xs[i] hget hy
    have relh := relm.hold (o := .lst acc) hpm
    have tmh : Tms (f.hold p (.lst acc)) (fun a => upd Hm p (.lst acc) a = none) (upd Hm p (.lst acc)) (fun _ => []) S' vs ds Fs :=
      tm1.over rfl rfl rfl hnf (xm.trans xH) mS fun a sb ⟨o, e⟩ => ⟨sb, fun z => by rw [z, hp] at e; cases e⟩
    obtain ⟨S2, rel2, tmi, m1, m2⟩ := Pst.done relh tmh (fun a z => z) (⟨pst.ext, pst.r, pst.src, pst.fr, pst.st⟩ : Pst (f.hold p (.lst acc)) _ _ _ _ _ _ _)
    have hdrop : xs.drop i = xs[i] :: xs.drop (i + 1) := List.drop_eq_getElem_cons hlt
    rw [hdrop] at eR
    have kne : xs[i].2 ≠ .fr := ok2 _ (List.getElem_mem hlt)
    have hLn : acc.length < sizeLine := by rw [← LINE_eq]; omega
    have eS : lcF stepF (xs[i] :: xs.drop (i + 1)) = (match stepF xs[i] with | none => none | some none => lcF stepF (xs.drop (i + 1)) | some (some y) => (lcF stepF (xs.drop (i + 1))).map (y :: ·)) := rfl
    rw [eS] at eR
    have eT : stepF xs[i] = lcStep Z elt tg cnd (kill (lend ρ1) own) xs[i] := rfl
    unfold lcStep at eT
    cases eb : bindT tg xs[i].1 xs[i].2 (kill (lend ρ1) own) with
    | none => rw [eb] at eT; rw [eT] at eR; cases eR
    | some ρ2 =>
      rw [eb] at eT
      dsimp only at eT
      refine bind_ok (f := f.hold p (.lst acc)) eb rel2 tmi fun σ1 O1' S1' rel3 b1 b2 b3 b4 b5 b6 => ⟨(b6 own htg).trans (wipe_wipe σ own), ?_⟩
      obtain rfl := b5 kne
      have hO : O1' = fun _ => [] := by
        funext j
        cases e : O1' j with
        | nil => rfl
        | cons a r => exact absurd (b2 kne j a (by rw [e]; simp)) (by simp)
      subst hO
      -- behind the item: the state that the tests and the item's expression see
      have S2ok : ∀ (Hx : Hp) (Sx : Addr → Prop), Ext H'' Hx → (∀ a, S1' a → Sx a) → (∀ a, Sx a → S1' a ∨ H'' a = none) → (∀ a, Sx a → (f.hold p (.lst acc)).SB a ∧ ∃ o, Hx a = some o) →
          Ext Hm (erase Hx p) ∧ Rel f (wipe σ own) (erase Hx p) (kill (lend ρ1) own) (fun _ => []) Sx ∧ Tms f (fun a => H1 a = none) (erase Hx p) (fun _ => []) Sx acc dsA Fa ∧ (∀ a, S1 a → Sx a) ∧ (∀ a, Sx a → S1 a ∨ H1 a = none) := by
        intro Hx Sx xx h1 h2 h3
        refine adv Hx Sx (pst.ext.trans xx) (fun a z => h1 a (m1 a z)) (fun a z => ?_) fun a z => ⟨(h3 a z).1.1, (h3 a z).1.2, (h3 a z).2⟩
        rcases h2 a z with z | z
        · exact m2 a z
        · exact .inr (pst.ext.free z)
      -- the item's expression
      have made : ∀ (H3 : Hp) (S3 : Addr → Prop) (d : D) (kk : Kd) (ρ4 : Env), Ext H'' H3 → Rel (f.hold p (.lst acc)) σ1 H3 ρ2 (fun _ => []) S3 → (∀ a, S1' a → S3 a) → (∀ a, S3 a → S1' a ∨ H'' a = none) → denE Z elt ρ2 = some (.ok d kk ρ4) →
          (∃ rest', lcF stepF (xs.drop (i + 1)) = some rest' ∧ rest = (d, kk) :: rest') → tElt f Z elt σ1 H3 fun y H4 => ∃ acc, H4 p = some (.lst acc) ∧ acc.length < sizeLine ∧ Wi (i + 1) (xs.length - (i + 1)) (upd H4 p (.lst (acc ++ [y]))) := by
        rintro H3 S3 d kk ρ4 x3 rel4 n1 n2 e3 ⟨rest', er, rfl⟩
        refine ⟨f.hold p (.lst acc), rfl, rfl, rfl, ρ2, _, S3, d, kk, ρ4, rel4, e3, fun y H4 O4 S4 F4 rel5 s5 t5 w5 => ?_⟩
        obtain ⟨x4, rfl, rfl⟩ := w5 he
        have xall := pst.ext.trans (x3.trans x4)
        refine ⟨acc, hpH xall, hLn, ?_⟩
        obtain ⟨q1, q2, q3, q4, q5⟩ := S2ok H4 S4 (x3.trans x4) (fun a z => s5.mono a (n1 a z)) (fun a z => by
          rcases s5.st' a z with z | ⟨j, z⟩ | z
          · exact n2 a z
          · cases z
          · exact .inr (x3.free z)) rel5.stb
        have hFp : ∀ a ∈ F4, a ≠ p := fun a ha => (t5.al a ha).2
        have hNew : kk = .fr → ∀ a ∈ F4, H3 a = none := fun hk a ha => by
          rcases ((t5.fr hk).2 a ha).2.2.2.1 with ⟨j, z⟩ | z
          · cases z
          · exact z
        have tnew : Tm f (fun a => H1 a = none) (erase H4 p) (fun _ => []) S4 y d kk F4 := by
          refine ⟨R.erase t5.r hFp (hpH xall), fun a ha => (t5.al a ha).1, fun hk => ⟨(t5.fr hk).1, fun a ha => ?_⟩, t5.st⟩
          obtain ⟨mm, bb, ns, _, _⟩ := (t5.fr hk).2 a ha
          refine ⟨by rw [erase_ne (hFp a ha)]; exact mm, bb.1, ns, ?_, fun i z => nomatch z⟩
          exact xm.free (xH.free (pst.ext.free (x3.free (hNew hk a ha))))
        refine ⟨erase H4 p, S4, acc ++ [y], dsA ++ [(d, kk)], Fa ++ [F4], rest', ?_, erase_none, xm.trans q1, q2, q4, q5, q3.snoc tnew (fun hk q hq hf a ha hb => ?_), er, by rw [eY]; simp, hlt, rfl, by simp; omega⟩
        · funext a
          by_cases e : a = p
          · rw [e, upd_same, upd_same]
          · rw [upd_ne e, upd_ne e, erase_ne e]
        · obtain ⟨u, tu⟩ := tA.mem q hq
          obtain ⟨o, eo⟩ := tu.r.there a ha
          have := x3.free (hNew hk a hb)
          rw [pst.ext a o (xH a o eo)] at this
          cases this
      rcases hn with rfl | ⟨c, rfl⟩
      · -- no test
        simp only [denEs] at eT
        refine ⟨f.hold p (.lst acc), rfl, rfl, rfl, ?_⟩
        cases ee : denE Z elt ρ2 with
        | none => rw [ee] at eT; rw [eT] at eR; cases eR
        | some out =>
          rw [ee] at eT
          cases out with
          | ex c pp ρ' => rw [eT] at eR; cases eR
          | ok d kk ρ4 =>
            rw [eT] at eR
            simp only [Option.map_eq_some_iff] at eR
            obtain ⟨rest', er, rfl⟩ := eR
            exact made H'' S1' d kk ρ4 (Ext.refl _) rel3 (fun a z => z) (fun a z => .inl z) ee ⟨rest', er, rfl⟩
      · -- one test
        have hcf : c.eff = false := by simpa [Es.eff] using hc
        cases ec : denEs Z (.cons c .nil) ρ2 with
        | none => rw [ec] at eT; rw [eT] at eR; cases eR
        | some out =>
          rw [ec] at eT
          cases out with
          | ex c pp ρ' => rw [eT] at eR; cases eR
          | ok dsc ρ3 =>
            obtain ⟨dc, kc, ρ3', ds', q1, q2, rfl, _⟩ := denEs_cons (.inr rfl) ec
            simp only [denEs, Option.some.injEq, OutL.ok.injEq] at q2
            obtain ⟨rfl, rfl⟩ := q2
            refine ⟨f.hold p (.lst acc), rfl, rfl, rfl, ρ2, _, S1', dc, kc, ρ3', rel3, q1, fun v H3 O3 S3 F3 rel4 s4 t4 w4 => ?_⟩
            obtain ⟨x3, rfl, rfl⟩ := w4 hcf
            have n2 : ∀ a, S3 a → S1' a ∨ H'' a = none := fun a z => by
              rcases s4.st' a z with z | ⟨j, z⟩ | z
              · exact .inl z
              · cases z
              · exact .inr z
            obtain ⟨b, rfl⟩ : ∃ b, dc = .bl b := by
              cases dc with
              | bl b => exact ⟨b, rfl⟩
              | _ =>
                exfalso
                have eT2 : stepF xs[i] = none := eT
                rw [eT2] at eR
                cases eR
            obtain ⟨rfl, _⟩ := R.bl t4.r
            cases b with
            | true =>
              refine ⟨true, rfl, ?_⟩
              cases ee : denE Z elt ρ3' with
              | none =>
                have eT2 : stepF xs[i] = (match denE Z elt ρ3' with | some (.ok d k _) => some (some (d, k)) | _ => none) := eT
                rw [ee] at eT2; rw [eT2] at eR; cases eR
              | some out =>
                have eT2 : stepF xs[i] = (match denE Z elt ρ3' with | some (.ok d k _) => some (some (d, k)) | _ => none) := eT
                rw [ee] at eT2
                cases out with
                | ex c pp ρ' => rw [eT2] at eR; cases eR
                | ok d kk ρ4 =>
                  rw [eT2] at eR
                  simp only [Option.map_eq_some_iff] at eR
                  obtain ⟨rest', er, rfl⟩ := eR
                  exact made H3 S3 d kk ρ4 x3 rel4 s4.mono n2 ee ⟨rest', er, rfl⟩
            | false =>
              refine ⟨false, rfl, ?_⟩
              have eT2 : stepF xs[i] = some none := eT
              rw [eT2] at eR
              obtain ⟨q1, q2, q3, q4, q5⟩ := S2ok H3 S3 x3 s4.mono n2 rel4.stb
              exact ⟨erase H3 p, S3, acc, dsA, Fa, rest, (erase_upd (hpH (pst.ext.trans x3))).symm, erase_none, xm.trans q1, q2, q4, q5, q3, eR, eY, hlt, rfl, by omega⟩
  · left
    have hi' : i = xs.length := by omega
    subst hi'
    rw [List.drop_length] at eR
    cases eR
    rw [List.append_nil] at eY
    subst eY
    refine ⟨ok4, ?_⟩
    have relf : Rel f σ Hm ρ1 O1 S' := rel1.grow xm S' mS fun a z => ⟨(relm.stb a z).1, (relm.stb a z).2, fun j q => by
      obtain ⟨_, mm, _, ns⟩ := rel1.own j a q
      rcases mS' a z with z | z
      · exact ns z
      · rw [z] at mm; exact mm⟩
    have tf : Tms f (New H O) Hm O1 S' acc ys Fa := tA.regain (fun a z => s1.back (.inr z)) fun a z j q => by
      have mm := (rel1.own j a q).2.1
      rw [z] at mm
      exact mm
    refine fin_pst (m := .lc elt tg it cnd own) relf ((s1.ext xm).more mS fun a z => (mS' a z).imp id fun z => s1.back (.inr z)) tf (e1 := it.eff) (fun h => ?_) (fun h => ?_) (tf.pstL hpm (by have := LINE1; omega)) fin
    · obtain ⟨x1, e1, e2⟩ := w1 h
      exact ⟨x1.trans xm, e1, e2⟩
    · simp only [E.eff, Bool.or_eq_false_iff] at h
      exact h.1
end
end Al
/-! A6e: pop. -/
namespace Al
open PySem L2

section
variable {wd : Wd} {T : Tab} {f : Fx} {k : Nat} {nm : Nms} {X : Cx} {Z : Far} {σ : St} {H H1 : Hp} {ρ : Env} {O O1 : Nat → List Addr} {S S1 : Addr → Prop} {N : Addr → Prop}
theorem isLst_some {o : Option (Al.D × Kd)} (h : isLst o = true) : ∃ xs, o = some (.lst xs, .fr) := by
  unfold isLst at h
  split at h
  · exact ⟨_, rfl⟩
  · cases h
theorem R.eraseAt {vs : List V} {es : List Al.D} {E : List Addr} {j : Nat} {x : Al.D} (r : f.R H vs es E) (e : es[j]? = some x) (hf : Al.flat x = true) : ∃ v, vs[j]? = some v ∧ f.R H [v] [x] [] ∧ f.R H (vs.eraseIdx j) (es.eraseIdx j) E := by
  obtain ⟨v, A, F, B, e1, rfl, r1, r2, r3⟩ := r.at e
  obtain rfl := R.flat r1 hf
  refine ⟨v, e1, r1, ?_⟩
  rw [List.eraseIdx_eq_take_drop_succ, List.eraseIdx_eq_take_drop_succ]
  simpa using r2.app r3
theorem r_pop {s : Nat} {i : E} {Q : VK} (h : tE f Z (.pop s i) σ H Q) : tBM f.K "list" rPopAt (tVar s) (tCons (tE f Z i) tNil) σ H Q := by
  obtain ⟨ρ, O, S, d, kk, ρ1, rel, e, q⟩ := h
  simp only [denE] at e
  split at e
  · cases e
  · next hl =>
    have hl : isLst (look ρ s) = true := by simpa using hl
    obtain ⟨xs0, hl0⟩ := isLst_some hl
    obtain ⟨a, vs0, E0, hv, ha0, _, _, _⟩ := slot_lst rel hl0
    refine ⟨.ref a, hv, .inl ⟨rfl, vs0, SqL.of ha0⟩, ?_⟩
    unfold bnd at e
    split at e
    · next n kn ρ2 e2 =>
      refine ⟨ρ, O, S, n, kn, ρ2, rel, e2, fun y H1 O1 S1 F rel1 s1 t1 w1 => ?_⟩
      dsimp only at e
      split at e
      · next xs n' hl1 =>
        simp only [Option.bind_eq_some_iff] at e
        obtain ⟨j, hj, e⟩ := e
        split at e
        · next x hx =>
          split at e
          · next hf =>
            simp only [Option.some.injEq, Out.ok.injEq] at e
            obtain ⟨rfl, rfl, rfl⟩ := e
            obtain ⟨rfl, _⟩ := R.int t1.r
            obtain ⟨a', vs, E, hv', ha, la, r, hO⟩ := slot_lst rel1 hl1
            rw [hv] at hv'
            cases hv'
            have hlen := r.length
            obtain ⟨v, ev, rv, r'⟩ := R.eraseAt r hx hf
            have hj' : ixN vs.length n' = some j := by rw [hlen, ← ixI_eq]; exact hj
            obtain ⟨q1, q2, q3, q4⟩ := ixN_seq hj'
            have hL : LINE = 16777216 := rfl
            have nd := rel1.nod s
            rw [hO] at nd
            obtain ⟨nd1, nd2⟩ := List.nodup_cons.mp nd
            obtain ⟨rel2, s2⟩ := rel1.setLst s1 hl1 hv ha hO r' (by have := List.length_eraseIdx_le vs j; omega) nd2 fun b hb => by
              have o := rel1.own s b (by rw [hO]; exact List.mem_cons_of_mem _ hb)
              exact ⟨fun z => nd1 (z ▸ hb), o.2.1, o.2.2.1, o.2.2.2, .inl hb⟩
            refine ⟨a, vs, n', j, v, rfl, rfl, ha, by omega, by omega, q1, ev, q v _ _ S1 [] rel2 s2 ⟨?_, (fun _ z => nomatch z), (fun z => nomatch z), fun _ _ z => nomatch z⟩ fun z => nomatch z⟩
            exact R.keep rv fun b o hb e => by
              rcases hb with hb | hb
              · cases hb
              · rw [upd_ne (fun z => hb (by rw [z, ha] at e; cases e; trivial))]
                exact e
          · cases e
        · cases e
      · cases e
    · cases e
    · cases e
theorem k_pop (a : At wd T f k nm X) {s : Nat} {i : E} {e : Expr} (h : chkE T nm (.pop s i) e = true) (ih : ∀ e, chkE T nm i e = true → E1 T f Z nm X i e) : E1 T f Z nm X (.pop s i) e := by
  cases e with
  | Call fn as kws cpos =>
    cases fn with
    | Attribute x m apos =>
      cases x with
      | Name x xp =>
        cases as with
        | nil => cases h
        | cons y r =>
          cases r with
          | cons _ _ => cases h
          | nil =>
            cases kws with
            | cons _ _ => cases h
            | nil =>
              have h : (decide (m = "pop") && (okVar T nm s x && (noStar y && (decide (apos.endLine = cpos.line) && chkE T nm i y)))) = true := h
              simp only [Bool.and_eq_true, decide_eq_true_eq] at h
              obtain ⟨rfl, h1, h2, h3, h4⟩ := h
              have pb := pe_bm F.plainAttrs_list F.slot_list_pop F.type_list_pop mt_popAt (a.var (pos := xp) h1) (pa_cons (ih y h4).pe pa_nil (star_one h2 _ _)) rfl (by rw [star_one h2]; rfl) (by rw [h3]; simp) (star_one h2 _ _) (star_all (es := []) rfl _ _) (cpos := cpos) (apos := apos)
              rw [a.K] at pb
              exact E1.of a (PE.mono pb fun σ H Q => r_pop) rfl fun j hj => nomatch hj
      | _ => cases h
    | _ => cases h
  | _ => cases h
end
end Al
/-! A6f: sorted with a key. -/
namespace Al
open PySem L2
open PyProof.Rows (AllBare seqObj)
open PySem.W (KeepsBut EachIs)
section
variable {wd : Wd} {T : Tab} {f : Fx} {k : Nat} {nm : Nms} {X : Cx} {Z : Far} {σ : St} {H H1 : Hp} {O : Nat → List Addr} {S : Addr → Prop}
theorem room_in2 {k : Nat} {A : Around} (r : Room (k + 1) A) : Room k A.in1.in1 :=
  ⟨r.hd, by have := r.dp; show A.depth + 3 * k + 5 < _; omega, by have := r.un; show A.units + 1 + 1 + 16 * k + 200 < _; omega⟩
theorem keysBy_get {g : D → Option Res} : ∀ {xs ks : List D}, keysBy g xs = some ks → ks.length = xs.length ∧ ks.all flat = true ∧ ∀ (i : Nat) (d kd : D), xs[i]? = some d → ks[i]? = some kd → ∃ k out, g d = some (.ok kd k out)
  | [], ks, h => by cases h; exact ⟨rfl, rfl, fun i d kd e => by simp at e⟩
  | x :: xs, ks, h => by
    unfold keysBy at h
    split at h
    · next d k out e =>
      split at h
      · next hf =>
        rw [Option.map_eq_some_iff] at h
        obtain ⟨ks', h', rfl⟩ := h
        obtain ⟨q1, q2, q3⟩ := keysBy_get h'
        refine ⟨by simp [q1], by simp [hf, q2], fun i y kd e1 e2 => ?_⟩
        cases i with
        | zero => cases e1; cases e2; exact ⟨k, out, e⟩
        | succ i => exact q3 i y kd (by simpa using e1) (by simpa using e2)
      · cases h
    · cases h
/-- the reading of sorted with a key -/
def rSortK (f : Fx) (Z : Far) (g : Fn) (fa : Addr) : List V → List V → Hp → VK → Prop := fun vs zs H Q => zs = [.ref fa] ∧ ∃ d kd Fs y, As f H vs [(d, kd)] Fs ∧ sortKD (fun x => run Z g [x]) d = some y ∧ ∀ v H' F, Pst f H ([(d, kd)].zip Fs) y .fr v H' F → Q v H'
theorem c_sortK (a : At wd T f k nm X) (hZ : Z = wd.Z) {g : Fn} (h5 : g.isMut = false) {ad : Addr} {fd : FuncData} {ps : List Str} {j : Nat} (F : FnOk wd.prog wd.w wd.K wd.mg wd.base CX0 j ad fd ps (spFn wd.w wd.K wd.cad wd.Z g)) (hj : j ≤ k) (hb : Binds wd.K fd ps []) :
    CallRK X (.builtin "sorted") [Str.ofString "key"] (rSortK f Z g ad) := by
  intro pins s σ H vs zs us ws Q I r rz h
  obtain ⟨rfl, d, kd, Fs, y, as, hp, q⟩ := h
  obtain ⟨u2, rfl, rx2⟩ := vals1r rz
  cases rx2
  unfold sortKD at hp
  split at hp
  · next xs hko =>
    split at hp
    · next hc =>
      simp only [Bool.and_eq_true, decide_eq_true_eq] at hc
      split at hp
      · next ks hks =>
        split at hp
        · next hsrt =>
          simp only [Option.some.injEq] at hp
          subst hp
          obtain ⟨hl, hfl, hget⟩ := keysBy_get hks
          have hu : X.A.units + 64 < cLine := a.room.units
          have hz : xs.length ≤ sizeLine := by rw [← LINE_eq]; exact hc.2
          have hmu := mu_nil h5
          have eW : f.w = wd.w := by rw [← a.w, a.w']
          have eK : f.K = wd.K := by rw [← a.K, a.K']
          -- a turn
          have turn : ∀ (s1 : Shared) (H1 : Hp) (u : Value) (x : V) (i : Nat) (d kd : D) {EE : Value → Shared → Prop}, L2.Inv X pins σ H1 s1 → Ext H H1 → RelV x u → f.R H1 [x] [d] [] → xs[i]? = some d → ks[i]? = some kd →
              wpAny (model X.prog X.w) X.A.in1.in1 (call (.ref ad) [u]) (CE X.stack X.prog X.w H1 s1 fun v H2 => Ext H1 H2 ∧ f.R H2 [v] [kd] []) EE s1 := by
            intro s1 H1 u x i d kd EE I1 _ rx hx e1 e2
            obtain ⟨k', out, hrun⟩ := hget i d kd e1 e2
            have hfk : flat kd = true := List.all_eq_true.mp hfl kd (List.mem_of_getElem? e2)
            have F' : FnOk X.prog X.w X.K X.mg X.base CX0 j ad fd ps (spFn wd.w wd.K wd.cad wd.Z g) := by
              rw [a.prog, a.w', a.K', a.mg, a.base]; exact F
            have sp : spFn wd.w wd.K wd.cad wd.Z g [x] H1 (fun v H2 => Ext H1 H2 ∧ f.R H2 [v] [kd] []) (fun _ _ _ => False) := by
              refine ⟨[d], [[]], kd, k', out, ?_, by rw [← hZ]; exact hrun, fun v H' F Gs hl => ?_⟩
              · rw [hmu, ← eW, ← eK, ← a.cad]
                exact ⟨.cons hx .nil, fun i hi => (nomatch hi), fun i hi => nomatch hi⟩
              · rw [hmu, ← eW, ← eK, ← a.cad] at hl
                have hF := R.flat hl.r hfk
                subst hF
                exact ⟨fun a o e => hl.keep a o (fun i hi => nomatch hi) e, hl.r⟩
            have hl1 : ([u] ++ ([] : List Value)).length = ps.length := by have := F'.len _ _ _ _ sp; simpa using this
            refine wpAny_call (codeAny_mono (F'.run X.A.in1.in1 X.stack s1 H1 ⟨[u], []⟩ ([u] ++ []) ([x] ++ []) _ _ (room_in2 (a.room.mono (Nat.succ_le_succ hj))) I1.env0.in1.in1 (by rw [← a.K'] at hb; exact hb s1 [u] I1.kIn hl1) (.cons rx .nil) sp) fun r s' hq => ?_)
            cases r with
            | error e => exact False.elim hq
            | ok fl =>
              cases fl with
              | ret u => exact hq
              | next => exact False.elim hq
              | brk => exact False.elim hq
              | cont => exact False.elim hq
          have qq : ∀ {x : V} {F : List Addr}, vs = [x] → Fs = [F] → f.R H [x] [d] F → ∀ p ws H', Ext H H' → H p = none → H' p = none → f.R H' ws (((ks.zip xs).mergeSort fun p q => leD p.1 q.1).map (·.2)) [] → ws.length = xs.length → Q (.ref p) (L2.upd H' p (.lst ws)) := by
            intro x F e1 e2 rx p ws H' ext np np' rw' hl'
            subst e1 e2
            have hlen : ws.length ≤ LINE := by rw [hl']; exact hc.2
            refine q _ _ [p] ⟨ext.trans (Ext.new np'), R.lst (E := []) (F := []) upd_same hlen (R.ext rw' (Ext.new np')) .nil, fun a ha => ?_, fun _ => ⟨by simp, fun a ha => ?_⟩, fun e => nomatch e⟩
            · rw [List.mem_singleton.mp ha]; exact .inl np
            · rw [List.mem_singleton.mp ha]; exact ⟨by rw [upd_same]; exact True.intro, .inl np⟩
          obtain ⟨x, F2, rfl, rfl, ra, _⟩ := as.d1
          have q2 := qq rfl rfl ra
          obtain ⟨u, rfl, rx⟩ := vals1r r
          rw [a.xe]
          cases d with
          | lst ys =>
            cases hko
            obtain ⟨p, vs, E, rfl, ea, la, r1, rfl⟩ := ra.lst'
            cases rx
            obtain rfl := R.flats r1 hc.1
            obtain ⟨its, rv, hli, hz2⟩ := I.list (SqL.of (K := X.K) ea)
            refine sorted_key_of a.K hu I hl hsrt hfl hz (fun {R E'} hR => ?_) turn q2
            refine PyProof.Rows.collect_list hli.isList (hR _ _ _ (fun b o e => ?_) (each_of r1 rv)) (by rw [← rv.length]; exact hz2)
            have hb : b ≠ s.heap.objs.size := Nat.ne_of_lt (Heap.lt_size e)
            exact (Heap.get?_update_ne _ _ _ _ hb).trans (Heap.get?_push_of_some _ e)
          | dic t kvs =>
            cases t with
            | true => cases hko
            | false =>
              cases hko
              obtain ⟨p, vs, E, rfl, ea, la, m, t, r1, rfl⟩ := ra.dk'
              cases rx
              have rk : f.R H (vs.map fun p => kV p.1) (kvs.map (·.1)) [] := kV_R m t.2
              have hvl : vs.length = kvs.length := by have := congrArg List.length m; simpa using this
              obtain ⟨z, lo, us2, rel, dd⟩ := dk_rd I.hok ea
              obtain ⟨ep, hat⟩ := dd.dictAt
              have hul : us2.length = kvs.length := by rw [← rel.length]; exact hvl
              refine sorted_key_of a.K hu I hl hsrt hfl hz (fun {R E'} hR => ?_) turn q2
              refine PySem.W.kdu_collect (A := X.A.in1) (PySem.W.kdl_dict (knd := mixKind X.prog X.w) (kvs := us2) (ep := ep) lo) (I.ok.hd a.calm) hat (by rw [hul]; rw [List.length_map] at hz; exact hz) fun h' tk acc hk hacc => hR h' tk acc.toList hk ?_
              have hv := keys_at (us := acc.toList) (vs := us2) (by rw [Array.length_toList]; exact hacc.1) fun j v e => by
                obtain ⟨k, x, e1, e2⟩ := hacc.2 j v (by rw [← Array.getElem?_toList]; exact e)
                exact ⟨k, x, e1, e2⟩
              have ek : us2.map (fun p => kV p.1) = vs.map fun p => kV p.1 := by
                have := rel.keys
                have h2 := congrArg (List.map kV) this
                rw [List.map_map, List.map_map] at h2
                exact h2.symm
              rw [ek] at hv
              exact each_of rk hv
          | _ => cases hko
        · cases hp
      · cases hp
    · cases hp
  · cases hp
theorem k_sortK (a : At wd T f k nm X) (hZ : Z = wd.Z) {g : Fn} {m : E} {e : Expr} (h : chkE T nm (.sortK g m) e = true) (hP : PF wd T k g) (ih : ∀ e, chkE T nm m e = true → E1 T f Z nm X m e) : E1 T f Z nm X (.sortK g m) e := by
  cases e with
  | Call fn as kws cpos =>
    cases fn with
    | Name x xp =>
      cases as with
      | nil => cases h
      | cons y r =>
        cases r with
        | cons _ _ => cases h
        | nil =>
          cases kws with
          | nil => cases h
          | cons kw kws =>
            cases kws with
            | cons _ _ => obtain ⟨kn, kv, kp⟩ := kw; cases kn <;> cases kv <;> cases h
            | nil =>
              obtain ⟨kn, kv, kp⟩ := kw
              cases kn with
              | none => cases h
              | some kn =>
                cases kv with
                | Name kx kxp =>
                  have h : (bt T nm x "sorted" && (decide (kn = "key") && (gl nm kx && (!(kx == ("__debug__" : Str)) && (fnOkB T kx g.nm && (!g.isMut && (noStar y && chkE T nm m y))))))) = true := h
                  simp only [Bool.and_eq_true, decide_eq_true_eq, Bool.not_eq_true', fnOkB] at h
                  obtain ⟨hb, rfl, h1, h2, h3, h5, h6, h7⟩ := h
                  obtain ⟨rfl, hg, hm⟩ := a.bt hb
                  obtain ⟨ad, fd, ps, j, F, hj, hma, hk, hbi⟩ := hP kx h3
                  have pb := pe_callBK (pos := cpos) (p := xp) (c_sortK a hZ h5 F hj hbi) hg hm (by decide +kernel) (pa_cons (ih y h7).pe pa_nil (star_one h6 _ _)) (pk_cons (nm := some "key") (kpos := kp) (pe_glob (pos := kxp) (v := .ref ad) (u := .ref ad) (a.gl h1) (by rw [a.mg]; exact hma) rfl h2) pk_nil) (by decide +kernel) (by decide +kernel) (by rw [star_one h6]; rfl) (by rw [star_one h6]; rfl)
                  refine E1.of a (PE.mono pb fun σ H Q q => ?_) rfl fun j hj => nomatch hj
                  obtain ⟨ρ, O, S, d, k0, ρ1, dm, km, ρ2, rel, e0, e1, fin⟩ := tE_fst (m := .sortK g m) (a := m) (fun ρ => by simp only [denE, h5, Bool.false_eq_true, if_false] <;> rfl) q
                  refine ⟨ρ, O, S, d, k0, ρ1, rel, e0, fun v H1 O1 S1 F rel1 s1 t1 w1 => ?_⟩
                  rw [Option.map_eq_some_iff] at e1
                  obtain ⟨y', hy, e1⟩ := e1
                  simp only [Option.some.injEq, Out.ok.injEq] at e1
                  obtain ⟨rfl, rfl, rfl⟩ := e1
                  have tm : Tms f (New H O) H1 O1 S1 [v] [(d, k0)] [F] := .cons t1 .nil fun _ _ z => nomatch z
                  show rSortK f Z g ad [v] [.ref ad] H1 Q
                  refine ⟨rfl, d, k0, [F], y', tm.as, hy, fun v' H' F' ps => ?_⟩
                  exact fin_pst (m := .sortK g m) rel1 s1 tm w1 (fun he => he) ps fin
                | _ => cases h
    | _ => cases h
  | _ => cases h
end
end Al
/-! A7a: walks over the keys of a dict that stands still: it is locked for the while. -/
namespace Al
open PySem L2

/-! ### the walk over a locked dict with tuples as keys -/
section
variable {X : Cx} {pins : List (Addr × Obj)} {σ : St} {H : Hp} {s : Shared} {d : Addr} {o : Obj}
theorem Inv.frzD {w : World} {L : List (NestedKey × Addr × V)} (I : L2.Inv X pins σ H s) (h : H d = some (.frz o (dtO w d L))) :
    (d == sysModules) = false ∧ s.heap.get? d = some o ∧ o.ExactDict ∧ ∃ (es : Array DictEntry) (ep : Nat), o.data = .dict es ep ∧ es.size = L.length ∧
      ∀ (i : Nat) (p : NestedKey × Addr × V), L[i]? = some p → ∃ (en : DictEntry), es[i]? = some en ∧ en.key = .ref p.2.1 := by
  obtain ⟨hd, z⟩ := I.hok d _ h
  obtain ⟨⟨hs, o', es, ep, ho, hx, hdt, pr⟩, _, _⟩ := z
  rw [hd] at ho
  cases ho
  refine ⟨hs, hd, hx, es, ep, hdt, ?_, fun i p e => ?_⟩
  · have := Paired.length pr
    simp at this
    omega
  · obtain ⟨en, hb, e1, _⟩ := paired_get pr e
    exact ⟨en, by rw [← Array.getElem?_toList]; exact hb, e1⟩
end
def ItkD (w : World) (d : Addr) (o : Obj) (L : List (NestedKey × Addr × V)) : L2.It :=
  ⟨fun i H => H d = some (.frz o (dtO w d L)) ∧ i < L.length, fun i H x H' => H' = H ∧ ∀ L', H d = some (.frz o (dtO w d L')) → ∃ p, L'[i]? = some p ∧ x = .ref p.2.1, fun i H => H d = some (.frz o (dtO w d L)) ∧ L.length ≤ i⟩
section
variable {P : Program} {w w' : World} {K : PySem.W.Frag} {tg : Expr} {d : Addr} {o : Obj} {es : Array DictEntry} {ep : Nat}
theorem turn_keysD {L : List (NestedKey × Addr × V)} (it : Addr) (hod : o.data = .dict es ep) : Turn P w K tg (ItkD w' d o L) [it] it (fun i h => h.IsKeyIter it d i L.length ep) where
  mem := by simp
  obj := fun i h st b hb => by
    have e : b = it := by simpa using hb
    subst e
    obtain ⟨oi, e, c, dd⟩ := st
    exact ⟨oi, e, fun v z => by rw [dd] at z; cases z⟩
  keep := fun i h h' st k => st.at fun oi e => k it (by simp) oi e
  item := by
    intro X hP hw hK hc i pins s σ H E I hf st hg
    subst hP hw hK
    obtain ⟨hd, hi⟩ := hg
    obtain ⟨f0, f1, f2, f3, f4, f5⟩ := hf it (by simp)
    obtain ⟨hs, hgd, hx, es', ep', hdt, hsz, ent⟩ := Inv.frzD I hd
    obtain ⟨rfl, rfl⟩ := dict_ep hod hdt
    obtain ⟨p, hp⟩ : ∃ p, L[i]? = some p := ⟨L[i], List.getElem?_eq_getElem hi⟩
    obtain ⟨en, hen, hkey⟩ := ent i p hp
    refine next_key_item st hgd hdt hsz hen fun h' st' sb => ?_
    have I1 : L2.Inv X pins σ H { s with heap := h' } := I.turned (t' := s.toks) (fun b ob hb e => (sb.2 b hb).trans e) f0 f1 f3 f4 f5
    obtain ⟨oi, e, c, dd⟩ := id st'
    refine ⟨_, rfl, go_of (s := { s with heap := h' }) e c dd (by decide) ⟨.ref p.2.1, H, I1, hkey, ⟨rfl, fun L' hL => ?_⟩, st', fun b hb => (hf b hb).1⟩⟩
    obtain ⟨_, hgd2, _, es2, ep2, hdt2, hsz2, ent2⟩ := Inv.frzD I hL
    obtain ⟨rfl, _⟩ := dict_ep hdt hdt2
    have hi2 : i < L'.length := by omega
    obtain ⟨en2, hen2, hkey2⟩ := ent2 i L'[i] (List.getElem?_eq_getElem hi2)
    rw [hen] at hen2
    cases hen2
    rw [hkey] at hkey2
    exact ⟨L'[i], List.getElem?_eq_getElem hi2, by rw [Value.ref.inj hkey2]⟩
  done := by
    intro X hP hw hK hc i pins s σ H E I hf st hg
    subst hP hw hK
    obtain ⟨hd, hi⟩ := hg
    obtain ⟨f0, f1, f2, f3, f4, f5⟩ := hf it (by simp)
    obtain ⟨hs, hgd, hx, es', ep', hdt, hsz, ent⟩ := Inv.frzD I hd
    obtain ⟨rfl, rfl⟩ := dict_ep hod hdt
    exact next_key_end (I.ok.hd hc) st hgd hdt hsz hi fun h' eb => ⟨rfl, I.turned (t' := s.toks) (fun b ob hb e => eb b ob hb e) f0 f1 f3 f4 f5⟩
  self := fun A i s Q E st h => wpAny_pyIter_keyiter st h
end
def iKeysA (td : TE) : TI := fun σ H R => td σ H fun x H1 => ∃ d o, x = .ref d ∧ ((∃ kvs, H1 d = some (.frz o (.dK kvs)) ∧ R (Itk d o kvs) H1) ∨ ∃ w L, H1 d = some (.frz o (dtO w d L)) ∧ R (ItkD w d o L) H1)
theorem pi_keysA {X : Cx} {tg e : Expr} {td : TE} (he : PE X e td) : PI X tg e (iKeysA td) := by
  refine ⟨fun pins s σ H R I h => ?_⟩
  refine thn (he.run pins s σ H _ I h) fun u s1 ⟨x, H1, I1, rx, d, o, ex, q⟩ => ?_
  subst ex
  obtain rfl : u = Value.ref d := rx
  rcases q with ⟨kvs, hd, q⟩ | ⟨w, L, hd, q⟩
  · obtain ⟨hs, hgd, hx, es, ep, vs, hdt, hsz, kv, hm⟩ := I1.frzK hd
    refine iter_keys hs hgd hx hdt (pi_one (tk := s1.toks) I1 _ (turn_keys _ hdt) ⟨_, Heap.get?_push_size _ rfl, rfl, ?_⟩ q)
    rw [hsz] <;> rfl
  · obtain ⟨hs, hgd, hx, es, ep, hdt, hsz, ent⟩ := Inv.frzD I1 hd
    refine iter_keys hs hgd hx hdt (pi_one (tk := s1.toks) I1 _ (turn_keysD _ hdt) ⟨_, Heap.get?_push_size _ rfl, rfl, ?_⟩ q)
    rw [hsz] <;> rfl

/-! ### locked -/
def isDicU : HO → Prop
  | .dK _ => True
  | .ext _ => True
  | _ => False
theorem isDicU.mut {u : HO} (h : isDicU u) : Mut (some u) := by cases u <;> first | exact h | trivial
theorem isDicU.nf {u u' : HO} {o : Obj} (h : isDicU u) (e : u = .frz o u') : False := by subst e; exact h
theorem not_mut_frz {o : Obj} {u : HO} : ¬ Mut (some (.frz o u)) := fun z => z
section
variable {w : World} {K : PySem.W.Frag} {cad : Nat → Addr} {H H' : Hp} {vs : List V} {ds : List D} {F : List Addr} {d : Addr}
theorem R.swap (h : Al.R w K cad H vs ds F) (hne : ∀ a o, a ≠ d → H a = some o → H' a = some o) (hd : ∀ u, isDicU u → Rd H d u → Rd H' d u)
    (hn : ∀ o, H d = some o → isDicU o ∨ ∃ od u, o = .frz od u ∧ isDicU u) : Al.R w K cad H' vs ds F := by
  have go : ∀ {a : Addr} {o : HO}, H a = some o → ¬ isDicU o → (∀ od u, o = .frz od u → ¬ isDicU u) → H' a = some o := fun {a o} e n1 n2 => by
    by_cases ha : a = d
    · subst ha
      rcases hn o e with z | ⟨od, u, z, z'⟩
      · exact absurd z n1
      · exact absurd z' (n2 od u z)
    · exact hne a o ha e
  have goD : ∀ {a : Addr} {u : HO}, isDicU u → Rd H a u → Rd H' a u := fun {a u} q e => by
    by_cases ha : a = d
    · subst ha; exact hd u q e
    · rcases e with e | ⟨o, e⟩
      · exact .inl (hne a _ ha e)
      · exact .inr ⟨o, hne a _ ha e⟩
  induction h with
  | nil => exact .nil
  | atom a _ ih => exact .atom a ih
  | scr e _ ih => exact .scr (e.imp (fun ⟨o, e⟩ => ⟨o, go e (fun z => z) fun od u z => by cases z; exact fun z => z⟩) id) ih
  | lst e l _ _ i1 i2 => exact .lst (go e (fun z => z) fun _ _ z => nomatch z) l i1 i2
  | tup e l _ _ i1 i2 =>
    refine .tup ?_ l i1 i2
    rcases e with (e | ⟨o, e⟩) | e
    · exact .inl (.inl (go e (fun z => z) fun _ _ z => nomatch z))
    · exact .inl (.inr ⟨o, go e (fun z => z) fun od u z => by cases z; exact fun z => z⟩)
    · exact .inr e
  | dk e l m t _ _ i1 i2 => exact .dk (goD trivial e) l m t i1 i2
  | dt e l m nd t _ _ _ i0 i1 i2 => exact .dt (goD trivial e) l m nd t i0 i1 i2
  | obj e m t _ _ i1 i2 => exact .obj (go e (fun z => z) fun _ _ z => nomatch z) m t i1 i2
theorem R.lock {od : Obj} {u : HO} (h : Al.R w K cad H vs ds F) (e : H d = some u) (hu : isDicU u) : Al.R w K cad (L2.upd H d (.frz od u)) vs ds F := by
  refine R.swap h (fun a o ha q => by rw [upd_ne ha]; exact q) (fun u' hu' q => ?_) fun o q => .inl (by rw [e] at q; cases q; exact hu)
  rcases q with q | ⟨o, q⟩
  · rw [e] at q; cases q; exact .inr ⟨od, upd_same⟩
  · rw [e] at q; cases q; exact hu.elim
theorem R.unlock {od : Obj} {u : HO} (h : Al.R w K cad H vs ds F) (e : H d = some (.frz od u)) (hu : isDicU u) : Al.R w K cad (L2.upd H d u) vs ds F := by
  refine R.swap h (fun a o ha q => by rw [upd_ne ha]; exact q) (fun u' hu' q => ?_) fun o q => .inr ⟨od, u, by rw [e] at q; cases q; rfl, hu⟩
  rcases q with q | ⟨o, q⟩
  · rw [e] at q; cases q; exact hu'.elim
  · rw [e] at q; cases q; exact .inl upd_same
end
/-- the frame while a dict is locked -/
def Fx.lockd (f : Fx) (d : Addr) (o : HO) : Fx where
  w := f.w
  K := f.K
  cad := f.cad
  H0 := fun a => if a = d then some o else f.H0 a
  B := fun a => f.B a ∧ a ≠ d
  SB := f.SB
  hB := fun a h => by
    by_cases e : a = d
    · rw [if_pos e] at h; cases h
    · rw [if_neg e] at h; exact ⟨f.hB a h, e⟩
  hSB := fun a h => f.hSB a h.1
section
variable {f : Fx} {σ : St} {H H1 : Hp} {ρ ρ1 : Env} {O O1 : Nat → List Addr} {S S1 : Addr → Prop} {N N' : Addr → Prop} {d : Addr} {od : Obj} {u : HO}
theorem Rel.lock (h : Rel f σ H ρ O S) (e : H d = some u) (hu : isDicU u) (hO : ∀ i, d ∉ O i) : Rel (f.lockd d (.frz od u)) σ (L2.upd H d (.frz od u)) ρ O S where
  len := h.len
  slot := fun i x k q => by
    obtain ⟨v, F, e1, r, al, c1, c2⟩ := h.slot i x k q
    exact ⟨v, F, e1, R.lock r e hu, al, c1, c2⟩
  own := fun i a ha => by
    obtain ⟨c, m, b, ns⟩ := h.own i a ha
    have hne : a ≠ d := fun z => hO i (z ▸ ha)
    exact ⟨c, by rw [upd_ne hne]; exact m, ⟨b, hne⟩, ns⟩
  nod := h.nod
  dis := h.dis
  stb := fun a z => by
    obtain ⟨sb, o', q⟩ := h.stb a z
    refine ⟨sb, ?_⟩
    by_cases hne : a = d
    · subst hne; exact ⟨_, upd_same⟩
    · exact ⟨o', by rw [upd_ne hne]; exact q⟩
  kept := fun a o' hb q => by
    by_cases hne : a = d
    · subst hne
      have q' : (if a = a then some (HO.frz od u) else f.H0 a) = some o' := q
      rw [if_pos rfl] at q'
      cases q'
      exact upd_same
    · have q' : (if a = d then some (HO.frz od u) else f.H0 a) = some o' := q
      rw [if_neg hne] at q'
      rw [upd_ne hne]
      exact h.kept a o' (fun z => hb ⟨z, hne⟩) q'
theorem Rel.locked (h : Rel (f.lockd d (.frz od u)) σ H ρ O S) : H d = some (.frz od u) := h.kept d _ (fun z => z.2 rfl) (if_pos rfl)
theorem Rel.unlock (h : Rel (f.lockd d (.frz od u)) σ H1 ρ O S) (hu : isDicU u) (k0 : ∀ o, ¬ f.B d → f.H0 d = some o → o = u) : Rel f σ (L2.upd H1 d u) ρ O S := by
  have e := h.locked
  refine ⟨h.len, fun i x k q => ?_, fun i a ha => ?_, h.nod, h.dis, fun a z => ?_, fun a o' hb q => ?_⟩
  · obtain ⟨v, F, e1, r, al, c1, c2⟩ := h.slot i x k q
    exact ⟨v, F, e1, R.unlock r e hu, al, c1, c2⟩
  · obtain ⟨c, m, b, ns⟩ := h.own i a ha
    exact ⟨c, by rw [upd_ne b.2]; exact m, b.1, ns⟩
  · obtain ⟨sb, o', q⟩ := h.stb a z
    refine ⟨sb, ?_⟩
    by_cases hne : a = d
    · subst hne; exact ⟨_, upd_same⟩
    · exact ⟨o', by rw [upd_ne hne]; exact q⟩
  · by_cases hne : a = d
    · subst hne
      rw [upd_same, k0 o' hb q]
    · rw [upd_ne hne]
      refine h.kept a o' (fun z => hb z.1) ?_
      show (if a = d then some (HO.frz od u) else f.H0 a) = some o'
      rw [if_neg hne]
      exact q
theorem Stp.unlock (s : Stp (L2.upd H d (.frz od u)) O S H1 O1 S1) (e : H d = some u) : Stp H O S (L2.upd H1 d u) O1 S1 := by
  have back : ∀ a, L2.upd H d (.frz od u) a = none → H a = none := fun a q => by
    by_cases hne : a = d
    · subst hne; rw [upd_same] at q; cases q
    · rwa [upd_ne hne] at q
  refine ⟨fun a o hn q => ?_, fun i a z => (s.own' i a z).imp id (back a), fun a z => (s.st' a z).imp id (Or.imp id (back a)), s.mono⟩
  by_cases hne : a = d
  · subst hne
    rw [e] at q
    cases q
    exact upd_same
  · rw [upd_ne hne]
    exact s.keep a o hn (by rw [upd_ne hne]; exact q)
theorem Ext.unlock (x : Ext (L2.upd H d (.frz od u)) H1) (e : H d = some u) : Ext H (L2.upd H1 d u) := fun a o q => by
  by_cases hne : a = d
  · subst hne
    rw [e] at q
    cases q
    exact upd_same
  · rw [upd_ne hne]
    exact x a o (by rw [upd_ne hne]; exact q)
theorem new_lock {a : Addr} (h : New (L2.upd H d (.frz od u)) O a) : New H O a := by
  rcases h with h | h
  · exact .inl h
  · refine .inr ?_
    by_cases hne : a = d
    · subst hne; rw [upd_same] at h; cases h
    · rwa [upd_ne hne] at h
theorem Tm.unlock {v : V} {x : D} {kk : Kd} {F : List Addr} (t : Tm (f.lockd d (.frz od u)) N' H1 O1 S1 v x kk F) (e : H1 d = some (.frz od u)) (hu : isDicU u) (hN : ∀ a, N' a → N a) : Tm f N (L2.upd H1 d u) O1 S1 v x kk F := by
  refine ⟨R.unlock t.r e hu, t.al, fun z => ⟨(t.fr z).1, fun a ha => ?_⟩, t.st⟩
  obtain ⟨m, b, ns, n, no⟩ := (t.fr z).2 a ha
  exact ⟨by rw [upd_ne b.2]; exact m, b.1, ns, hN a n, no⟩
end

theorem Rel.lock0 {f : Fx} {σ : St} {H : Hp} {ρ : Env} {O : Nat → List Addr} {S : Addr → Prop} {d : Addr} {od : Obj} {u : HO} (h : Rel f σ H ρ O S) (e : H d = some (.frz od u)) : Rel (f.lockd d (.frz od u)) σ H ρ O S where
  len := h.len
  slot := h.slot
  own := fun i a ha => by
    obtain ⟨c, m, b, ns⟩ := h.own i a ha
    exact ⟨c, m, ⟨b, fun z => by rw [z, e] at m; exact m⟩, ns⟩
  nod := h.nod
  dis := h.dis
  stb := h.stb
  kept := fun a o' hb q => by
    by_cases hne : a = d
    · subst hne
      have q' : (if a = a then some (HO.frz od u) else f.H0 a) = some o' := q
      rw [if_pos rfl] at q'
      cases q'
      exact e
    · have q' : (if a = d then some (HO.frz od u) else f.H0 a) = some o' := q
      rw [if_neg hne] at q'
      exact h.kept a o' (fun z => hb ⟨z, hne⟩) q'
theorem Rel.unlock0 {f : Fx} {σ : St} {H1 : Hp} {ρ : Env} {O : Nat → List Addr} {S : Addr → Prop} {d : Addr} {od : Obj} {u : HO} (h : Rel (f.lockd d (.frz od u)) σ H1 ρ O S) (k0 : ∀ o, ¬ f.B d → f.H0 d = some o → o = .frz od u) : Rel f σ H1 ρ O S where
  len := h.len
  slot := h.slot
  own := fun i a ha => let ⟨c, m, b, ns⟩ := h.own i a ha; ⟨c, m, b.1, ns⟩
  nod := h.nod
  dis := h.dis
  stb := h.stb
  kept := fun a o' hb q => by
    by_cases hne : a = d
    · subst hne
      rw [k0 o' hb q]
      exact h.locked
    · refine h.kept a o' (fun z => hb z.1) ?_
      show (if a = d then some (HO.frz od u) else f.H0 a) = some o'
      rw [if_neg hne]
      exact q
theorem Tm.unlock0 {f : Fx} {N N' : Addr → Prop} {H1 : Hp} {O1 : Nat → List Addr} {S1 : Addr → Prop} {d : Addr} {o : HO} {v : V} {x : D} {kk : Kd} {F : List Addr} (t : Tm (f.lockd d o) N' H1 O1 S1 v x kk F) (hN : ∀ a, N' a → N a) : Tm f N H1 O1 S1 v x kk F :=
  ⟨t.r, t.al, fun z => ⟨(t.fr z).1, fun a ha => let ⟨m, b, ns, n, no⟩ := (t.fr z).2 a ha; ⟨m, b.1, ns, hN a n, no⟩⟩, t.st⟩
/-! ### the walk's reading -/
section
variable {wd : Wd} {T : Tab} {f : Fx} {k : Nat} {nm : Nms} {X : Cx} {Z : Far} {σ : St} {H : Hp} {ρ : Env} {O : Nat → List Addr} {S : Addr → Prop}
/-- the dict at a slot stands locked -/
def Lckd (f : Fx) (σ : St) (i : Nat) : Prop := ∃ a o u, σ[i]? = some (some (.ref a)) ∧ isDicU u ∧ ¬ f.B a ∧ f.H0 a = some (.frz o u)
def tIk (f : Fx) (Z : Far) (chg : Bool) (i : Nat) : TI := fun σ H R => ∃ f' : Fx, f'.w = f.w ∧ f'.K = f.K ∧ f'.cad = f.cad ∧ Lckd f' σ i ∧ tI f' Z chg (.keys i) σ H R
theorem keyD_atom {kx : Key} (h : ∀ x, kx = Sum.inr x → x.length ≤ LINE) : Atom (kV kx) (keyD kx) := by
  rcases kx with i | x
  · exact .int i
  · have e : x = mkS x.cps.toList := by cases x; rfl
    have hx := h x rfl
    show Atom (.str x) (.str x.cps.toList)
    have := Atom.str (w := x.cps.toList) (by simpa [Str.length] using hx)
    rwa [← e] at this
theorem keys_den {chg : Bool} {i : Nat} {items : List (Al.D × Kd)} {ρ1 : Env} (e : denI Z chg (.keys i) ρ = some (.ok items ρ1)) :
    ∃ t kvs, ρ[i]? = some (some (.dic t kvs, .st)) ∧ (kvs.all fun p => flat p.1) = true ∧ items = kvs.map (fun p => (p.1, .st)) ∧ ρ1 = ρ := by
  simp only [denI] at e
  split at e
  · next t kvs hl =>
    split at e
    · next ha =>
      simp only [Option.some.injEq, OutL.ok.injEq] at e
      obtain ⟨rfl, rfl⟩ := e
      refine ⟨t, kvs, ?_, ha, rfl, rfl⟩
      unfold look at hl
      split at hl
      · next q => rw [q]; rw [hl]
      · cases hl
    · cases e
  · cases e
theorem k_keys (a : At wd T f k nm X) {i : Nat} {e t : Expr} {chg : Bool} (h : chkI T nm (.keys i) e t = true) : PI X t e (tIk f Z chg i) := by
  cases e <;> simp only [chkI, Bool.false_eq_true] at h
  next x pos =>
  refine PI.mono (pi_keysA (a.var (pos := pos) h)) fun σ H Rr ⟨f', hw, hK, hc, ⟨ad, o, u, hs, hu, hB, h0⟩, ρ, O, S, items, ρ1, rel, e1, q⟩ => ?_
  obtain ⟨t0, kvs, hsl, ha, rfl, rfl⟩ := keys_den e1
  obtain ⟨v, F, ev, r, al, _, cst⟩ := rel.slot i _ _ hsl
  rw [hs] at ev
  cases ev
  have hfz := rel.kept ad _ hB h0
  refine ⟨_, hs, ad, o, rfl, ?_⟩
  have tms : Tms f' (New H O) H O S [.ref ad] [(.dic t0 kvs, .st)] [F] := .cons ⟨r, al, (fun z => nomatch z), fun _ a ha => cst rfl a ha⟩ .nil fun z => nomatch z
  have hnf : ∀ p ∈ [(Al.D.dic t0 kvs, Kd.st)], p.2 ≠ .fr := fun p hp => by rw [List.mem_singleton.mp hp]; exact fun z => nomatch z
  have hnb : chg = true → ∀ p ∈ [(Al.D.dic t0 kvs, Kd.st)], p.2 ≠ .bo := fun _ p hp => by rw [List.mem_singleton.mp hp]; exact fun z => nomatch z
  have qq := fun J ok => q J _ _ H O S _ rel Stp.refl tms hnf hnb ok fun _ => ⟨Ext.refl H, rfl, rfl⟩
  have itn : ∀ it ∈ kvs.map (fun p => (p.1, Kd.st)), it.2 ≠ .fr := fun it hi => by
    obtain ⟨p, _, rfl⟩ := List.mem_map.mp hi
    exact fun z => nomatch z
  have pstA : ∀ {H' : Hp} {x : V} {dx : Al.D} {as : List ((Al.D × Kd) × List Addr)}, f'.R H' [x] [dx] [] → Pst f' H' as dx .st x H' [] := fun r => ⟨Ext.refl _, r, (fun a z => nomatch z), (fun z => nomatch z), fun _ a z => nomatch z⟩
  cases r with
  | atom h _ => cases h
  | @dk _ ks _ _ _ E F1 rd hl hm hk re _ =>
    left
    rcases rd with rd | ⟨o2, rd⟩
    · rw [hfz] at rd; cases rd
    · rw [hfz] at rd
      cases rd
      refine ⟨ks, hfz, qq _ fun H' Fs kp as => ?_⟩
      have hf2 := kp ad _ hB h0
      have hlen : (kvs.map fun p => (p.1, Kd.st)).length = ks.length := by
        have := congrArg List.length hm
        simp at this
        simp [this]
      refine ⟨by rw [hlen]; exact hl, itn, fun j hj => ⟨hf2, by omega⟩, ⟨hf2, by omega⟩, fun j x H'' it e2 hy => ?_⟩
      obtain ⟨rfl, kx, vx, e3, rfl⟩ := hy
      refine ⟨[], ?_⟩
      have e4 : (kvs.map (·.1))[j]? = some (keyD kx) := by rw [← hm, List.getElem?_map, e3]; rfl
      rw [List.getElem?_map] at e2 e4
      cases e5 : kvs[j]? with
      | none => rw [e5] at e2; cases e2
      | some p =>
        rw [e5] at e2 e4
        simp only [Option.map_some, Option.some.injEq] at e2 e4
        subst e2
        dsimp only
        rw [e4]
        exact pstA (.atom (keyD_atom fun x hx => hk.2 _ (List.mem_of_getElem? e3) x hx) .nil)
  | @dt _ L _ _ _ E F1 rd hl hm hnd hkt rk re _ =>
    right
    rcases rd with rd | ⟨o2, rd⟩
    · rw [hfz] at rd; cases rd
    · rw [hfz] at rd
      have rd' := rd
      simp only [Option.some.injEq, HO.frz.injEq] at rd'
      obtain ⟨rfl, rfl⟩ := rd'
      refine ⟨f'.w, L, hfz, qq _ fun H' Fs kp as => ?_⟩
      have hf2 := kp ad _ hB h0
      have hlen : (kvs.map fun p => (p.1, Kd.st)).length = L.length := by
        have := congrArg List.length hm
        simp at this
        simp [this]
      refine ⟨by rw [hlen]; exact hl, itn, fun j hj => ⟨hf2, by omega⟩, ⟨hf2, by omega⟩, fun j x H'' it e2 hy => ?_⟩
      obtain ⟨rfl, hy⟩ := hy
      obtain ⟨xv, Fv, ex, rfl, ra, _⟩ := as.d1
      cases ex
      cases ra with
      | atom h _ => cases h
      | @dt _ L2 _ _ _ E2 F2 rd2 hl2 hm2 hnd2 hkt2 rk2 re2 _ =>
        rcases rd2 with rd2 | ⟨o3, rd2⟩
        · rw [hf2] at rd2; cases rd2
        · have ho : o3 = o := by
            rw [hf2] at rd2
            simp only [Option.some.injEq, HO.frz.injEq] at rd2
            exact rd2.1.symm
          subst ho
          obtain ⟨p, e3, rfl⟩ := hy L2 rd2
          refine ⟨[], ?_⟩
          rw [List.getElem?_map] at e2
          cases e5 : kvs[j]? with
          | none => rw [e5] at e2; cases e2
          | some pr =>
            rw [e5] at e2
            simp only [Option.map_some, Option.some.injEq] at e2
            subst e2
            have e6 : (kvs.map (·.1))[j]? = some pr.1 := by rw [List.getElem?_map, e5]; rfl
            obtain ⟨v, A, E', B, e7, r7, e8⟩ := R.nth (f := f') rk2 e6
            rw [List.getElem?_map, e3] at e7
            cases e7
            have : E' = [] := by
              have := congrArg List.length e8
              simp at this
              exact List.length_eq_zero_iff.mp (by omega)
            subst this
            exact pstA r7
/-- the dict that is walked -/
theorem keys_at (rel : Rel f σ H ρ O S) {chg : Bool} {i : Nat} {items : List (Al.D × Kd)} {ρ1 : Env} (e : denI Z chg (.keys i) ρ = some (.ok items ρ1)) :
    ∃ a u, σ[i]? = some (some (.ref a)) ∧ isDicU u ∧ Rd H a u ∧ S a := by
  obtain ⟨t0, kvs, hsl, _, _, _⟩ := keys_den e
  obtain ⟨v, F, ev, r, al, _, cst⟩ := rel.slot i _ _ hsl
  have hst := cst rfl
  cases r with
  | atom h _ => cases h
  | dk rd _ _ _ _ _ => exact ⟨_, .dK _, ev, True.intro, rd, hst _ List.mem_cons_self⟩
  | dt rd _ _ _ _ _ _ _ => exact ⟨_, .ext _, ev, True.intro, rd, hst _ List.mem_cons_self⟩
theorem Rel.k0 (rel : Rel f σ H ρ O S) {a : Addr} {u : HO} (e : H a = some u) : ∀ o, ¬ f.B a → f.H0 a = some o → o = u := fun o hb h0 => by
  have := rel.kept a o hb h0
  rw [e] at this
  cases this
  rfl
theorem r_lck {elt : E} {tg : Tg} {i : Nat} {cnd : Es} {own : List Nat} {Q : VK} (he : elt.eff = false) (hc : cnd.eff = false) (hn : cnd = .nil ∨ ∃ c, cnd = .cons c .nil) (htg : tgInB own tg = true) (h : tE f Z (.lc elt tg (.keys i) cnd own) σ H Q) :
    tLc (tIk f Z false i) (tgG f.K tg) (tCnd f Z cnd) (tElt f Z elt) own σ H Q ∨
      ∃ d u, H d = some u ∧ Mut (some u) ∧ ∀ od, tLc (tIk f Z false i) (tgG f.K tg) (tCnd f Z cnd) (tElt f Z elt) own σ (L2.upd H d (.frz od u)) fun v H' => H' d = some (.frz od u) ∧ Q v (L2.upd H' d u) := by
  obtain ⟨ρ, O, S, x, kk, ρ1, rel, e, fin⟩ := h
  obtain ⟨xs, ys, e1, e2, _, _⟩ := lc_eq he hc e
  obtain ⟨a, u, hs, hu, rd, hS⟩ := keys_at rel e1
  rcases rd with rd | ⟨od, rd⟩
  · have hO : ∀ j, a ∉ O j := fun j z => (rel.own j a z).2.2.2 hS
    refine .inr ⟨a, u, rd, hu.mut, fun od => ?_⟩
    have rel' := rel.lock (od := od) rd hu hO
    have hE : tE (f.lockd a (.frz od u)) Z (.lc elt tg (.keys i) cnd own) σ (L2.upd H a (.frz od u)) (fun v H' => H' a = some (.frz od u) ∧ Q v (L2.upd H' a u)) := ⟨ρ, O, S, x, kk, ρ1, rel', e, fun v H1 O1 S1 F1 rel1 s1 t1 w1 =>
      ⟨rel1.locked, fin v _ O1 S1 F1 (rel1.unlock hu (rel.k0 rd)) (s1.unlock rd) (t1.unlock rel1.locked hu fun a => new_lock) fun z => let ⟨x, y, q⟩ := w1 z; ⟨x.unlock rd, y, q⟩⟩⟩
    have hL := r_lc he hc hn htg hE
    exact ⟨f.lockd a (.frz od u), rfl, rfl, rfl, ⟨a, od, u, hs, hu, fun z => z.2 rfl, if_pos rfl⟩, hL⟩
  · left
    have rel' := rel.lock0 rd
    have hE : tE (f.lockd a (.frz od u)) Z (.lc elt tg (.keys i) cnd own) σ H Q := ⟨ρ, O, S, x, kk, ρ1, rel', e, fun v H1 O1 S1 F1 rel1 s1 t1 w1 => fin v _ O1 S1 F1 (rel1.unlock0 (rel.k0 rd)) s1 (t1.unlock0 fun _ z => z) w1⟩
    have hL := r_lc he hc hn htg hE
    exact ⟨f.lockd a (.frz od u), rfl, rfl, rfl, ⟨a, od, u, hs, hu, fun z => z.2 rfl, if_pos rfl⟩, hL⟩
theorem pe_orlock {e : Expr} {t : TE} (h : PE X e t) : PE X e (fun σ H Q => t σ H Q ∨ tLockE t σ H Q) := ⟨fun pins s σ H Q I w => w.elim (h.run pins s σ H Q I) ((pe_lock h).run pins s σ H Q I)⟩
theorem ps_orlock {st : Stmt} {t : TS} (h : PS X st t) : PS X st (fun D σ H => t D σ H ∨ tLock t D σ H) := ⟨fun pins s σ H D I w => w.elim (h.run pins s σ H D I) ((ps_lock h).run pins s σ H D I)⟩
end
end Al
/-! A5j: every expression that the checker takes is what it says. -/
namespace Al
open PySem L2

def OkE (wd : Wd) (k : Nat) (m : E) : Prop := ∀ (T : Tab) (f : Fx) (nm : Nms) (X : Cx) (e : Expr), At wd T f k nm X → chkE T nm m e = true → AllE (PF wd T k) m → E1 T f wd.Z nm X m e
def OkEs (wd : Wd) (k : Nat) (m : Es) : Prop := ∀ (T : Tab) (f : Fx) (nm : Nms) (X : Cx) (es : List Expr), At wd T f k nm X → chkEs T nm m es = true → AllEs (PF wd T k) m → Es1 T f wd.Z nm X m es
def OkI (wd : Wd) (k : Nat) (m : Al.It) : Prop := m.isK = false → ∀ (T : Tab) (f : Fx) (nm : Nms) (X : Cx) (chg : Bool) (i t : Expr), At wd T f k nm X → chkI T nm m i t = true → AllI (PF wd T k) m → PI X t i (tI f wd.Z chg m)

section
variable {wd : Wd} {T : Tab} {f : Fx} {k : Nat} {nm : Nms} {X : Cx}
theorem PTs.mono {es : List Expr} {t t' : TT} (h : PTs X es t) (q : ∀ σ H Q, t' σ H Q → t σ H Q) : PTs X es t' := ⟨fun pins s σ H Q I w => h.run pins s σ H Q I (q σ H Q w)⟩
theorem fold_set {i : Expr} (h : notSet i = true) (env : PySem.Env) : ∀ x, foldedSetIterable i env x = pure x := by
  intro x
  cases i <;> first | rfl | cases h
theorem own_map (T : Tab) (own : List Nat) : (ownOf T own).map (·.2) = own := by
  unfold ownOf
  rw [List.map_map]
  show List.map (fun j => j) own = own
  simp
theorem cnd_shape {T : Tab} {nm : Nms} : ∀ {c : Es} {ifs : List Expr}, chkEs T nm c ifs = true → c.noRef = true → ifs.length ≤ 1 → (c = .nil ∧ ifs = []) ∨ ∃ a e, c = .cons a .nil ∧ ifs = [e] ∧ chkE T nm a e = true
  | .nil, [], _, _, _ => .inl ⟨rfl, rfl⟩
  | .nil, _ :: _, h, _, _ => by simp [chkEs] at h
  | .ref _ _, _, _, h, _ => by cases h
  | .cons _ _, [], h, _, _ => by simp [chkEs] at h
  | .cons a r, e :: es, h, hr, hl => by
    simp only [chkEs, Bool.and_eq_true] at h
    have : es = [] := by
      cases es with
      | nil => rfl
      | cons _ _ => simp at hl
    subst this
    cases r with
    | nil => exact .inr ⟨a, e, rfl, rfl, h.1⟩
    | cons _ _ => simp [chkEs] at h
    | ref _ _ => simp [chkEs] at h
theorem k_lc {elt : E} {tg : Tg} {it : Al.It} {cnd : Es} {own : List Nat} (iE : OkE wd k elt) (iI : OkI wd k it) (iC : OkEs wd k cnd) : OkE wd k (.lc elt tg it cnd own) := by
  intro T f nm X e a h hP
  cases e <;> try simp only [chkE, Bool.false_eq_true] at h
  next el gens sc pos =>
  match gens, h with
  | [⟨t, i, ifs, asy⟩], h =>
    simp only [chkE, Bool.and_eq_true, decide_eq_true_eq, Bool.not_eq_true'] at h
    obtain ⟨rfl, he, hce, htg, hns, hI, hblk, hT, hl, hnr, hif, hC, hE⟩ := h
    have hkd : sc.kind = .function := by
      unfold blkC at hblk
      simp only [Bool.and_eq_true] at hblk
      have := hblk.1.1.1
      split at this
      · next q => exact q
      · cases this
    have hB : BlkOk X.N X.env.scope sc (ownOf T own) := blkOk_by (by rw [a.N]; exact blk_ok (by rw [a.nm]; rfl) hblk)
    have aB : ∀ (f' : Fx), f'.w = f.w → f'.K = f.K → f'.cad = f.cad → ∀ s H C cl fp, At wd T f' k (relNm nm sc.names) (X.blk s H sc (compEnvC sc cl C X.env) fp) := fun f' h1 h2 h3 s H C cl fp => a.blk h1 h2 h3 hkd s H C cl fp
    have pG : ∀ s H C cl fp, PG (X.blk s H sc (compEnvC sc cl C X.env) fp) t (tgG f.K tg) := fun s H C cl fp => by
      have ab := aB f rfl rfl rfl s H C cl fp
      refine k_tg ab (fun x hx => ?_) hT
      unfold okIn at hx
      simp only [Bool.or_eq_true, Bool.and_eq_true] at hx
      rcases hx with hx | ⟨h1, h2⟩
      · exact ⟨.inl (ab.isLocal hx), .inr (ab.isLocal hx)⟩
      · refine ⟨.inr (ab.isCell h1), .inl ?_⟩
        show (sc.names.lookup x == some .cell) = true
        unfold isCell at h2
        split at h2
        · next q => rw [q]; rfl
        · cases h2
    have pC : ∀ s H C cl fp, PTs (X.blk s H sc (compEnvC sc cl C X.env) fp) ifs (tCnd f wd.Z cnd) := fun s H C cl fp => by
      rcases cnd_shape hC hnr hl with ⟨rfl, rfl⟩ | ⟨c, e, rfl, rfl, hc⟩
      · exact PTs.mono pts_nil fun σ H Q ⟨f', _, _, _, q⟩ => q
      · refine pts_one ⟨fun pins s' σ H2 Q I ⟨f', h1, h2, h3, q⟩ => ?_⟩
        have := iC T f' _ _ [e] (aB f' h1 h2 h3 s H C cl fp) hC hP.2.2
        exact (this.1.pt (by simpa using hif)).run pins s' σ H2 Q I q
    have pE : ∀ s H C cl fp, PE (X.blk s H sc (compEnvC sc cl C X.env) fp) el (tElt f wd.Z elt) := fun s H C cl fp => ⟨fun pins s' σ H' Q I ⟨f', h1, h2, h3, q⟩ => (iE T f' _ _ el (aB f' h1 h2 h3 s H C cl fp) hE hP.1).pe.run pins s' σ H' Q I q⟩
    have hN : X.N.Nodup := by rw [a.N]; exact a.nd
    have hsh : cnd = .nil ∨ ∃ c, cnd = .cons c .nil := by
      rcases cnd_shape hC hnr hl with ⟨rfl, rfl⟩ | ⟨c, e, rfl, rfl, hc⟩
      · exact .inl rfl
      · exact .inr ⟨c, rfl⟩
    have hbk : PySem.Env.blockKind X.env = .function := by
      unfold PySem.Env.blockKind
      rw [a.kd]
      rfl
    have hsw : ∀ (y : Str) (py : Pos) l, swapsWith (.ListComp el [⟨t, i, ifs, 0⟩] sc pos) (some (.Name y py)) l X.env = pure (PySem.Env.blockKind X.env == .function && PySem.Env.kindOf X.env y == some .local && py.line == pos.line && !(sc.names.any fun x => x.1 == y && (x.2 == .local || x.2 == .cell))) := fun y py l => rfl
    -- whatever the walk's reading is
    have key : ∀ (wi : TI), PI X t i wi → ∃ t2 : TE, t2 = tLc wi (tgG f.K tg) (tCnd f wd.Z cnd) (tElt f wd.Z elt) ((ownOf T own).map (·.2)) ∧ PE X (.ListComp el [⟨t, i, ifs, 0⟩] sc pos) t2 ∧
        ∀ j y py spos, T.N[j]? = some y → locB nm y = true → (X.fn y = true ∨ X.env.scope.names.lookup y = some .local) → asgOk nm y py (.ListComp el [⟨t, i, ifs, 0⟩] sc pos) = true → PS X (.Assign [.Name y py] (.ListComp el [⟨t, i, ifs, 0⟩] sc pos) spos) (tAsg t2 (gName j)) := by
      intro wi pI
      refine ⟨_, rfl, pe_lc (own := ownOf T own) a.calm hN pI hB pG pC pE (fold_set hns _), fun j y py spos h1 h2 h3 h4 => ?_⟩
      simp only [asgOk, Bool.or_eq_true, Bool.and_eq_true, decide_eq_true_eq, Bool.not_eq_true'] at h4
      have hN' : X.N[j]? = some y := by rw [a.N]; exact h1
      rcases h4 with h4 | ⟨h4, h5, h6⟩
      · have hk : PySem.Env.kindOf X.env y = some .cell := a.isCell h4
        refine ps_set hN hN' (a.loc h2) (pe_lc (own := ownOf T own) a.calm hN pI hB pG pC pE (fold_set hns _)) ?_ h3
        rw [hsw, hk, show ((some NameKind.cell : Option NameKind) == some NameKind.local) = false from rfl, Bool.and_false, Bool.false_and, Bool.false_and]
      · have hk : PySem.Env.kindOf X.env y = some .local := a.isLocal h4
        refine ps_setLc (own := ownOf T own) a.calm hN hN' (a.isLocal h4) ?_ pI hB pG pC pE (fold_set hns _)
        rw [hsw, hk, hbk, h5, h6, show ((some NameKind.local : Option NameKind) == some NameKind.local) = true from rfl, show (ScopeKind.function == ScopeKind.function) = true from rfl, beq_self_eq_true]
        rfl
    cases hit : it.isK with
    | false =>
      obtain ⟨t2, ht2, pe2, as2⟩ := key _ (iI hit T f nm X false i t a hI hP.2.1)
      have red : ∀ σ H Q, tE f wd.Z (.lc elt tg it cnd own) σ H Q → t2 σ H Q := fun σ H Q q => by
        rw [ht2, own_map]
        exact r_lc he hce hsh htg q
      have pe : PE X (.ListComp el [⟨t, i, ifs, 0⟩] sc pos) (tE f wd.Z (.lc elt tg it cnd own)) := PE.mono pe2 red
      exact ⟨pe, fun _ => pt_comp pe, (fun z => nomatch z), (fun _ z => nomatch z), fun j y py spos h1 h2 h3 h4 => PS.mono (as2 j y py spos h1 h2 h3 h4) fun D σ H q => red σ H _ q⟩
    | true =>
      obtain ⟨ik, rfl⟩ : ∃ ik, it = .keys ik := by cases it <;> first | exact ⟨_, rfl⟩ | cases hit
      obtain ⟨t2, ht2, pe2, as2⟩ := key _ (k_keys (f := f) (Z := wd.Z) (chg := false) a hI)
      have red : ∀ σ H Q, tE f wd.Z (.lc elt tg (.keys ik) cnd own) σ H Q → t2 σ H Q ∨ tLockE t2 σ H Q := fun σ H Q q => by
        rw [ht2, own_map]
        exact r_lck he hce hsh htg q
      have pe : PE X (.ListComp el [⟨t, i, ifs, 0⟩] sc pos) (tE f wd.Z (.lc elt tg (.keys ik) cnd own)) := PE.mono (pe_orlock pe2) red
      exact ⟨pe, fun _ => pt_comp pe, (fun z => nomatch z), (fun _ z => nomatch z), fun j y py spos h1 h2 h3 h4 => PS.mono (ps_orlock (as2 j y py spos h1 h2 h3 h4)) fun D σ H q => red σ H _ q⟩
/-! ### all of it -/
theorem ok_prim {p : Pr} {es : Es} (ih : OkEs wd k es) : OkE wd k (.prim p es) := fun T f nm X e a h hP => k_prim a h fun as hc => ih T f nm X as a hc hP
theorem ok_es_nil : OkEs wd k .nil := fun T f nm X es a h _ => by
  cases es with
  | nil => trivial
  | cons _ _ => simp [chkEs] at h
theorem ok_es_cons {e : E} {r : Es} (i1 : OkE wd k e) (i2 : OkEs wd k r) : OkEs wd k (.cons e r) := fun T f nm X es a h hP => by
  cases es with
  | nil => simp [chkEs] at h
  | cons x es =>
    simp only [chkEs, Bool.and_eq_true] at h
    exact ⟨i1 T f nm X x a h.1 hP.1, i2 T f nm X es a h.2 hP.2⟩
theorem ok_es_ref {i : Nat} {r : Es} (i2 : OkEs wd k r) : OkEs wd k (.ref i r) := fun T f nm X es a h hP => by
  cases es with
  | nil => simp [chkEs] at h
  | cons x es =>
    cases x <;> simp only [chkEs, Bool.false_eq_true] at h
    simp only [Bool.and_eq_true] at h
    exact ⟨a.var h.1, i2 T f nm X es a h.2 hP⟩
theorem ok_val {e : E} (ih : OkE wd k e) : OkI wd k (.val e) := fun _ T f nm X chg i t a h hP => by
  simp only [chkI, Bool.and_eq_true] at h
  exact k_val a (ih T f nm X i a h.2 hP).pe
theorem no_tt (h : false = true) {p : Prop} : p := nomatch h
theorem ok_rngI {es : Es} (ih : OkEs wd k es) : OkI wd k (.rng es) := fun _ T f nm X chg i t a h hP => by
  cases i with
  | Call fn as kws pos =>
    cases fn with
    | Name x xp =>
      cases kws with
      | nil =>
        have h : (bt T nm x "range" && (as.all noStar && (!as.isEmpty && (decide (as.length ≤ 2) && (es.noRef && chkEs T nm es as))))) = true := h
        simp only [Bool.and_eq_true, Bool.not_eq_true', decide_eq_true_eq] at h
        obtain ⟨h1, h2, h3, h4, h5, h6⟩ := h
        exact k_rng a h1 h2 h3 h4 h5 (ih T f nm X as a h6 hP)
      | cons _ _ => exact no_tt h
    | _ => exact no_tt h
  | _ => exact no_tt h
theorem ok_enumI {e : E} (ih : OkE wd k e) : OkI wd k (.enum e) := fun _ T f nm X chg i t a h hP => by
  cases i with
  | Call fn as kws pos =>
    cases fn with
    | Name x xp =>
      cases as with
      | nil => exact no_tt h
      | cons y r =>
        cases r with
        | nil =>
          cases kws with
          | nil =>
            have h : (bt T nm x "enumerate" && (noStar y && (isTuple t && chkE T nm e y))) = true := h
            simp only [Bool.and_eq_true] at h
            obtain ⟨h1, h2, h3, h4⟩ := h
            cases t <;> simp only [isTuple, Bool.false_eq_true] at h3
            exact k_enum a h1 h2 (ih T f nm X y a h4 hP).pe
          | cons _ _ => exact no_tt h
        | cons _ _ => exact no_tt h
    | _ => exact no_tt h
  | _ => exact no_tt h
theorem ok_zipI {e g : E} (i1 : OkE wd k e) (i2 : OkE wd k g) : OkI wd k (.zip e g) := fun _ T f nm X chg i t a h hP => by
  cases i with
  | Call fn as kws pos =>
    cases fn with
    | Name x xp =>
      cases as with
      | nil => exact no_tt h
      | cons y r =>
        cases r with
        | nil => exact no_tt h
        | cons z r =>
          cases r with
          | nil =>
            cases kws with
            | nil =>
              have h : (bt T nm x "zip" && (noStar y && (noStar z && (isTuple t && (chkE T nm e y && chkE T nm g z))))) = true := h
              simp only [Bool.and_eq_true] at h
              obtain ⟨h1, h2, h3, h4, h5, h6⟩ := h
              cases t <;> simp only [isTuple, Bool.false_eq_true] at h4
              exact k_zip a h1 h2 h3 (i1 T f nm X y a h5 hP.1).pe (i2 T f nm X z a h6 hP.2).pe
            | cons _ _ => exact no_tt h
          | cons _ _ => exact no_tt h
    | _ => exact no_tt h
  | _ => exact no_tt h
end
/-- an expression that the checker never takes -/
theorem ok_no {wd : Wd} {k : Nat} {m : E} (h : ∀ T nm e, chkE T nm m e = false) : OkE wd k m := fun T f nm X e a hc _ => by rw [h] at hc; cases hc
theorem okE (wd : Wd) (k : Nat) : ∀ m : E, OkE wd k m := by
  intro m
  refine E.rec (motive_1 := OkE wd k) (motive_2 := OkEs wd k) (motive_3 := OkI wd k) (motive_4 := fun _ => True) (motive_5 := fun _ => True) (motive_6 := fun _ => True) ?var ?mov ?non ?bl ?int ?str ?cst ?prim ?lst ?tup ?dic0 ?dic ?andE ?orE ?notE ?ife ?chain ?call ?make ?callm ?attr ?lc ?sortK ?knot ?pop ?esnil ?escons ?esref ?val ?rng ?enum ?zip ?keys ?s1 ?s2 ?s3 ?s4 ?s5 ?s6 ?s7 ?s8 ?s9 ?s10 ?s11 ?s12 ?s13 ?s14 ?s15 ?s16 ?s17 ?s18 ?s19 ?s20 ?ss1 ?ss2 ?f1 ?f2 m
  case var => exact fun i T f nm X e a h _ => k_var a h
  case mov => exact fun i T f nm X e a h _ => k_mov a h
  case non => exact fun T f nm X e a h _ => k_non a h
  case bl => exact fun b T f nm X e a h _ => k_bl a h
  case int => exact fun b T f nm X e a h _ => k_int a h
  case str => exact fun b T f nm X e a h _ => k_str a h
  case cst => exact fun n d T f nm X e a h _ => k_cst a h
  case prim => exact fun p es ih => ok_prim ih
  case lst => exact fun es ih T f nm X e a h hP => k_lst a h fun as hc => ih T f nm X as a hc hP
  case tup => exact fun es ih T f nm X e a h hP => k_tup a h fun as hc => ih T f nm X as a hc hP
  case dic0 => exact fun t T f nm X e a h hP => k_dic0 a h
  case dic => exact fun _ _ i1 i2 T f nm X e a h hP => k_dic a h (fun as hc => i1 T f nm X as a hc hP.1) fun as hc => i2 T f nm X as a hc hP.2
  case andE => exact fun x y i1 i2 T f nm X e a h hP => k_and a h (fun e h => i1 T f nm X e a h hP.1) fun e h => i2 T f nm X e a h hP.2
  case orE => exact fun x y i1 i2 T f nm X e a h hP => k_or a h (fun e h => i1 T f nm X e a h hP.1) fun e h => i2 T f nm X e a h hP.2
  case notE => exact fun x i1 T f nm X e a h hP => k_not a h (fun e h => i1 T f nm X e a h hP)
  case ife => exact fun x y z i0 i1 i2 T f nm X e a h hP => k_ife a h (fun e h => i0 T f nm X e a h hP.1) (fun e h => i1 T f nm X e a h hP.2.1) fun e h => i2 T f nm X e a h hP.2.2
  case chain => exact fun p q x y z i0 i1 i2 T f nm X e a h hP => k_chain a h (fun e h => i0 T f nm X e a h hP.1) (fun e h => i1 T f nm X e a h hP.2.1) fun e h => i2 T f nm X e a h hP.2.2
  case call => exact fun g es _ ih T f nm X e a h hP => k_call0 a rfl h hP.1 fun as hc => ih T f nm X as a hc hP.2
  case make => exact fun _ _ _ _ _ => ok_no fun T nm e => by cases e <;> rfl
  case callm => exact fun _ _ _ _ _ _ _ => ok_no fun T nm e => by cases e <;> rfl
  case attr => exact fun g o ih T f nm X e a h hP => k_attr a h fun e h => ih T f nm X e a h hP
  case lc => exact fun e tg it c own i1 i2 i3 => k_lc i1 i2 i3
  case sortK => exact fun g _ _ ih T f nm X e a h hP => k_sortK a rfl h hP.1 fun e h => ih T f nm X e a h hP.2
  case knot => exact fun _ _ => ok_no fun T nm e => by cases e <;> rfl
  case pop => exact fun _ _ ih T f nm X e a h hP => k_pop a h fun e h => ih T f nm X e a h hP
  case esnil => exact ok_es_nil
  case escons => exact fun _ _ => ok_es_cons
  case esref => exact fun _ _ => ok_es_ref
  case val => exact fun _ => ok_val
  case rng => exact fun _ => ok_rngI
  case enum => exact fun _ => ok_enumI
  case zip => exact fun _ _ => ok_zipI
  case keys => exact fun _ z => nomatch z
  all_goals intros; trivial
end Al
/-! A5k: statements. -/
namespace Al
open PySem L2

/-- what must hold behind a piece, by how it ended -/
def tFl (f : Fx) (chg : Bool) (H : Hp) (O : Nat → List Addr) (S : Addr → Prop) (D : Ends) : Fl → Prop
  | .nx ρ1 => ∀ σ1 H1 O1 S1, Rel f σ1 H1 ρ1 O1 S1 → Stp H O S H1 O1 S1 → (chg = false → Ext H H1) → D.nx σ1 H1
  | .bk ρ1 => ∀ σ1 H1 O1 S1, Rel f σ1 H1 ρ1 O1 S1 → Stp H O S H1 O1 S1 → (chg = false → Ext H H1) → D.bk σ1 H1
  | .ct ρ1 => ∀ σ1 H1 O1 S1, Rel f σ1 H1 ρ1 O1 S1 → Stp H O S H1 O1 S1 → (chg = false → Ext H H1) → D.ct σ1 H1
  | .rt d k ρ1 => ∀ v σ1 H1 O1 S1 F, Rel f σ1 H1 ρ1 O1 S1 → Stp H O S H1 O1 S1 → Tm f (New H O) H1 O1 S1 v d k F → D.rt v H1
  | .ex _ _ _ => False
def tS (f : Fx) (Z : Far) (s : S) : TS := fun D σ H => ∃ ρ O S fl, Rel f σ H ρ O S ∧ denS Z s ρ = some fl ∧ tFl f s.chg H O S D fl
def tSs (f : Fx) (Z : Far) (s : Ss) : TS := fun D σ H => ∃ ρ O S fl, Rel f σ H ρ O S ∧ denSs Z s ρ = some fl ∧ tFl f s.chg H O S D fl

section
variable {wd : Wd} {T : Tab} {f : Fx} {k : Nat} {nm : Nms} {X : Cx} {Z : Far} {σ : St} {H H1 : Hp} {ρ : Env} {O O1 : Nat → List Addr} {S S1 : Addr → Prop} {N : Addr → Prop}
theorem tFl.shift {c1 c2 : Bool} {D : Ends} {fl : Fl} (s : Stp H O S H1 O1 S1) (x : c1 = false → Ext H H1) (h : tFl f (c1 || c2) H O S D fl) : tFl f c2 H1 O1 S1 D fl := by
  cases fl with
  | nx ρ1 => exact fun σ1 H2 O2 S2 r s2 w => h σ1 H2 O2 S2 r (s.trans s2) fun e => (x (by simp at e; exact e.1)).trans (w (by simp at e; exact e.2))
  | bk ρ1 => exact fun σ1 H2 O2 S2 r s2 w => h σ1 H2 O2 S2 r (s.trans s2) fun e => (x (by simp at e; exact e.1)).trans (w (by simp at e; exact e.2))
  | ct ρ1 => exact fun σ1 H2 O2 S2 r s2 w => h σ1 H2 O2 S2 r (s.trans s2) fun e => (x (by simp at e; exact e.1)).trans (w (by simp at e; exact e.2))
  | rt d k ρ1 => exact fun v σ1 H2 O2 S2 F r s2 t => h v σ1 H2 O2 S2 F r (s.trans s2) (t.weaken fun a z => s.back z)
  | ex c p ρ1 => exact h
theorem tFl.less {c1 c2 : Bool} {D : Ends} {fl : Fl} (hc : c1 = false → c2 = false) (h : tFl f c1 H O S D fl) : tFl f c2 H O S D fl := by
  cases fl with
  | nx ρ1 => exact fun σ1 H2 O2 S2 r s2 w => h σ1 H2 O2 S2 r s2 fun e => w (hc e)
  | bk ρ1 => exact fun σ1 H2 O2 S2 r s2 w => h σ1 H2 O2 S2 r s2 fun e => w (hc e)
  | ct ρ1 => exact fun σ1 H2 O2 S2 r s2 w => h σ1 H2 O2 S2 r s2 fun e => w (hc e)
  | rt d k ρ1 => exact h
  | ex c p ρ1 => exact h
/-- one piece behind another -/
theorem r_seq {s : Al.S} {r : Ss} {D : Ends} (h : tSs f Z (.cons s r) D σ H) : tSeq (tS f Z s) (tSs f Z r) D σ H := by
  obtain ⟨ρ, O, S, fl, rel, e, q⟩ := h
  simp only [denSs] at e
  unfold seqF at e
  split at e
  · next ρ1 e1 =>
    refine ⟨ρ, O, S, .nx ρ1, rel, e1, fun σ1 H1 O1 S1 rel1 s1 w1 => ?_⟩
    exact ⟨ρ1, O1, S1, fl, rel1, e, tFl.shift s1 w1 q⟩
  · next fl' hn e1 =>
    cases e
    refine ⟨ρ, O, S, fl, rel, e1, ?_⟩
    cases fl with
    | nx ρ1 => exact absurd rfl (hn ρ1)
    | bk ρ1 => exact fun σ1 H2 O2 S2 r s2 w => q σ1 H2 O2 S2 r s2 fun e => w (by simp only [Ss.chg, Bool.or_eq_false_iff] at e; exact e.1)
    | ct ρ1 => exact fun σ1 H2 O2 S2 r s2 w => q σ1 H2 O2 S2 r s2 fun e => w (by simp only [Ss.chg, Bool.or_eq_false_iff] at e; exact e.1)
    | rt d k ρ1 => exact q
    | ex c p ρ1 => exact q
  · cases e
theorem r_nil {D : Ends} (h : tSs f Z .nil D σ H) : tNext D σ H := by
  obtain ⟨ρ, O, S, fl, rel, e, q⟩ := h
  simp only [denSs, Option.some.injEq] at e
  subst e
  exact q σ H O S rel Stp.refl fun _ => Ext.refl H
/-- what is the frame's own comes to stand still -/
theorem r_frz {i : Nat} {r : Ss} {D : Ends} (h : tSs f Z (.cons (.frz i) r) D σ H) : tSs f Z r D σ H := by
  obtain ⟨ρ, O, S, fl, rel, e, q⟩ := h
  simp only [denSs, denS] at e
  have hc : (Ss.cons (.frz i) r).chg = true := rfl
  cases hl : look ρ i with
  | none =>
    rw [hl] at e
    exact ⟨ρ, O, S, fl, rel, e, tFl.shift (c1 := true) Stp.refl (fun z => nomatch z) (by rw [hc] at q; simpa using q)⟩
  | some p =>
    obtain ⟨d, kk⟩ := p
    rw [hl] at e
    by_cases hk : kk = .fr
    · subst hk
      have e' : denSs Z r (ρ.set i (some (d, .st))) = some fl := e
      obtain ⟨v, F, e1, rr, al, c1, c2⟩ := rel.slot i d .fr (look_some hl)
      obtain rfl := c1 rfl
      have hlt : i < ρ.length := (List.getElem?_eq_some_iff.mp (look_some hl)).1
      refine ⟨ρ.set i (some (d, .st)), fun j => if j = i then [] else O j, fun a => S a ∨ a ∈ O i, fl, ?_, e', tFl.shift (c1 := true) ⟨fun a o _ e => e, fun j a z => ?_, fun a z => ?_, fun a z => .inl z⟩ (fun z => nomatch z) (by rw [hc] at q; simpa using q)⟩
      · refine ⟨by rw [List.length_set]; exact rel.len, fun j d' k' ej => ?_, fun j a ha => ?_, fun j => ?_, fun j l a h1 h2 => ?_, fun a z => ?_, rel.kept⟩
        · by_cases hj : j = i
          · subst hj
            rw [List.getElem?_set_self hlt] at ej
            simp only [Option.some.injEq, Prod.mk.injEq] at ej
            obtain ⟨rfl, rfl⟩ := ej
            exact ⟨v, _, e1, rr, al, (fun z => nomatch z), fun _ a ha => .inr ha⟩
          · rw [List.getElem?_set_ne (fun z => hj z.symm)] at ej
            obtain ⟨v', F', e2, r2, al2, d1, d2⟩ := rel.slot j d' k' ej
            exact ⟨v', F', e2, r2, al2, fun z => by rw [if_neg hj]; exact d1 z, fun z a ha => .inl (d2 z a ha)⟩
        · by_cases hj : j = i
          · rw [if_pos hj] at ha; cases ha
          · rw [if_neg hj] at ha
            obtain ⟨⟨d', e2⟩, m, b, ns⟩ := rel.own j a ha
            refine ⟨⟨d', by rw [List.getElem?_set_ne (fun z => hj z.symm)]; exact e2⟩, m, b, fun z => ?_⟩
            rcases z with z | z
            · exact ns z
            · exact hj (rel.dis j i a ha z)
        · by_cases hj : j = i
          · rw [if_pos hj]; exact List.nodup_nil
          · rw [if_neg hj]; exact rel.nod j
        · by_cases hj : j = i
          · rw [if_pos hj] at h1; cases h1
          · by_cases hl : l = i
            · rw [if_pos hl] at h2; cases h2
            · rw [if_neg hj] at h1; rw [if_neg hl] at h2
              exact rel.dis j l a h1 h2
        · rcases z with z | z
          · exact rel.stb a z
          · exact ⟨al a z, rr.there a z⟩
      · by_cases hj : j = i
        · rw [if_pos hj] at z; cases z
        · rw [if_neg hj] at z; exact .inl ⟨j, z⟩
      · rcases z with z | z
        · exact .inl z
        · exact .inr (.inl ⟨i, z⟩)
    · have e' : denSs Z r ρ = some fl := by
        cases kk with
        | fr => exact absurd rfl hk
        | st => exact e
        | bo => exact e
      exact ⟨ρ, O, S, fl, rel, e', tFl.shift (c1 := true) Stp.refl (fun z => nomatch z) (by rw [hc] at q; simpa using q)⟩
end
end Al
/-! A5l: plain statements. -/
namespace Al
open PySem L2

def OkS (wd : Wd) (k : Nat) (s : Al.S) : Prop := ∀ (T : Tab) (f : Fx) (nm : Nms) (X : Cx) (st : Stmt), At wd T f k nm X → (∀ x, X.fn x = true) → chkS T nm s st = true → AllS (PF wd T k) s → PS X st (tS f wd.Z s)
def OkSs (wd : Wd) (k : Nat) (s : Ss) : Prop := ∀ (T : Tab) (f : Fx) (nm : Nms) (X : Cx) (st : List Stmt), At wd T f k nm X → (∀ x, X.fn x = true) → chkSs T nm s st = true → AllSs (PF wd T k) s → PSs X st (tSs f wd.Z s)

section
variable {wd : Wd} {T : Tab} {f : Fx} {k : Nat} {nm : Nms} {X : Cx} {Z : Far} {σ : St} {H H1 : Hp} {ρ : Env} {O O1 : Nat → List Addr} {S S1 : Addr → Prop} {N : Addr → Prop}
theorem swaps_no {e : Expr} (h : isComp e = false) (t : Option Expr) (l : Nat) (env : PySem.Env) : swapsWith e t l env = pure false := by
  cases e <;> first | rfl | cases h
theorem s_exp {e : E} : OkS wd k (.exp e) := fun T f nm X st a hf h hP => by
  cases st with
  | Expr x pos =>
    have h : (!isComp x && chkE T nm e x) = true := h
    simp only [Bool.and_eq_true, Bool.not_eq_true'] at h
    refine PS.mono (ps_expr (okE wd k e T f nm X x a h.2 hP).pe (swaps_no h.1 _ _ _)) fun D σ H h => ?_
    obtain ⟨ρ, O, S, fl, rel, e1, q⟩ := h
    simp only [denS] at e1
    unfold bndS at e1
    split at e1
    · next d kk ρ1 e2 =>
      cases e1
      exact ⟨ρ, O, S, d, kk, ρ1, rel, e2, fun v H1 O1 S1 F rel1 s1 t1 w1 => q σ H1 O1 S1 rel1 s1 fun he => (w1 he).1⟩
    · cases e1
      exact q.elim
    · cases e1
  | _ => exact no_tt h
/-- a slot is set to what has come -/
theorem r_set {tg : Tg} {e : E} {D : Ends} (h : tS f Z (.set tg e) D σ H) : tAsg (tE f Z e) (tgG f.K tg) D σ H := by
  obtain ⟨ρ, O, S, fl, rel, e1, q⟩ := h
  simp only [denS] at e1
  unfold bndS at e1
  split at e1
  · next d kk ρ1 e2 =>
    simp only [Option.map_eq_some_iff] at e1
    obtain ⟨ρ2, e3, rfl⟩ := e1
    refine ⟨ρ, O, S, d, kk, ρ1, rel, e2, fun v H1 O1 S1 F rel1 s1 t1 w1 => ?_⟩
    refine bind_ok e3 rel1 t1 fun σ1 O2 S2 rel2 b1 b2 b3 b4 b5 b6 => q σ1 H1 O2 S2 rel2 ⟨s1.keep, fun j a z => ?_, fun a z => ?_, fun a z => b3 a (s1.mono a z)⟩ fun he => (w1 he).1
    · rcases b1 j a z with ⟨l, z⟩ | z
      · exact s1.own' l a z
      · exact z
    · rcases b4 a z with z | z
      · exact s1.st' a z
      · exact .inr z
  · cases e1
    exact q.elim
  · cases e1
theorem s_set {tg : Tg} {e : E} : OkS wd k (.set tg e) := fun T f nm X st a hf h hP => by
  cases st with
  | Assign tgs v pos =>
    cases tgs with
    | nil => cases tg <;> exact no_tt h
    | cons t ts =>
      cases ts with
      | cons _ _ => cases tg <;> cases t <;> exact no_tt h
      | nil =>
        cases tg with
        | nm i =>
          cases t with
          | Name x py =>
            have h : (decide (T.N[i]? = some x) && (locB nm x && (asgOk nm x py v && chkE T nm e v))) = true := h
            simp only [Bool.and_eq_true, decide_eq_true_eq] at h
            obtain ⟨h1, h2, h3, h4⟩ := h
            exact PS.mono ((okE wd k e T f nm X v a h4 hP).asg i x py pos h1 h2 (.inl (hf x)) h3) fun D σ H => r_set
          | _ => exact no_tt h
        | tp is =>
          cases t with
          | Tuple es kk py =>
            have h : (!isComp v && (!isTuple v && (chkNms T (locB nm) is es && chkE T nm e v))) = true := h
            simp only [Bool.and_eq_true, Bool.not_eq_true'] at h
            obtain ⟨h1, h2, h3, h4⟩ := h
            have pg : PG X (.Tuple es kk py) (tgG f.K (.tp is)) := k_tg a (ok := locB nm) (fun x hx => ⟨a.loc hx, .inl (hf x)⟩) h3
            refine PS.mono (ps_asg (okE wd k e T f nm X v a h4 hP).pe pg (show swapsWith v (some (.Tuple es kk py)) pos.line X.env = pure false from swaps_no h1 _ _ _) ?_ rfl) fun D σ H => r_set
            cases v <;> first | rfl | (simp [isTuple] at h2)
          | _ => exact no_tt h
  | _ => cases tg <;> exact no_tt h
theorem s_ret {e : E} : OkS wd k (.ret e) := fun T f nm X st a hf h hP => by
  cases st with
  | Return v pos =>
    cases v with
    | none => exact no_tt h
    | some x =>
      refine PS.mono (ps_ret (okE wd k e T f nm X x a h hP).pe) fun D σ H h => ?_
      obtain ⟨ρ, O, S, fl, rel, e1, q⟩ := h
      simp only [denS] at e1
      unfold bndS at e1
      split at e1
      · next d kk ρ1 e2 =>
        cases e1
        exact ⟨ρ, O, S, d, kk, ρ1, rel, e2, fun v H1 O1 S1 F rel1 s1 t1 w1 => q v σ H1 O1 S1 F rel1 s1 t1⟩
      · cases e1
        exact q.elim
      · cases e1
  | _ => exact no_tt h
theorem s_retN : OkS wd k .retN := fun T f nm X st a hf h hP => by
  cases st with
  | Return v pos =>
    cases v with
    | some x => exact no_tt h
    | none =>
      refine PS.mono ps_retN fun D σ H h => ?_
      obtain ⟨ρ, O, S, fl, rel, e1, q⟩ := h
      simp only [denS, Option.some.injEq] at e1
      subst e1
      exact q .non σ H O S [] rel Stp.refl ⟨.atom .non .nil, (fun _ z => nomatch z), (fun z => nomatch z), fun _ _ z => nomatch z⟩
  | _ => exact no_tt h
theorem s_pass : OkS wd k .pass := fun T f nm X st a hf h hP => by
  cases st with
  | Pass pos =>
    refine PS.mono ps_pass fun D σ H h => ?_
    obtain ⟨ρ, O, S, fl, rel, e1, q⟩ := h
    simp only [denS, Option.some.injEq] at e1
    subst e1
    exact q σ H O S rel Stp.refl fun _ => Ext.refl H
  | _ => exact no_tt h
theorem s_brk : OkS wd k .brk := fun T f nm X st a hf h hP => by
  cases st with
  | Break pos =>
    refine PS.mono ps_break fun D σ H h => ?_
    obtain ⟨ρ, O, S, fl, rel, e1, q⟩ := h
    simp only [denS, Option.some.injEq] at e1
    subst e1
    exact q σ H O S rel Stp.refl fun _ => Ext.refl H
  | _ => exact no_tt h
theorem s_cont : OkS wd k .cont := fun T f nm X st a hf h hP => by
  cases st with
  | Continue pos =>
    refine PS.mono ps_continue fun D σ H h => ?_
    obtain ⟨ρ, O, S, fl, rel, e1, q⟩ := h
    simp only [denS, Option.some.injEq] at e1
    subst e1
    exact q σ H O S rel Stp.refl fun _ => Ext.refl H
  | _ => exact no_tt h
theorem s_rais {c : Nat} {p : E} : OkS wd k (.rais c p) := fun T f nm X st a hf h hP => by
  refine ⟨fun pins s σ H D I q => ?_⟩
  exfalso
  obtain ⟨ρ, O, S, fl, rel, e1, q⟩ := q
  simp only [denS] at e1
  unfold bndS at e1
  split at e1
  · dsimp only at e1
    split at e1
    · cases e1
      exact q
    · cases e1
  · cases e1
    exact q
  · cases e1
theorem s_ife {c : E} {x y : Ss} (i1 : OkSs wd k x) (i2 : OkSs wd k y) : OkS wd k (.ife c x y) := fun T f nm X st a hf h hP => by
  cases st with
  | If e ys zs pos =>
    have h : (notIf e && (chkE T nm c e && (chkSs T nm x ys && chkSs T nm y zs))) = true := h
    simp only [Bool.and_eq_true] at h
    obtain ⟨h1, h2, h3, h4⟩ := h
    refine PS.mono (ps_if ((okE wd k c T f nm X e a h2 hP.1).pt h1) (i1 T f nm X ys a hf h3 hP.2.1) (i2 T f nm X zs a hf h4 hP.2.2)) fun D σ H h => ?_
    obtain ⟨ρ, O, S, fl, rel, e1, q⟩ := h
    simp only [denS] at e1
    unfold bndS at e1
    split at e1
    · next d kk ρ1 e2 =>
      refine ⟨ρ, O, S, d, kk, ρ1, rel, e2, fun v H1 O1 S1 F rel1 s1 t1 w1 => ?_⟩
      dsimp only at e1
      split at e1
      · obtain ⟨rfl, _⟩ := R.bl t1.r
        refine ⟨true, rfl, ?_⟩
        refine ⟨ρ1, O1, S1, fl, rel1, e1, tFl.shift (c1 := c.eff) s1 (fun he => (w1 he).1) ?_⟩
        exact tFl.less (fun z => by simp only [Al.S.chg, Bool.or_eq_false_iff] at z; simp [z.1, z.2.1]) q
      · obtain ⟨rfl, _⟩ := R.bl t1.r
        refine ⟨false, rfl, ?_⟩
        refine ⟨ρ1, O1, S1, fl, rel1, e1, tFl.shift (c1 := c.eff) s1 (fun he => (w1 he).1) ?_⟩
        exact tFl.less (fun z => by simp only [Al.S.chg, Bool.or_eq_false_iff] at z; simp [z.1, z.2.2]) q
      · cases e1
    · cases e1
      exact q.elim
    · cases e1
  | _ => exact no_tt h
end
end Al
/-! A5m: loops. -/
namespace Al
open PySem L2

section
variable {wd : Wd} {T : Tab} {f : Fx} {k : Nat} {nm : Nms} {X : Cx} {Z : Far} {σ : St} {H H1 : Hp} {ρ : Env} {O O1 : Nat → List Addr} {S S1 : Addr → Prop} {N : Addr → Prop}
theorem Stp.kill {ks : List Nat} (s : Stp H O S H1 O1 S1) : Stp H O S H1 (fun j => if j ∈ ks then [] else O1 j) S1 := ⟨s.keep, fun i a z => by
  by_cases h : i ∈ ks
  · rw [if_pos h] at z; cases z
  · rw [if_neg h] at z; exact s.own' i a z, s.st', s.mono⟩
def tSsX (f : Fx) (Z : Far) (b : Ss) : TS := fun D σ H => ∃ f' : Fx, f'.w = f.w ∧ f'.K = f.K ∧ f'.cad = f.cad ∧ tSs f' Z b D σ H
theorem At.other (a : At wd T f k nm X) {f' : Fx} (hw : f'.w = f.w) (hK : f'.K = f.K) (hc : f'.cad = f.cad) : At wd T f' k nm X where
  prog := a.prog
  mg := a.mg
  base := a.base
  w' := a.w'
  K' := a.K'
  cad := by rw [hc]; exact a.cad
  N := a.N
  nd := a.nd
  nm := a.nm
  kd := a.kd
  calm := a.calm
  K := by rw [hK]; exact a.K
  w := by rw [hw]; exact a.w
  room := a.room
  xe := a.xe
  bl := a.bl
  cst := a.cst
  cls := by rw [hc]; exact a.cls
/-- how a turn ends: the loop's own end -/
theorem r_for {tg : Tg} {it : Al.It} {b : Ss} {ks : List Nat} {D : Ends} (h : tS f Z (.forS tg it b ks) D σ H) : tFor (tI f Z b.chg it) (tgG f.K tg) (tSsX f Z b) D σ H := by
  obtain ⟨ρ, O, S, fl, rel, e, fin⟩ := h
  simp only [denS] at e
  unfold bndLS at e
  split at e
  · next xs ρ1 e1 =>
    dsimp only at e
    refine ⟨ρ, O, S, xs, ρ1, rel, e1, fun J vs ds H1 O1 S1 Fs rel1 s1 tm1 hnf hbo ok w1 => ?_⟩
    let Wi : Nat → Nat → St → Hp → Prop := fun i m σ' H' => ∃ ρ' O' S', Rel f σ' H' ρ' O' S' ∧ Stp H O S H' O' S' ∧ (it.eff = false → b.chg = false → Ext H H') ∧ Tms f (New H O) H' O' S' vs ds Fs ∧ loopF (fun ρ => denSs Z b ρ) tg ks (xs.drop i) ρ' = some fl ∧ i ≤ xs.length ∧ m = xs.length - i
    refine ⟨Wi, ⟨xs.length, ρ1, O1, S1, rel1, s1, fun z _ => (w1 z).1, tm1, by simpa using e, Nat.zero_le _, rfl⟩, ?_⟩
    rintro i m σ' H' ⟨ρ', O', S', rel', s', x', tm', eL, hi, rfl⟩
    obtain ⟨ok1, ok2, ok3, ok4, ok5⟩ := ok H' Fs rel'.kept tm'.as
    by_cases hlt : i < xs.length
    · right
      refine ⟨ok3 i hlt, Wi (i + 1) (xs.length - (i + 1)), fun σ2 H2 z => ⟨_, by omega, z⟩, fun x H'' hy => ?_⟩
      have hget : xs[i]? = some xs[i] := List.getElem?_eq_getElem hlt
      obtain ⟨E', pst⟩ := ok5 i x H'' xs[i] hget hy
      have hdrop : xs.drop i = xs[i] :: xs.drop (i + 1) := List.drop_eq_getElem_cons hlt
      rw [hdrop] at eL
      have kne : xs[i].2 ≠ .fr := ok2 _ (List.getElem_mem hlt)
      -- the slots that are forgotten
      have relk := rel'.kill ks (.inl rfl)
      have sk := s'.kill (ks := ks)
      have tmk : Tms f (New H O) H' (fun j => if j ∈ ks then [] else O' j) S' vs ds Fs := tm'.over rfl rfl rfl hnf (Ext.refl _) (fun _ z => z) fun a z _ => z
      have hN : ∀ a, H' a = none → New H O a := fun a z => s'.back (.inr z)
      obtain ⟨S2, rel2, tmi, m1, m2⟩ := Pst.done relk tmk hN pst
      have s2 : Stp H O S H'' (fun j => if j ∈ ks then [] else O' j) S2 := (sk.ext pst.ext).more m1 m2
      have tm2 : Tms f (New H O) H'' (fun j => if j ∈ ks then [] else O' j) S2 vs ds Fs := tm'.over rfl rfl rfl hnf pst.ext m1 fun a z _ => z
      have eS : loopF (fun ρ => denSs Z b ρ) tg ks (xs[i] :: xs.drop (i + 1)) ρ' = (match bindT tg xs[i].1 xs[i].2 (kill ρ' ks) with
        | none => none
        | some ρ1 => match denSs Z b ρ1 with
          | some (.nx ρ2) => loopF (fun ρ => denSs Z b ρ) tg ks (xs.drop (i + 1)) ρ2
          | some (.ct ρ2) => loopF (fun ρ => denSs Z b ρ) tg ks (xs.drop (i + 1)) ρ2
          | some (.bk ρ2) => some (.nx (kill ρ2 ks))
          | some (.rt d k ρ2) => some (.rt d k ρ2)
          | some (.ex c p ρ2) => some (.ex c p ρ2)
          | none => none) := rfl
      rw [eS] at eL
      cases eb : bindT tg xs[i].1 xs[i].2 (kill ρ' ks) with
      | none => rw [eb] at eL; cases eL
      | some ρ2 =>
        rw [eb] at eL
        dsimp only at eL
        refine bind_ok eb rel2 tmi fun σ3 O3 S3 rel3 b1 b2 b3 b4 b5 b6 => ?_
        obtain rfl := b5 kne
        have s3 : Stp H O S H'' O3 S3 := ⟨s2.keep, fun j a z => by
          rcases b1 j a z with ⟨l, z⟩ | z
          · exact s2.own' l a z
          · exact z, s2.st', s2.mono⟩
        have tm3 : Tms f (New H O) H'' O3 S3 vs ds Fs := tm'.over rfl rfl rfl hnf pst.ext m1 fun a z _ => z
        cases ed : denSs Z b ρ2 with
        | none => rw [ed] at eL; cases eL
        | some fb =>
          rw [ed] at eL
          -- over the turn's body
          have over : ∀ {H4 : Hp} {O4 : Nat → List Addr} {S4 : Addr → Prop}, Stp H'' O3 S3 H4 O4 S4 → (b.chg = false → Ext H'' H4) → Tms f (New H O) H4 O4 S4 vs ds Fs := fun {H4 O4 S4} s4 w4 => by
            cases hc : b.chg with
            | false => exact tm3.over rfl rfl rfl hnf (w4 hc) s4.mono fun a z _ => z
            | true => exact tm3.step rel3 s4 (hbo hc)
          refine ⟨f, rfl, rfl, rfl, ρ2, O3, S3, fb, rel3, ed, ?_⟩
          cases fb with
          | nx ρ4 =>
            exact fun σ4 H4 O4 S4 rel4 s4 w4 => ⟨ρ4, O4, S4, rel4, s3.trans s4, fun z1 z2 => (x' z1 z2).trans (pst.ext.trans (w4 z2)), over s4 w4, eL, hlt, rfl⟩
          | ct ρ4 =>
            exact fun σ4 H4 O4 S4 rel4 s4 w4 => ⟨ρ4, O4, S4, rel4, s3.trans s4, fun z1 z2 => (x' z1 z2).trans (pst.ext.trans (w4 z2)), over s4 w4, eL, hlt, rfl⟩
          | bk ρ4 =>
            simp only [Option.some.injEq] at eL
            subst eL
            exact fun σ4 H4 O4 S4 rel4 s4 w4 => fin σ4 H4 _ S4 (rel4.kill ks (.inl rfl)) ((s3.trans s4).kill (ks := ks)) fun he => by
              simp only [Al.S.chg, Bool.or_eq_false_iff] at he
              exact (x' he.1 he.2).trans (pst.ext.trans (w4 he.2))
          | rt d kk ρ4 =>
            simp only [Option.some.injEq] at eL
            subst eL
            exact fun v σ4 H4 O4 S4 F rel4 s4 t4 => fin v σ4 H4 O4 S4 F rel4 (s3.trans s4) (t4.weaken fun a z => s3.back z)
          | ex c p ρ4 =>
            simp only [Option.some.injEq] at eL
            subst eL
            exact fin.elim
    · left
      have hi' : i = xs.length := by omega
      subst hi'
      rw [List.drop_length] at eL
      have eL : some (Fl.nx (kill ρ' ks)) = some fl := eL
      cases eL
      refine ⟨ok4, fin σ' H' _ S' (rel'.kill ks (.inl rfl)) (s'.kill (ks := ks)) fun he => ?_⟩
      simp only [Al.S.chg, Bool.or_eq_false_iff] at he
      exact x' he.1 he.2
  · cases e
    exact fin.elim
  · cases e
theorem tFl.unlock {chg : Bool} {D : Ends} {fl : Fl} {d : Addr} {od : Obj} {u : HO} (h : tFl f chg H O S D fl) (hd : H d = some u) (hu : isDicU u) (k0 : ∀ o, ¬ f.B d → f.H0 d = some o → o = u) :
    tFl (f.lockd d (.frz od u)) chg (L2.upd H d (.frz od u)) O S ⟨fun σ' H' => H' d = some (.frz od u) ∧ D.nx σ' (L2.upd H' d u), fun v H' => H' d = some (.frz od u) ∧ D.rt v (L2.upd H' d u), fun σ' H' => H' d = some (.frz od u) ∧ D.bk σ' (L2.upd H' d u), fun σ' H' => H' d = some (.frz od u) ∧ D.ct σ' (L2.upd H' d u)⟩ fl := by
  cases fl with
  | nx ρ1 => exact fun σ1 H1 O1 S1 rel1 s1 x1 => ⟨rel1.locked, h σ1 _ O1 S1 (rel1.unlock hu k0) (s1.unlock hd) fun z => (x1 z).unlock hd⟩
  | bk ρ1 => exact fun σ1 H1 O1 S1 rel1 s1 x1 => ⟨rel1.locked, h σ1 _ O1 S1 (rel1.unlock hu k0) (s1.unlock hd) fun z => (x1 z).unlock hd⟩
  | ct ρ1 => exact fun σ1 H1 O1 S1 rel1 s1 x1 => ⟨rel1.locked, h σ1 _ O1 S1 (rel1.unlock hu k0) (s1.unlock hd) fun z => (x1 z).unlock hd⟩
  | rt x kk ρ1 => exact fun v σ1 H1 O1 S1 F rel1 s1 t1 => ⟨rel1.locked, h v σ1 _ O1 S1 F (rel1.unlock hu k0) (s1.unlock hd) (t1.unlock rel1.locked hu fun a => new_lock)⟩
  | ex _ _ _ => exact h
theorem tFl.unlock0 {chg : Bool} {D : Ends} {fl : Fl} {d : Addr} {od : Obj} {u : HO} (h : tFl f chg H O S D fl) (k0 : ∀ o, ¬ f.B d → f.H0 d = some o → o = .frz od u) : tFl (f.lockd d (.frz od u)) chg H O S D fl := by
  cases fl with
  | nx ρ1 => exact fun σ1 H1 O1 S1 rel1 s1 x1 => h σ1 _ O1 S1 (rel1.unlock0 k0) s1 x1
  | bk ρ1 => exact fun σ1 H1 O1 S1 rel1 s1 x1 => h σ1 _ O1 S1 (rel1.unlock0 k0) s1 x1
  | ct ρ1 => exact fun σ1 H1 O1 S1 rel1 s1 x1 => h σ1 _ O1 S1 (rel1.unlock0 k0) s1 x1
  | rt x kk ρ1 => exact fun v σ1 H1 O1 S1 F rel1 s1 t1 => h v σ1 _ O1 S1 F (rel1.unlock0 k0) s1 (t1.unlock0 fun _ z => z)
  | ex _ _ _ => exact h
theorem r_fork {tg : Tg} {i : Nat} {b : Ss} {ks : List Nat} {D : Ends} (h : tS f Z (.forS tg (.keys i) b ks) D σ H) : tFor (tIk f Z b.chg i) (tgG f.K tg) (tSsX f Z b) D σ H ∨ tLock (tFor (tIk f Z b.chg i) (tgG f.K tg) (tSsX f Z b)) D σ H := by
  obtain ⟨ρ, O, S, fl, rel, e, fin⟩ := h
  have e0 := e
  simp only [denS] at e0
  unfold bndLS at e0
  split at e0
  · next xs ρ1 e1 =>
    obtain ⟨a, u, hs, hu, rd, hS⟩ := keys_at rel e1
    rcases rd with rd | ⟨od, rd⟩
    · have hO : ∀ j, a ∉ O j := fun j z => (rel.own j a z).2.2.2 hS
      refine .inr ⟨a, u, rd, hu.mut, fun od => ?_⟩
      exact ⟨f.lockd a (.frz od u), rfl, rfl, rfl, ⟨a, od, u, hs, hu, fun z => z.2 rfl, if_pos rfl⟩, r_for (f := f.lockd a (.frz od u)) ⟨ρ, O, S, fl, rel.lock (od := od) rd hu hO, e, fin.unlock rd hu (rel.k0 rd)⟩⟩
    · left
      exact ⟨f.lockd a (.frz od u), rfl, rfl, rfl, ⟨a, od, u, hs, hu, fun z => z.2 rfl, if_pos rfl⟩, r_for (f := f.lockd a (.frz od u)) ⟨ρ, O, S, fl, rel.lock0 rd, e, fin.unlock0 (rel.k0 rd)⟩⟩
  · next e1 => simp only [denI] at e1; split at e1 <;> (try split at e1) <;> cases e1
  · cases e0
theorem s_for {tg : Tg} {it : Al.It} {b : Ss} {ks : List Nat} (iI : OkI wd k it) (iB : OkSs wd k b) : OkS wd k (.forS tg it b ks) := fun T f nm X st a hf h hP => by
  cases st with
  | For t i ys els pos =>
    cases els with
    | cons _ _ => exact no_tt h
    | nil =>
      have h : (notSet i && (chkI T nm it i t && (chkTg T (locB nm) tg t && chkSs T nm b ys))) = true := h
      simp only [Bool.and_eq_true] at h
      obtain ⟨h1, h2, h3, h4⟩ := h
      have pg : PG X t (tgG f.K tg) := k_tg a (ok := locB nm) (fun x hx => ⟨a.loc hx, .inl (hf x)⟩) h3
      have pb : PSs X ys (tSsX f wd.Z b) := ⟨fun pins s σ H D I ⟨f', q1, q2, q3, q⟩ => (iB T f' nm X ys (a.other q1 q2 q3) hf h4 hP.2).run pins s σ H D I q⟩
      cases hit : it.isK with
      | false => exact PS.mono (ps_for (by rw [a.xe]; exact PassesOwn.never) a.calm (iI hit T f nm X b.chg i t a h2 hP.1) pg pb (fold_set h1 _)) fun D σ H => r_for
      | true =>
        obtain ⟨ik, rfl⟩ : ∃ ik, it = .keys ik := by cases it <;> first | exact ⟨_, rfl⟩ | cases hit
        exact PS.mono (ps_orlock (ps_for (by rw [a.xe]; exact PassesOwn.never) a.calm (k_keys (f := f) (Z := wd.Z) (chg := b.chg) a h2) pg pb (fold_set h1 _))) fun D σ H => r_fork
  | _ => exact no_tt h
theorem r_whl {c : E} {b : Ss} {ks : List Nat} {D : Ends} (h : tS f Z (.whl c b ks) D σ H) : tWhile (tT f Z c) (tSs f Z b) D σ H := by
  obtain ⟨ρ, O, S, fl, rel, e, fin⟩ := h
  simp only [denS] at e
  let Wi : Nat → St → Hp → Prop := fun m σ' H' => ∃ ρ' O' S', Rel f σ' H' ρ' O' S' ∧ Stp H O S H' O' S' ∧ (c.eff = false → b.chg = false → Ext H H') ∧ loopW (fun ρ => denE Z c ρ) (fun ρ => denSs Z b ρ) ks m ρ' = some fl
  refine ⟨Wi, ⟨TURNS, ρ, O, S, rel, Stp.refl, fun _ _ => Ext.refl H, e⟩, ?_⟩
  rintro m σ' H' ⟨ρ', O', S', rel', s', x', eL⟩
  cases m with
  | zero => cases eL
  | succ m =>
    have eS : loopW (fun ρ => denE Z c ρ) (fun ρ => denSs Z b ρ) ks (m + 1) ρ' = (match denE Z c (kill ρ' ks) with
      | some (.ok (.bl true) _ ρ1) => match denSs Z b ρ1 with
        | some (.nx ρ2) => loopW (fun ρ => denE Z c ρ) (fun ρ => denSs Z b ρ) ks m ρ2
        | some (.ct ρ2) => loopW (fun ρ => denE Z c ρ) (fun ρ => denSs Z b ρ) ks m ρ2
        | some (.bk ρ2) => some (.nx (kill ρ2 ks))
        | some (.rt d k ρ2) => some (.rt d k ρ2)
        | some (.ex c p ρ2) => some (.ex c p ρ2)
        | none => none
      | some (.ok (.bl false) _ ρ1) => some (.nx (kill ρ1 ks))
      | some (.ex c p ρ1) => some (.ex c p ρ1)
      | _ => none) := rfl
    rw [eS] at eL
    have relk := rel'.kill ks (.inl rfl)
    have sk := s'.kill (ks := ks)
    split at eL
    · next kk ρ1 e1 =>
      refine ⟨kill ρ' ks, _, S', .bl true, kk, ρ1, relk, e1, fun v H2 O2 S2 F rel2 s2 t2 w2 => ?_⟩
      obtain ⟨rfl, _⟩ := R.bl t2.r
      refine ⟨true, rfl, ?_⟩
      refine ⟨fun σ3 H3 => Wi m σ3 H3, fun σ3 H3 z => ⟨m, Nat.lt_succ_self m, z⟩, ?_⟩
      cases ed : denSs Z b ρ1 with
      | none => rw [ed] at eL; cases eL
      | some fb =>
        rw [ed] at eL
        refine ⟨ρ1, O2, S2, fb, rel2, ed, ?_⟩
        have s3 := sk.trans s2
        cases fb with
        | nx ρ4 => exact fun σ4 H4 O4 S4 rel4 s4 w4 => ⟨ρ4, O4, S4, rel4, s3.trans s4, fun z1 z2 => (x' z1 z2).trans ((w2 z1).1.trans (w4 z2)), eL⟩
        | ct ρ4 => exact fun σ4 H4 O4 S4 rel4 s4 w4 => ⟨ρ4, O4, S4, rel4, s3.trans s4, fun z1 z2 => (x' z1 z2).trans ((w2 z1).1.trans (w4 z2)), eL⟩
        | bk ρ4 =>
          simp only [Option.some.injEq] at eL
          subst eL
          exact fun σ4 H4 O4 S4 rel4 s4 w4 => fin σ4 H4 _ S4 (rel4.kill ks (.inl rfl)) ((s3.trans s4).kill (ks := ks)) fun he => by
            simp only [Al.S.chg, Bool.or_eq_false_iff] at he
            exact (x' he.1 he.2).trans ((w2 he.1).1.trans (w4 he.2))
        | rt d kk ρ4 =>
          simp only [Option.some.injEq] at eL
          subst eL
          exact fun v σ4 H4 O4 S4 F rel4 s4 t4 => fin v σ4 H4 O4 S4 F rel4 (s3.trans s4) (t4.weaken fun a z => s3.back z)
        | ex c p ρ4 =>
          simp only [Option.some.injEq] at eL
          subst eL
          exact fin.elim
    · next kk ρ1 e1 =>
      cases eL
      refine ⟨kill ρ' ks, _, S', .bl false, kk, ρ1, relk, e1, fun v H2 O2 S2 F rel2 s2 t2 w2 => ?_⟩
      obtain ⟨rfl, _⟩ := R.bl t2.r
      refine ⟨false, rfl, ?_⟩
      exact fin σ' H2 _ S2 (rel2.kill ks (.inl rfl)) ((sk.trans s2).kill (ks := ks)) fun he => by
        simp only [Al.S.chg, Bool.or_eq_false_iff] at he
        exact (x' he.1 he.2).trans (w2 he.1).1
    · cases eL
      exact fin.elim
    · cases eL
theorem s_whl {c : E} {b : Ss} {ks : List Nat} (iB : OkSs wd k b) : OkS wd k (.whl c b ks) := fun T f nm X st a hf h hP => by
  cases st with
  | While e ys els pos =>
    cases els with
    | cons _ _ => exact no_tt h
    | nil =>
      have h : (notIf e && (chkE T nm c e && chkSs T nm b ys)) = true := h
      simp only [Bool.and_eq_true] at h
      obtain ⟨h1, h2, h3⟩ := h
      exact PS.mono (ps_while (by rw [a.xe]; exact PassesOwn.never) ((okE wd k c T f nm X e a h2 hP.1).pt h1) (iB T f nm X ys a hf h3 hP.2)) fun D σ H => r_whl
  | _ => exact no_tt h
end
end Al
/-! A5n: what is changed at a name. -/
namespace Al
open PySem L2

section
variable {wd : Wd} {T : Tab} {f : Fx} {k : Nat} {nm : Nms} {X : Cx} {Z : Far} {σ : St} {H H1 : Hp} {ρ : Env} {O O1 : Nat → List Addr} {S S1 : Addr → Prop} {N : Addr → Prop}
/-- xs.append(e), xs a name -/
theorem r_app {i : Nat} {e : E} {D : Ends} (h : tS f Z (.app (.var i) e) D σ H) : tDrop (tBM f.K "list" rAppend (tVar i) (tCons (tE f Z e) tNil)) D σ H := by
  obtain ⟨ρ, O, S, fl, rel, e1, fin⟩ := h
  simp only [denS] at e1
  split at e1
  · cases e1
  · next hc =>
    simp only [Bool.or_eq_true, not_or, Bool.not_eq_true, Bool.not_eq_eq_eq_not, Bool.not_true, Bool.not_false] at hc
    obtain ⟨_, _, hlens⟩ := hc
    have hlens : isLens (lensE Z (.var i) ρ) = true := by simpa using hlens
    obtain ⟨r0, xs0, put0, hl0⟩ : ∃ r0 xs0 put0, lensE Z (.var i) ρ = some (r0, .lst xs0, put0) := by
      unfold isLens at hlens
      split at hlens
      · next e => exact ⟨_, _, _, e⟩
      · cases hlens
    obtain ⟨rfl, hl0', rfl⟩ := lens_var hl0
    obtain ⟨a, vs0, E0, hv, ha0, _, _, _⟩ := slot_lst rel hl0'
    refine ⟨.ref a, hv, .inl ⟨rfl, vs0, SqL.of ha0⟩, ?_⟩
    unfold bndS at e1
    split at e1
    · next d kk ρ1 e2 =>
      refine ⟨ρ, O, S, d, kk, ρ1, rel, e2, fun y H1 O1 S1 F rel1 s1 t1 w1 => ?_⟩
      dsimp only at e1
      split at e1
      · cases e1
      · next hk =>
        have hk : flat d = true ∨ kk = .fr := by
          cases hf : flat d with
          | true => exact .inl rfl
          | false => rw [hf] at hk; simpa using hk
        split at e1
        · next i2 xs put hl =>
          obtain ⟨hi2, hl', rfl⟩ := lens_var hl
          subst hi2
          split at e1
          · next hlen =>
            cases e1
            obtain ⟨a', vs, E, hv', ha, la, r, hO⟩ := slot_lst rel1 hl'
            rw [hv] at hv'
            cases hv'
            have hlv := r.length
            refine ⟨a, vs, y, rfl, rfl, ha, by rw [← LINE_eq]; omega, ?_⟩
            have nd := rel1.nod i2
            rw [hO] at nd
            obtain ⟨nd1, nd2⟩ := List.nodup_cons.mp nd
            have hFd : (∀ b ∈ F, Mut (H1 b) ∧ f.B b ∧ ¬ S1 b ∧ New H O b ∧ ∀ j, b ∉ O1 j) ∧ F.Nodup := by
              rcases hk with hf | hf
              · rw [R.flat t1.r hf]
                exact ⟨(fun _ z => nomatch z), List.nodup_nil⟩
              · exact ⟨(t1.fr hf).2, (t1.fr hf).1⟩
            obtain ⟨rel2, s2⟩ := rel1.setLst s1 hl' hv ha hO (R.app r t1.r) (by rw [List.length_append]; simp; omega) (by
              rw [List.nodup_append]
              refine ⟨nd2, hFd.2, fun b hb c hc e => ?_⟩
              subst e
              exact (hFd.1 b hc).2.2.2.2 i2 (by rw [hO]; exact List.mem_cons_of_mem _ hb)) fun b hb => by
              rcases List.mem_append.mp hb with hb | hb
              · have o := rel1.own i2 b (by rw [hO]; exact List.mem_cons_of_mem _ hb)
                exact ⟨fun z => nd1 (z ▸ hb), o.2.1, o.2.2.1, o.2.2.2, .inl hb⟩
              · obtain ⟨m, bb, ns, n, no⟩ := hFd.1 b hb
                exact ⟨fun z => no i2 (by rw [hO, z]; exact List.mem_cons_self), m, bb, ns, .inr ⟨no, n⟩⟩
            exact fin σ _ _ S1 rel2 s2 fun z => nomatch z
          · cases e1
        · cases e1
    · cases e1
      exact fin.elim
    · cases e1
end
end Al
/-! A6c: what is changed: items, attributes, lists by their methods. -/
namespace Al
open PySem L2

section
variable {wd : Wd} {T : Tab} {f : Fx} {k : Nat} {nm : Nms} {X : Cx} {Z : Far} {σ : St} {H H1 : Hp} {ρ : Env} {O O1 : Nat → List Addr} {S S1 : Addr → Prop} {N : Addr → Prop}
theorem inv_idx {o e0 : E} {e : Expr} (h : chkE T nm (.prim .idx (.cons o (.cons e0 .nil))) e = true) : ∃ x y pos, e = .Subscript x y pos ∧ plainIx y = true ∧ chkE T nm o x = true ∧ chkE T nm e0 y = true := by
  simp only [chkE] at h
  split at h
  · next as hp =>
    simp only [Bool.and_eq_true] at h
    obtain ⟨_, _, _, hc⟩ := h
    have hc2 : ∃ x y, as = [x, y] ∧ chkE T nm o x = true ∧ chkE T nm e0 y = true := by
      cases as with
      | nil => simp [chkEs] at hc
      | cons x r =>
        cases r with
        | nil => simp [chkEs] at hc
        | cons y r =>
          cases r with
          | cons _ _ => simp [chkEs] at hc
          | nil =>
            simp only [chkEs, Bool.and_eq_true] at hc
            exact ⟨x, y, rfl, hc.1, hc.2.1⟩
    obtain ⟨x, y, rfl, hx, hy⟩ := hc2
    unfold prArgs at hp
    split at hp
    · split at hp
      · next hb => simp [binOf] at hb
      · cases hp
    · split at hp
      · next hb => cases hb
      · cases hp
    · split at hp
      · next hb => simp [cmpOf] at hb
      · split at hp
        · split at hp
          · next hb => cases hb
          · cases hp
        · split at hp
          · next hb => cases hb
          · cases hp
        · cases hp
    · split at hp
      · next hb => cases hb
      · cases hp
    · split at hp
      · next hb => cases hb
      · cases hp
    · split at hp
      · next hb => cases hb
      · cases hp
    · split at hp
      · next hb => cases hb.1
      · cases hp
    · split at hp
      · next hb =>
        simp only [Option.some.injEq, List.cons.injEq, and_true] at hp
        obtain ⟨rfl, rfl⟩ := hp
        exact ⟨_, _, _, rfl, hb.2, hx, hy⟩
      · cases hp
    · split at hp
      · next hq => simp [prCall] at hq
      · split at hp
        · next hq => cases hq
        · cases hp
    · split at hp
      · next hq => simp [prMeth] at hq
      · cases hp
    · cases hp
  · cases h
/-- a piece that names a part -/
theorem pLn (a : At wd T f k nm X) {o : E} (hv : Lv o) : ∀ {e : Expr}, chkE T nm o e = true → AllE (PF wd T k) o → PE X e (tLn f wd.Z o) := by
  induction hv with
  | var i => exact fun {e} h hP => PE.mono ((okE wd k (.var i) T f nm X e a h hP).var i rfl) fun σ H Q => tLn_var
  | @attr g o _ ih =>
    intro e h hP
    cases e <;> try simp only [chkE, Bool.false_eq_true] at h
    next x m pos =>
    simp only [chkE, Bool.and_eq_true, decide_eq_true_eq, Bool.not_eq_true'] at h
    obtain ⟨rfl, h7, hc, hb, ho⟩ := h
    obtain ⟨hcl, hna⟩ := a.cls hc
    refine PE.mono (pe_fld (ih ho hP) (baseB hb _ _)) fun σ H Q q => ?_
    obtain ⟨ρ, O, S, r, d, put, rel, e1, q⟩ := q
    simp only [lensE] at e1
    split at e1
    · next i c fs put' e2 =>
      simp only [Option.map_eq_some_iff, Prod.mk.injEq] at e1
      obtain ⟨x', hx, rfl, rfl, rfl⟩ := e1
      refine ⟨ρ, O, S, i, _, _, rel, e2, fun v H1 S1 A F B dr rel1 s1 x1 hl l => ?_⟩
      obtain ⟨p, dx, vs, j, w, A', F', B', rfl, ea, hn, g1, g3, g2, hall, l'⟩ := l.obj hx
      exact ⟨p, f.cad c, dx, vs, w, rfl, ea, hcl c, hna c g h7, lookup_at h7 hall hn g1 g2 g3, q w H1 S1 A' F' B' dr rel1 s1 x1 hl l'⟩
    · cases e1
  | @idx o e0 _ he ih =>
    intro e h hP
    obtain ⟨x, y, pos, rfl, hi, hx, hy⟩ := inv_idx h
    have p2 := (okE wd k e0 T f nm X y a hy hP.2.1).pe
    exact PE.mono (pe_ix ix_part (ih hx hP.1) p2 (plainIx_ok hi)) fun σ H Q q => tLn_idx he a.K q
/-- what is named, behind what has been done so far -/
theorem tLn_at {o : E} {r : Nat} {d : Al.D} {put : Al.D → Al.D} {Q : VK} (rel : Rel f σ H ρ O S) (e : lensE Z o ρ = some (r, d, put)) (q : ∀ v H1 S1 A F B dr, Rel f σ H1 ρ O S1 → Stp H O S H1 O S1 → Ext H H1 → look ρ r = some (dr, .fr) → LensAt f σ H1 O r v d put A F B → Q v H1) : tLn f Z o σ H Q :=
  ⟨ρ, O, S, r, d, put, rel, e, q⟩
theorem Tm.over {v : V} {d : Al.D} {kk : Kd} {F : List Addr} {N' : Addr → Prop} (t : Tm f N H O S v d kk F) (rel : Rel f σ H ρ O S) (s : Stp H O S H1 O S1) (x : Ext H H1) (hN : ∀ a, N a → N' a) : Tm f N' H1 O S1 v d kk F := t.carry rel s (.inr x) hN

theorem keyN_flat : ∀ (n : Nat) (d : Al.D), keyN n d = true → flatN n d = true
  | 0, d, h => by cases d <;> first | rfl | cases h
  | n + 1, d, h => by
    cases d <;> first | rfl | (cases h; done) | skip
    rename_i xs
    simp only [keyN, flatN, List.all_eq_true] at h ⊢
    exact fun x hx => keyN_flat n x (h x hx)
theorem flat_KT {d : Al.D} (h : isKT d = true) : flat d = true := by
  cases d <;> first | (cases h; done) | skip
  rename_i xs
  simp only [isKT, List.all_eq_true] at h
  simp only [flat, flatN, List.all_eq_true]
  exact fun x hx => keyN_flat 3 x (h x hx)
/-- an item's store: into a list, into a dict -/
def tSet1 (f : Fx) : TSet := fun o i v H Q => rSetL o i v H Q ∨ (∃ a H4, o = .ref a ∧ DPut H a i v H4 ∧ Q H4) ∨
  ∃ (p : Addr) (L : List (NestedKey × Addr × V)) (es : List (Al.D × Al.D)) (b : Addr) (a : Al.D), o = .ref p ∧ i = .ref b ∧ H p = some (dtO f.w p L) ∧ L.map (·.1) = es.map (fun p => nkey p.1) ∧ (es.all fun p => isKT p.1) = true ∧ f.R H (L.map (fun p => V.ref p.2.1)) (es.map (·.1)) [] ∧ (L.map (·.1)).Nodup ∧ L.length ≤ LINE ∧ isKT a = true ∧ f.R H [.ref b] [a] [] ∧
    Q (upd H p (dtO f.w p (putDT L (nkey a) b v)))
theorem set1 (a : At wd T f k nm X) : PSet X (tSet1 f) := by
  intro pins s σ H o i v ov iv u Q I ro ri rv h
  have hu := a.hu
  rcases h with h | ⟨p, H4, rfl, g, q⟩ | ⟨p, L, es, b, d, rfl, rfl, e, m, t, r0, nd, hl, hk, rb, q⟩
  · exact set_list pins s σ H o i v ov iv u Q I ro ri rv h
  · obtain rfl : ov = Value.ref p := ro
    exact d_setItem (by omega) I g ri rv fun s4 I4 => ⟨H4, I4, q⟩
  · obtain rfl : ov = Value.ref p := ro
    obtain rfl : iv = Value.ref b := ri
    exact dt_set a.K a.w (by show X.A.units + 1 + 8 < cLine; omega) I e m t r0 nd (by rw [← LINE_eq]; exact hl) (R.isKey a.K I rb hk) rv fun s4 I4 => ⟨_, I4, q⟩
theorem swaps_sole {e : Expr} (h : isComp e = false) (t : Expr) (l : Nat) (env : PySem.Env) : swapsWithSole [t] e l env = pure false := by
  cases e <;> first | rfl | cases h
/-- the item's store, of the language -/
theorem r_setIx {o i e : E} (hv : Lv o) (hoe : o.eff = false) (hi : i.eff = false) {D : Ends} (h : tS f Z (.setIx o i e) D σ H) : tAsg (tE f Z e) (gSub (tLn f Z o) (tE f Z i) (tSet1 f)) D σ H := by
  obtain ⟨ρ, O, S, fl, rel, e1, fin⟩ := h
  simp only [denS, hoe, hi, Bool.or_self, Bool.false_eq_true, if_false] at e1
  unfold bndS at e1
  split at e1
  · next d kk ρ1 e2 =>
    dsimp only at e1
    split at e1
    · cases e1
    · next hk =>
      have hk : flat d = true ∨ kk = .fr := by
        cases hf : flat d with
        | true => exact .inl rfl
        | false => rw [hf] at hk; simpa using hk
      refine ⟨ρ, O, S, d, kk, ρ1, rel, e2, fun y H1 O1 S1 F rel1 s1 t1 w1 => ?_⟩
      split at e1
      · next r xs put hl =>
        split at e1
        · next n _ _ e3 =>
          simp only [Option.map_eq_some_iff] at e1
          obtain ⟨j, hj, rfl⟩ := e1
          refine tLn_at rel1 hl fun v H2 S2 A F2 B dr rel2 s2 x2 hlk l => ?_
          have t2 : Tm f (New H O) H2 O1 S2 y d kk F := t1.over rel1 s2 x2 fun _ z => z
          refine ⟨ρ1, O1, S2, .int n, _, _, rel2, e3, fun w H3 O3 S3 F3 rel3 s3 t3 w3 => ?_⟩
          obtain ⟨x3, rfl, rfl⟩ := w3 hi
          obtain ⟨rfl, _⟩ := R.int t3.r
          have t4 : Tm f (New H O) H3 O3 S3 y d kk F := t2.over rel2 s3 x3 fun _ z => z
          have l3 := l.ext x3
          obtain ⟨p, vs, E, rfl, ea, la, r1, rfl⟩ := l3.rr.lst'
          have hlen := r1.length
          have hjx : j < xs.length := by
            have := hj
            unfold ixI at this
            split at this <;> split at this <;> first | (cases this; omega) | cases this
          obtain ⟨A2, F0, B2, rfl, hset⟩ := r1.setVal (List.getElem?_eq_getElem hjx)
          have s4 := (s1.trans s2).trans s3
          have hnp : p ∉ A2 ++ (F ++ B2) := fun z => by
            obtain ⟨_, _, nd⟩ := nodup_mid l3.nd
            obtain ⟨n1, _⟩ := List.nodup_cons.mp nd
            simp only [List.mem_append] at z n1
            rcases z with z | z | z
            · exact n1 (.inl z)
            · exact ((t4.frOk hk).2 p z).2.2.2.2 r (by rw [l3.own]; simp)
            · exact n1 (.inr (.inr z))
          refine .inl ⟨p, vs, n, j, rfl, rfl, ea, by rw [hlen, ← ixI_eq]; exact hj, ?_⟩
          obtain ⟨rel5, s5⟩ := rel3.lensI s4 l3 hlk (x := .lst (vs.set j y)) trivial (t4.frOk hk) (d' := .lst (xs.set j d)) (by
            have := R.lst (w := f.w) (K := f.K) (cad := f.cad) (vs := []) (ds := []) (F := []) (H := upd H3 p (.lst (vs.set j y))) (a := p) upd_same (by simpa using la) (R.updM (hset y d F t4.r) hnp ea trivial) .nil
            simpa using this)
          exact fin σ _ _ S3 rel5 s5 fun z => nomatch z
        · cases e1
      · next r tt kvs put hl =>
        split at e1
        · next x _ _ e3 =>
          split at e1
          · next hc =>
            simp only [Bool.and_eq_true, decide_eq_true_eq] at hc
            obtain ⟨hkey, hsz⟩ := hc
            cases e1
            refine tLn_at rel1 hl fun v H2 S2 A F2 B dr rel2 s2 x2 hlk l => ?_
            have t2 : Tm f (New H O) H2 O1 S2 y d kk F := t1.over rel1 s2 x2 fun _ z => z
            refine ⟨ρ1, O1, S2, x, _, _, rel2, e3, fun w H3 O3 S3 F3 rel3 s3 t3 w3 => ?_⟩
            obtain ⟨x3, rfl, rfl⟩ := w3 hi
            have t4 : Tm f (New H O) H3 O3 S3 y d kk F := t2.over rel2 s3 x3 fun _ z => z
            have l3 := l.ext x3
            have s4 := (s1.trans s2).trans s3
            have hnot : ∀ {p : Addr} {A2 F0 B2 : List Addr}, F2 = p :: (A2 ++ (F0 ++ B2)) → p ∉ A2 ++ (F ++ B2) := fun {p A2 F0 B2} hF z => by
              subst hF
              obtain ⟨_, _, nd⟩ := nodup_mid l3.nd
              obtain ⟨n1, _⟩ := List.nodup_cons.mp nd
              simp only [List.mem_append] at z n1
              rcases z with z | z | z
              · exact n1 (.inl z)
              · exact ((t4.frOk hk).2 p z).2.2.2.2 r (by rw [l3.own]; simp)
              · exact n1 (.inr (.inr z))
            cases tt with
            | false =>
              have hkey : isKS x = true := by simpa [keyOk] using hkey
              obtain ⟨k0, rfl, rfl, hF3, hk0⟩ := key_of_KS t3.r hkey
              obtain ⟨p, vs, E, rfl, ea, la, m, ⟨nd, tlen⟩, r1, rfl⟩ := l3.rr.dk'
              have ea : H3 p = some (.dK vs) := by
                rcases ea with ea | ⟨o, ea⟩
                · exact ea
                · have := l3.mu p (by simp)
                  rw [ea] at this
                  exact this.elim
              obtain ⟨A2, F0, B2, rfl, hset⟩ := dk_put m nd r1 k0
              obtain ⟨m', nd', r'⟩ := hset y d F t4.r
              have hnp := hnot rfl
              have hlv : vs.length = kvs.length := by have := congrArg List.length m; simpa using this
              refine .inr (.inl ⟨p, _, rfl, DPut.k ea (by rw [← LINE_eq]; omega), ?_⟩)
              obtain ⟨rel5, s5⟩ := rel3.lensI s4 l3 hlk (x := .dK (L2.putK vs k0 y)) trivial (t4.frOk hk) (d' := .dic false (Al.putK kvs (keyD k0) d)) (by
                have hlen := length_putK vs k0 y
                have := R.dk (w := f.w) (K := f.K) (cad := f.cad) (vs := []) (ds := []) (F := []) (H := upd H3 p (.dK (L2.putK vs k0 y))) (a := p) (.inl upd_same) (by omega) m' ⟨nd', fun q hq z hz => ?_⟩ (R.updM r' hnp ea trivial) .nil
                · simpa using this
                · unfold L2.putK at hq
                  split at hq
                  · obtain ⟨q0, h0, rfl⟩ := List.mem_map.mp hq
                    split at hz
                    · exact tlen q0 h0 z hz
                    · exact tlen q0 h0 z hz
                  · rcases List.mem_append.mp hq with hq | hq
                    · exact tlen q hq z hz
                    · rw [List.mem_singleton.mp hq] at hz
                      exact hk0 z hz)
              exact fin σ _ _ S3 rel5 s5 fun z => nomatch z
            | true =>
              have hkey : isKT x = true := by simpa [keyOk] using hkey
              obtain ⟨b, rfl⟩ := key_of_KT t3.r hkey
              have rb : f.R H3 [.ref b] [x] [] := by
                have := t3.r
                rw [R.flat this (flat_KT hkey)] at this
                exact this
              obtain ⟨p, L, E, rfl, ea, la, m, nd, t, r0, r1, rfl⟩ := l3.rr.dt'
              have ea : H3 p = some (dtO f.w p L) := by
                rcases ea with ea | ⟨o, ea⟩
                · exact ea
                · have := l3.mu p (by simp)
                  rw [ea] at this
                  exact this.elim
              obtain ⟨A2, F0, B2, rfl, hset⟩ := dt_put m nd t r0 r1 hkey rb
              obtain ⟨m', nd', t', r0', r'⟩ := hset y d F t4.r
              have hnp := hnot rfl
              have hlv : L.length = kvs.length := by have := congrArg List.length m; simpa using this
              refine .inr (.inr ⟨p, L, kvs, b, x, rfl, rfl, ea, m, t, r0, nd, la, hkey, rb, ?_⟩)
              have hlen : (putDT L (nkey x) b y).length ≤ LINE := by
                unfold putDT
                split
                · rw [List.length_map]; exact la
                · rw [List.length_append]; simp; omega
              obtain ⟨rel5, s5⟩ := rel3.lensI s4 l3 hlk (x := dtO f.w p (putDT L (nkey x) b y)) trivial (t4.frOk hk) (d' := .dic true (Al.putK kvs x d)) (by
                have := R.dt (w := f.w) (K := f.K) (cad := f.cad) (vs := []) (ds := []) (F := []) (H := upd H3 p (dtO f.w p (putDT L (nkey x) b y))) (a := p) (.inl upd_same) hlen m' nd' t' (R.updM r0' (fun z => nomatch z) ea trivial) (R.updM r' hnp ea trivial) .nil
                simpa using this)
              exact fin σ _ _ S3 rel5 s5 fun z => nomatch z
          · cases e1
        · cases e1
      · cases e1
  · cases e1
    exact fin.elim
  · cases e1
end
end Al
/-! A6d: lists by their methods, attributes set; the statements. -/
namespace Al
open PySem L2

section
variable {wd : Wd} {T : Tab} {f : Fx} {k : Nat} {nm : Nms} {X : Cx} {Z : Far} {σ : St} {H H1 : Hp} {ρ : Env} {O O1 : Nat → List Addr} {S S1 : Addr → Prop} {N : Addr → Prop}
theorem lv_eff {o : E} (h : Lv o) : o.eff = false := by
  induction h with
  | var i => rfl
  | attr _ ih => simp only [E.eff]; exact ih
  | idx _ he ih => simp only [E.eff, Es.eff, ih, he, Bool.or_self]
theorem flat_or {d : Al.D} {kk : Kd} (hk : ¬ (!flat d && !kk == Kd.fr) = true) : flat d = true ∨ kk = .fr := by
  cases hf : flat d with
  | true => exact .inl rfl
  | false => rw [hf] at hk; simpa using hk
/-- a list that is a part: its items anew -/
theorem lens_lst {O0 : Nat → List Addr} {H0 : Hp} {S0 : Addr → Prop} (s : Stp H0 O0 S0 H O S) (rel : Rel f σ H ρ O S) {r : Nat} {v : V} {es es' : List Al.D} {dr : Al.D} {put : Al.D → Al.D} {A F B : List Addr} (l : LensAt f σ H O r v (.lst es) put A F B) (hl : look ρ r = some (dr, .fr)) :
    ∃ a vs, v = .ref a ∧ H a = some (.lst vs) ∧ vs.length = es.length ∧ vs.length ≤ LINE ∧ ∀ (i j : Nat) (ws : List V) (ds : List Al.D) (G : List Addr), i ≤ j → j ≤ es.length → f.R H ws ds G → FrOk f H O S (New H0 O0) G → i + ws.length + (es.length - j) ≤ LINE →
      ∃ O', Rel f σ (upd H a (.lst (vs.take i ++ (ws ++ vs.drop j)))) (killBo (ρ.set r (some (put (.lst (es.take i ++ (ds ++ es.drop j))), .fr)))) O' S ∧ Stp H0 O0 S0 (upd H a (.lst (vs.take i ++ (ws ++ vs.drop j)))) O' S := by
  obtain ⟨a, vs, E, rfl, ea, la, r1, rfl⟩ := l.rr.lst'
  have hlen := r1.length
  refine ⟨a, vs, rfl, ea, hlen, la, fun i j ws ds G hij hj rw' hG hsz => ?_⟩
  obtain ⟨A2, E2, rfl, q1, q2⟩ := r1.take i
  obtain ⟨F0, B2, rfl, q3, q4⟩ := q2.take (j - i)
  rw [List.drop_drop, List.drop_drop, show i + (j - i) = j by omega] at q4
  have hnp : a ∉ A2 ++ (G ++ B2) := fun z => by
    obtain ⟨_, _, nd⟩ := nodup_mid l.nd
    obtain ⟨n1, _⟩ := List.nodup_cons.mp nd
    simp only [List.mem_append] at z n1
    rcases z with z | z | z
    · exact n1 (.inl z)
    · exact (hG.2 a z).2.2.2.2 r (by rw [l.own]; simp)
    · exact n1 (.inr (.inr z))
  have hlw := rw'.length
  obtain ⟨rel5, s5⟩ := rel.lensI s l hl (x := .lst (vs.take i ++ (ws ++ vs.drop j))) trivial hG (d' := .lst (es.take i ++ (ds ++ es.drop j))) (by
    have := R.lst (w := f.w) (K := f.K) (cad := f.cad) (vs := []) (ds := []) (F := []) (H := upd H a (.lst (vs.take i ++ (ws ++ vs.drop j)))) (a := a) upd_same (by simp; omega) (R.updM (q1.app (rw'.app q4)) hnp ea trivial) .nil
    simpa using this)
  exact ⟨_, rel5, s5⟩
/-- append to a part -/
theorem r_appL {o e : E} (hv : Lv o) (he : e.eff = false) {D : Ends} (h : tS f Z (.app o e) D σ H) : tDrop (tBM f.K "list" rAppend (tLn f Z o) (tCons (tE f Z e) tNil)) D σ H := by
  obtain ⟨ρ, O, S, fl, rel, e1, fin⟩ := h
  simp only [denS, lv_eff hv, he, Bool.false_and, Bool.false_or] at e1
  split at e1
  · cases e1
  · next hc =>
    have hlens : isLens (lensE Z o ρ) = true := by simpa using hc
    obtain ⟨r0, xs0, put0, hl0⟩ : ∃ r0 xs0 put0, lensE Z o ρ = some (r0, .lst xs0, put0) := by
      unfold isLens at hlens
      split at hlens
      · next e => exact ⟨_, _, _, e⟩
      · cases hlens
    refine tLn_at rel hl0 fun v H1 S1 A F B dr rel1 s1 x1 hlk l => ?_
    obtain ⟨a, vs, E, rfl, ea, la, r1, rfl⟩ := l.rr.lst'
    refine ⟨.inl ⟨rfl, vs, SqL.of ea⟩, ?_⟩
    unfold bndS at e1
    split at e1
    · next d kk ρ1 e2 =>
      refine ⟨ρ, O, S1, d, kk, ρ1, rel1, e2, fun y H2 O2 S2 F2 rel2 s2 t2 w2 => ?_⟩
      obtain ⟨x2, rfl, rfl⟩ := w2 he
      dsimp only at e1
      split at e1
      · cases e1
      · next hk =>
        rw [hl0] at e1
        dsimp only at e1
        split at e1
        · next hlen =>
          cases e1
          have t3 : Tm f (New H _) H2 _ S2 y d kk F2 := t2.weaken fun a z => s1.back z
          obtain ⟨a', vs', ev, ea', hlv, la', hset⟩ := lens_lst (es' := []) (s1.trans s2) rel2 (l.ext x2) hlk
          cases ev
          have := x2 _ _ ea
          rw [ea'] at this
          cases this
          obtain ⟨O', rel5, s5⟩ := hset xs0.length xs0.length [y] [d] F2 (Nat.le_refl _) (Nat.le_refl _) t3.r (t3.frOk (flat_or hk)) (by simp; omega)
          rw [← hlv] at rel5 s5
          refine ⟨a, vs, y, rfl, rfl, ea', by rw [← LINE_eq]; omega, ?_⟩
          rw [hlv] at rel5 s5
          simp only [List.take_of_length_le (show vs.length ≤ xs0.length by omega), List.take_length, List.drop_of_length_le (show vs.length ≤ xs0.length by omega), List.drop_length, List.append_nil] at rel5 s5
          exact fin σ _ _ S2 rel5 s5 fun z => nomatch z
        · cases e1
    · cases e1
      exact fin.elim
    · cases e1
/-- extend by a list of flat things -/
theorem r_ext {o e : E} (hv : Lv o) (he : e.eff = false) {D : Ends} (h : tS f Z (.ext o e) D σ H) : tDrop (tBM f.K "list" rExtend (tLn f Z o) (tCons (tE f Z e) tNil)) D σ H := by
  obtain ⟨ρ, O, S, fl, rel, e1, fin⟩ := h
  simp only [denS, lv_eff hv, he, Bool.false_or] at e1
  split at e1
  · cases e1
  · next hc =>
    have hlens : isLens (lensE Z o ρ) = true := by simpa using hc
    obtain ⟨r0, xs0, put0, hl0⟩ : ∃ r0 xs0 put0, lensE Z o ρ = some (r0, .lst xs0, put0) := by
      unfold isLens at hlens
      split at hlens
      · next e => exact ⟨_, _, _, e⟩
      · cases hlens
    refine tLn_at rel hl0 fun v H1 S1 A F B dr rel1 s1 x1 hlk l => ?_
    obtain ⟨a, vs, E, rfl, ea, la, r1, rfl⟩ := l.rr.lst'
    refine ⟨.inl ⟨rfl, vs, SqL.of ea⟩, ?_⟩
    unfold bndS at e1
    split at e1
    · next d kk ρ1 e2 =>
      refine ⟨ρ, O, S1, d, kk, ρ1, rel1, e2, fun y H2 O2 S2 F2 rel2 s2 t2 w2 => ?_⟩
      obtain ⟨x2, rfl, rfl⟩ := w2 he
      dsimp only at e1
      rw [hl0] at e1
      cases d <;> first | (cases e1; done) | skip
      rename_i ys
      dsimp only at e1
      split at e1
      · next hc =>
        simp only [Bool.and_eq_true, decide_eq_true_eq] at hc
        cases e1
        obtain ⟨b, zs, E2, rfl, eb, lb, r2, rfl⟩ := t2.r.lst'
        obtain ⟨a', vs', ev, ea', hlv, la', hset⟩ := lens_lst (es' := []) (s1.trans s2) rel2 (l.ext x2) hlk
        cases ev
        have := x2 _ _ ea
        rw [ea'] at this
        cases this
        have hz := r2.length
        obtain rfl := R.flats r2 hc.1
        obtain ⟨O', rel5, s5⟩ := hset xs0.length xs0.length zs ys [] (Nat.le_refl _) (Nat.le_refl _) r2 FrOk.nil (by omega)
        refine ⟨a, b, vs, zs, rfl, rfl, ea', eb, by rw [← LINE_eq]; omega, ?_⟩
        simp only [List.take_of_length_le (show vs.length ≤ xs0.length by omega), List.take_length, List.drop_of_length_le (show vs.length ≤ xs0.length by omega), List.drop_length, List.append_nil] at rel5 s5
        exact fin σ _ _ S2 rel5 s5 fun z => nomatch z
      · cases e1
    · cases e1
      exact fin.elim
    · cases e1
/-- clear -/
theorem r_clr {o : E} (hv : Lv o) {D : Ends} (h : tS f Z (.clr o) D σ H) : tDrop (tBM0 f.K "list" rClear (tLn f Z o)) D σ H := by
  obtain ⟨ρ, O, S, fl, rel, e1, fin⟩ := h
  simp only [denS, lv_eff hv, Bool.false_eq_true, if_false] at e1
  split at e1
  · next r xs put hl =>
    cases e1
    refine tLn_at rel hl fun v H1 S1 A F B dr rel1 s1 x1 hlk l => ?_
    obtain ⟨a, vs, rfl, ea, hlv, la, hset⟩ := lens_lst (es' := []) s1 rel1 l hlk
    obtain ⟨O', rel5, s5⟩ := hset 0 xs.length [] [] [] (Nat.zero_le _) (Nat.le_refl _) .nil FrOk.nil (by simp)
    refine ⟨.inl ⟨rfl, vs, SqL.of ea⟩, a, vs, rfl, rfl, ea, ?_⟩
    simp only [List.take_zero, List.nil_append, List.drop_length, List.drop_of_length_le (show vs.length ≤ xs.length by omega)] at rel5 s5
    exact fin σ _ _ S1 rel5 s5 fun z => nomatch z
  · cases e1
/-- an attribute set -/
theorem r_setFld {g : Nat} {o e : E} (hv : Lv o) (h7 : g ≤ 7) (hcl : ∀ c, Cls f.K (f.cad c)) (hna : ∀ c, NoAttr f.K (f.cad c) (fname g)) {D : Ends} (h : tS f Z (.setFld g o e) D σ H) : sFld f.K (tLn f Z o) (tE f Z e) (fname g) D σ H := by
  obtain ⟨ρ, O, S, fl, rel, e1, fin⟩ := h
  simp only [denS, lv_eff hv, Bool.false_eq_true, if_false] at e1
  unfold bndS at e1
  split at e1
  · next d kk ρ1 e2 =>
    dsimp only at e1
    split at e1
    · cases e1
    · next hk =>
      refine ⟨ρ, O, S, d, kk, ρ1, rel, e2, fun y H1 O1 S1 F rel1 s1 t1 w1 => ?_⟩
      split at e1
      · next r c fs put hl =>
        split at e1
        · next hsz =>
          cases e1
          refine tLn_at rel1 hl fun v H2 S2 A F2 B dr rel2 s2 x2 hlk l => ?_
          have t2 : Tm f (New H O) H2 O1 S2 y d kk F := t1.over rel1 s2 x2 fun _ z => z
          have hF := t2.frOk (flat_or hk)
          obtain ⟨a, dx, vs, E, rfl, ea, hn, hall, r1, rfl⟩ := l.rr.obj'
          have hlen : vs.length = fs.length := by have := congrArg List.length hn; simpa using this
          refine ⟨a, f.cad c, dx, vs, rfl, ea, hcl c, hna c, by omega, ?_⟩
          -- the attribute's place, or a new one
          obtain ⟨A2, F0, B2, rfl, hset⟩ : ∃ A2 F0 B2, E = A2 ++ (F0 ++ B2) ∧ ((L2.putF (fname g) y vs).map (·.1) = (Al.putF g d fs).map (fun p => fname p.1) ∧ ((Al.putF g d fs).all fun p => decide (p.1 ≤ 7)) = true ∧ f.R H2 ((L2.putF (fname g) y vs).map (·.2)) ((Al.putF g d fs).map (·.2)) (A2 ++ (F ++ B2))) := by
            clear hsz ea l hlk hl fin
            induction fs generalizing vs E with
            | nil =>
              cases vs with
              | cons _ _ => simp at hn
              | nil =>
                obtain ⟨_, rfl⟩ := r1.nil_of
                exact ⟨[], [], [], rfl, rfl, by simp [Al.putF, h7], by simpa [Al.putF, L2.putF] using t2.r⟩
            | cons p fs ih =>
              cases vs with
              | nil => simp at hn
              | cons q vs =>
                simp only [List.map_cons, List.cons.injEq] at hn
                simp only [List.all_cons, Bool.and_eq_true, decide_eq_true_eq] at hall
                obtain ⟨F1, F3, rfl, q1, q2⟩ := R.split (v := q.2) (d := p.2) r1
                obtain ⟨p1, p2⟩ := p
                obtain ⟨n1, n2⟩ := q
                simp only at hn q1
                by_cases hg : p1 = g
                · subst hg
                  refine ⟨[], F1, F3, rfl, ?_, ?_, ?_⟩
                  · simp [Al.putF, L2.putF, hn.1, hn.2]
                  · simp only [Al.putF, if_true, List.all_cons, Bool.and_eq_true, decide_eq_true_eq]; exact hall
                  · have := t2.r.cons q2
                    simpa [Al.putF, L2.putF, hn.1] using this
                · have hne : ¬ n1 = fname g := fun z => hg (fname_inj hall.1 h7 (hn.1.symm.trans z))
                  obtain ⟨A2, F0, B2, rfl, g1, g2, g3⟩ := ih vs F3 hn.2 hall.2 q2 (by simpa using hlen)
                  refine ⟨F1 ++ A2, F0, B2, by simp [List.append_assoc], ?_, ?_, ?_⟩
                  · have hne2 : ¬ fname p1 = fname g := fun z => hg (fname_inj hall.1 h7 z)
                    simp [Al.putF, L2.putF, hg, hne2, hn.1, g1]
                  · simp only [Al.putF, hg, if_false, List.all_cons, Bool.and_eq_true, decide_eq_true_eq]; exact ⟨hall.1, g2⟩
                  · have := q1.cons g3
                    simpa [Al.putF, L2.putF, hg, hne, List.append_assoc] using this
          obtain ⟨m', h7', r'⟩ := hset
          have hnp : a ∉ A2 ++ (F ++ B2) := fun z => by
            obtain ⟨_, _, nd⟩ := nodup_mid l.nd
            obtain ⟨n1, _⟩ := List.nodup_cons.mp nd
            simp only [List.mem_append] at z n1
            rcases z with z | z | z
            · exact n1 (.inl z)
            · exact (hF.2 a z).2.2.2.2 r (by rw [l.own]; simp)
            · exact n1 (.inr (.inr z))
          obtain ⟨rel5, s5⟩ := rel2.lensI (s1.trans s2) l hlk (x := .ins (f.cad c) dx (L2.putF (fname g) y vs)) trivial hF (d' := .obj c (Al.putF g d fs)) (by
            have := R.obj (w := f.w) (K := f.K) (cad := f.cad) (vs := []) (ds := []) (F := []) (H := upd H2 a (.ins (f.cad c) dx (L2.putF (fname g) y vs))) (a := a) upd_same m' h7' (R.updM r' hnp ea trivial) .nil
            simpa using this)
          exact fin σ _ _ S2 rel5 s5 fun z => nomatch z
        · cases e1
      · cases e1
  · cases e1
    exact fin.elim
  · cases e1
/-! ### the statements -/
theorem s_setIx {o i e : E} : OkS wd k (.setIx o i e) := fun T f nm X st a hf h hP => by
  cases st with
  | Assign tgs v pos =>
    cases tgs with
    | nil => exact no_tt h
    | cons t r =>
      cases r with
      | cons _ _ => cases t <;> exact no_tt h
      | nil =>
        cases t with
        | Subscript x y p2 =>
          have h : (lvOk o && (plainIx y && (!i.eff && (!isComp v && (chkE T nm o x && (chkE T nm i y && chkE T nm e v)))))) = true := h
          simp only [Bool.and_eq_true, Bool.not_eq_true'] at h
          obtain ⟨h1, h2, h3, h4, h5, h6, h7⟩ := h
          have hv := lv_of h1
          refine PS.mono (ps_asg (okE wd k e T f nm X v a h7 hP.2.2).pe (pg_sub (pLn a hv h5 hP.1) (okE wd k i T f nm X y a h6 hP.2.1).pe (set1 a) ?_) (swaps_sole h4 _ _ _) ?_ rfl) fun D σ H => r_setIx hv (lv_eff hv) h3
          · intro u
            cases y <;> first | rfl | cases h2
          · cases v <;> first | rfl | cases h4
        | _ => exact no_tt h
  | _ => exact no_tt h
theorem s_setFld {g : Nat} {o e : E} : OkS wd k (.setFld g o e) := fun T f nm X st a hf h hP => by
  cases st with
  | Assign tgs v pos =>
    cases tgs with
    | nil => exact no_tt h
    | cons t r =>
      cases r with
      | cons _ _ => cases t <;> exact no_tt h
      | nil =>
        cases t with
        | Attribute x m p2 =>
          have h : (lvOk o && (decide (m = fname g) && (decide (g ≤ 7) && (!T.cls.isEmpty && (!isComp v && (baseOk x && (chkE T nm o x && chkE T nm e v))))))) = true := h
          simp only [Bool.and_eq_true, Bool.not_eq_true', decide_eq_true_eq] at h
          obtain ⟨h1, rfl, h7, hc, h4, h5, h6, h8⟩ := h
          have hv := lv_of h1
          obtain ⟨hcl, hna⟩ := a.cls hc
          rw [a.K] at hcl
          have hna : ∀ c, NoAttr f.K (f.cad c) (fname g) := fun c => by rw [← a.K]; exact hna c g h7
          have ps := ps_fld (f := fname g) (pos := pos) (pos' := p2) (pLn a hv h6 hP.1) (okE wd k e T f nm X v a h8 hP.2).pe (swaps_no h4 _ _ _)
          rw [a.K] at ps
          exact PS.mono ps fun D σ H => r_setFld hv h7 hcl hna
        | _ => exact no_tt h
  | _ => exact no_tt h
theorem s_app {o e : E} : OkS wd k (.app o e) := fun T f nm X st a hf h hP => by
  cases st with
  | Expr x pos =>
    cases x with
    | Call fn as kws cpos =>
      cases fn with
      | Attribute x m apos =>
        cases as with
        | nil => exact no_tt h
        | cons y r =>
          cases r with
          | cons _ _ => exact no_tt h
          | nil =>
            cases kws with
            | cons _ _ => exact no_tt h
            | nil =>
              have h : ((o.isVar || (lvOk o && !e.eff)) && decide (m = "append") && (noStar y && (baseOk x && (decide (apos.endLine = cpos.line) && (chkE T nm o x && chkE T nm e y))))) = true := h
              simp only [Bool.and_eq_true, decide_eq_true_eq, Bool.or_eq_true, Bool.not_eq_true'] at h
              obtain ⟨⟨hv, rfl⟩, h2, h3, h4, h5, h6⟩ := h
              have pe := (okE wd k e T f nm X y a h6 hP.2).pe
              rcases hv with hv | ⟨hv, he⟩
              · obtain ⟨i, rfl⟩ : ∃ i, o = .var i := by
                  cases o with
                  | var i => exact ⟨i, rfl⟩
                  | _ => cases hv
                have po := (okE wd k _ T f nm X x a h5 hP.1).var i rfl
                have pb := pe_bm F.plainAttrs_list F.slot_list_append F.type_list_append mt_append po (pa_cons pe pa_nil (star_one h2 _ _)) (baseB h3 _ _) (by rw [star_one h2]; rfl) (by rw [h4]; simp) (star_one h2 _ _) (star_all (es := []) rfl _ _) (cpos := cpos) (apos := apos)
                rw [a.K] at pb
                exact PS.mono (ps_expr pb rfl) fun D σ H => r_app
              · have hv := lv_of hv
                have po := pLn a hv h5 hP.1
                have pb := pe_bm F.plainAttrs_list F.slot_list_append F.type_list_append mt_append po (pa_cons pe pa_nil (star_one h2 _ _)) (baseB h3 _ _) (by rw [star_one h2]; rfl) (by rw [h4]; simp) (star_one h2 _ _) (star_all (es := []) rfl _ _) (cpos := cpos) (apos := apos)
                rw [a.K] at pb
                exact PS.mono (ps_expr pb rfl) fun D σ H => r_appL hv he
      | _ => exact no_tt h
    | _ => exact no_tt h
  | _ => exact no_tt h
theorem s_ext {o e : E} : OkS wd k (.ext o e) := fun T f nm X st a hf h hP => by
  cases st with
  | Expr x pos =>
    cases x with
    | Call fn as kws cpos =>
      cases fn with
      | Attribute x m apos =>
        cases as with
        | nil => exact no_tt h
        | cons y r =>
          cases r with
          | cons _ _ => exact no_tt h
          | nil =>
            cases kws with
            | cons _ _ => exact no_tt h
            | nil =>
              have h : (lvOk o && (!e.eff && (decide (m = "extend") && (noStar y && (baseOk x && (decide (apos.endLine = cpos.line) && (chkE T nm o x && chkE T nm e y))))))) = true := h
              simp only [Bool.and_eq_true, decide_eq_true_eq, Bool.not_eq_true'] at h
              obtain ⟨hv, he, rfl, h2, h3, h4, h5, h6⟩ := h
              have hv := lv_of hv
              have po := pLn a hv h5 hP.1
              have pe := (okE wd k e T f nm X y a h6 hP.2).pe
              have pb := pe_bm F.plainAttrs_list F.slot_list_extend F.type_list_extend mt_extend po (pa_cons pe pa_nil (star_one h2 _ _)) (baseB h3 _ _) (by rw [star_one h2]; rfl) (by rw [h4]; simp) (star_one h2 _ _) (star_all (es := []) rfl _ _) (cpos := cpos) (apos := apos)
              rw [a.K] at pb
              exact PS.mono (ps_expr pb rfl) fun D σ H => r_ext hv he
      | _ => exact no_tt h
    | _ => exact no_tt h
  | _ => exact no_tt h
theorem s_clr {o : E} : OkS wd k (.clr o) := fun T f nm X st a hf h hP => by
  cases st with
  | Expr x pos =>
    cases x with
    | Call fn as kws cpos =>
      cases fn with
      | Attribute x m apos =>
        cases as with
        | cons _ _ => exact no_tt h
        | nil =>
          cases kws with
          | cons _ _ => exact no_tt h
          | nil =>
            have h : (lvOk o && (decide (m = "clear") && (baseOk x && (decide (apos.endLine = cpos.line) && chkE T nm o x)))) = true := h
            simp only [Bool.and_eq_true, decide_eq_true_eq] at h
            obtain ⟨hv, rfl, h3, h4, h5⟩ := h
            have hv := lv_of hv
            have pb := pe_bm0 F.plainAttrs_list F.slot_list_clear F.type_list_clear mt_clear (pLn a hv h5 hP) (baseB h3 _ _) (by rw [h4]; simp) (cpos := cpos) (apos := apos)
            rw [a.K] at pb
            exact PS.mono (ps_expr pb rfl) fun D σ H => r_clr hv
      | _ => exact no_tt h
    | _ => exact no_tt h
  | _ => exact no_tt h
end
end Al
/-! A6g: d.setdefault(k, []).append(e). -/
namespace Al
open PySem L2
section
variable {X : Cx} {f : Fx} {H H1 : Hp} {σ : St} {ρ : Env} {O O1 : Nat → List Addr} {S S1 : Addr → Prop} {N : Addr → Prop}
theorem getK_at {es : List (Al.D × Al.D)} {x d : Al.D} (e : getK es x = some d) : ∃ (i : Nat) (q : Al.D × Al.D), es[i]? = some q ∧ keq q.1 x = true ∧ q.2 = d := by
  unfold getK at e
  rw [Option.map_eq_some_iff] at e
  obtain ⟨q, h, rfl⟩ := e
  have h1 := List.find?_some h
  obtain ⟨i, hi⟩ := List.getElem?_of_mem (List.mem_of_find?_eq_some h)
  exact ⟨i, q, hi, h1, rfl⟩
theorem find_at {α κ : Type} [DecidableEq κ] {key : α → κ} : ∀ {l : List α} {i : Nat} {p : α}, (l.map key).Nodup → l[i]? = some p → l.find? (fun q => decide (key q = key p)) = some p
  | [], i, p, _, e => by simp at e
  | x :: l, 0, p, nd, e => by cases e; simp
  | x :: l, i + 1, p, nd, e => by
    have e' : l[i]? = some p := by simpa using e
    rw [List.map_cons, List.nodup_cons] at nd
    have hx : key x ≠ key p := fun z => nd.1 (by rw [z]; exact List.mem_map.mpr ⟨p, List.mem_of_getElem? e', rfl⟩)
    rw [List.find?_cons]
    simp only [hx, decide_false]
    exact find_at nd.2 e'
/-- the value at a key that is there, and put anew -/
theorem dk_at {kvs : List (Key × V)} {es : List (Al.D × Al.D)} {E : List Addr} (m : kvs.map (fun p => keyD p.1) = es.map (·.1)) (nd : (kvs.map (·.1)).Nodup) (r : f.R H (kvs.map (·.2)) (es.map (·.2)) E) (k0 : Key) {d' : Al.D} (e : getK es (keyD k0) = some d') :
    ∃ w A F B, valV kvs k0 = some w ∧ E = A ++ (F ++ B) ∧ f.R H [w] [d'] F ∧ ∀ H' y F', f.R H' [w] [y] F' → (∀ b o, (b ∈ A ∨ b ∈ B ∨ ¬ Mut (some o)) → H b = some o → H' b = some o) →
      (Al.putK es (keyD k0) y).map (·.1) = es.map (·.1) ∧ f.R H' (kvs.map (·.2)) ((Al.putK es (keyD k0) y).map (·.2)) (A ++ (F' ++ B)) := by
  obtain ⟨i, q, e2, hq, rfl⟩ := getK_at e
  have hlen : kvs.length = es.length := by have := congrArg List.length m; simpa using this
  have hk : ∀ (j : Nat) p q, kvs[j]? = some p → es[j]? = some q → keq q.1 (keyD k0) = decide (p.1 = k0) := fun j p q e1 e2 => by
    have : (kvs[j]?).map (fun p => keyD p.1) = (es[j]?).map (·.1) := by rw [← List.getElem?_map, ← List.getElem?_map, m]
    rw [e1, e2] at this
    simp only [Option.map_some, Option.some.injEq] at this
    rw [← this, keq_keyD]
  have hi : i < kvs.length := by have := (List.getElem?_eq_some_iff.mp e2).1; omega
  obtain ⟨p, e1⟩ : ∃ p, kvs[i]? = some p := ⟨_, List.getElem?_eq_getElem hi⟩
  have hp : p.1 = k0 := by rw [hk i p q e1 e2] at hq; simpa using hq
  have hv : valV kvs k0 = some p.2 := by
    unfold valV
    have := find_at (key := (·.1)) nd e1
    rw [hp] at this
    rw [this]; rfl
  obtain ⟨v, A, F, B, e3, rfl, r1, hs⟩ := r.setAt (i := i) (d := q.2) (by rw [List.getElem?_map, e2]; rfl)
  have ev : v = p.2 := by rw [List.getElem?_map, e1] at e3; exact (Option.some.inj e3).symm
  subst ev
  refine ⟨p.2, A, F, B, hv, rfl, r1, fun H' y F' r' q' => ?_⟩
  have a2 : Al.putK es (keyD k0) y = es.set i (q.1, y) := es_put.2 i q y e2 hq fun j p' e3 h3 => by
    have hj : j < kvs.length := by have := (List.getElem?_eq_some_iff.mp e3).1; omega
    rw [hk j _ p' (List.getElem?_eq_getElem hj) e3] at h3
    have h3 : kvs[j].1 = k0 := by simpa using h3
    exact nodup_inj nd (x := k0) (by rw [List.getElem?_map, List.getElem?_eq_getElem hj]; simp [h3]) (by rw [List.getElem?_map, e1]; simp [hp])
  rw [a2]
  refine ⟨map_fst_set e2, ?_⟩
  have := hs H' y F' r' q'
  rw [← List.map_set (f := (·.2)) (a := (q.1, y))] at this
  exact this
theorem dt_at {L : List (NestedKey × Addr × V)} {es : List (Al.D × Al.D)} {E : List Addr} (m : L.map (·.1) = es.map (fun p => nkey p.1)) (nd : (L.map (·.1)).Nodup) (t : (es.all fun p => isKT p.1) = true) (r : f.R H (L.map (·.2.2)) (es.map (·.2)) E)
    {a : Al.D} (ha : isKT a = true) {d' : Al.D} (e : getK es a = some d') :
    ∃ p A F B, L.find? (fun p => decide (p.1 = nkey a)) = some p ∧ E = A ++ (F ++ B) ∧ f.R H [p.2.2] [d'] F ∧ ∀ H' y F', f.R H' [p.2.2] [y] F' → (∀ b o, (b ∈ A ∨ b ∈ B ∨ ¬ Mut (some o)) → H b = some o → H' b = some o) →
      (Al.putK es a y).map (·.1) = es.map (·.1) ∧ f.R H' (L.map (·.2.2)) ((Al.putK es a y).map (·.2)) (A ++ (F' ++ B)) := by
  obtain ⟨i, q, e2, hq, rfl⟩ := getK_at e
  have hlen : L.length = es.length := by have := congrArg List.length m; simpa using this
  have hk : ∀ (j : Nat) p q, L[j]? = some p → es[j]? = some q → keq q.1 a = decide (p.1 = nkey a) := fun j p q e1 e2 => by
    have : (L[j]?).map (·.1) = (es[j]?).map (fun p => nkey p.1) := by rw [← List.getElem?_map, ← List.getElem?_map, m]
    rw [e1, e2] at this
    simp only [Option.map_some, Option.some.injEq] at this
    rw [this, keq_KT (List.all_eq_true.mp t q (List.mem_of_getElem? e2)) ha]
  have hi : i < L.length := by have := (List.getElem?_eq_some_iff.mp e2).1; omega
  obtain ⟨p, e1⟩ : ∃ p, L[i]? = some p := ⟨_, List.getElem?_eq_getElem hi⟩
  have hp : p.1 = nkey a := by rw [hk i p q e1 e2] at hq; simpa using hq
  have hv : L.find? (fun p => decide (p.1 = nkey a)) = some p := by
    have := find_at (key := (·.1)) nd e1
    rw [hp] at this
    exact this
  obtain ⟨v, A, F, B, e3, rfl, r1, hs⟩ := r.setAt (i := i) (d := q.2) (by rw [List.getElem?_map, e2]; rfl)
  have ev : v = p.2.2 := by rw [List.getElem?_map, e1] at e3; exact (Option.some.inj e3).symm
  subst ev
  refine ⟨p, A, F, B, hv, rfl, r1, fun H' y F' r' q' => ?_⟩
  have a2 : Al.putK es a y = es.set i (q.1, y) := es_put.2 i q y e2 hq fun j p' e3 h3 => by
    have hj : j < L.length := by have := (List.getElem?_eq_some_iff.mp e3).1; omega
    rw [hk j _ p' (List.getElem?_eq_getElem hj) e3] at h3
    have h3 : L[j].1 = nkey a := by simpa using h3
    exact nodup_inj nd (x := nkey a) (by rw [List.getElem?_map, List.getElem?_eq_getElem hj]; simp [h3]) (by rw [List.getElem?_map, e1]; simp [hp])
  rw [a2]
  refine ⟨map_fst_set e2, ?_⟩
  have := hs H' y F' r' q'
  rw [← List.map_set (f := (·.2)) (a := (q.1, y))] at this
  exact this
/-- a value of a dict that is a part: its value at a key -/
theorem LensAt.dk {r : Nat} {v : V} {es : List (Al.D × Al.D)} {put : Al.D → Al.D} {A F B : List Addr} (l : LensAt f σ H O r v (.dic false es) put A F B) (k0 : Key) {x : Al.D} (e : getK es (keyD k0) = some x) :
    ∃ a kvs w A' F' B', v = .ref a ∧ H a = some (.dK kvs) ∧ valV kvs k0 = some w ∧ LensAt f σ H O r w x (fun y => put (.dic false (Al.putK es (keyD k0) y))) A' F' B' := by
  obtain ⟨a, vs, E, rfl, ea, la, m, ⟨nd, tlen⟩, r1, rfl⟩ := l.rr.dk'
  have ea : H a = some (.dK vs) := by
    rcases ea with ea | ⟨o, ea⟩
    · exact ea
    · have := l.mu a (by simp)
      rw [ea] at this
      exact this.elim
  obtain ⟨w, A2, F2, B2, e1, rfl, r2, q⟩ := dk_at m nd r1 k0 e
  obtain ⟨v0, e0, h⟩ := l.put
  have e3 : A ++ (a :: (A2 ++ (F2 ++ B2)) ++ B) = (A ++ a :: A2) ++ (F2 ++ (B2 ++ B)) := by simp [List.append_assoc]
  have nd' : ((A ++ a :: A2) ++ (F2 ++ (B2 ++ B))).Nodup := by rw [← e3]; exact l.nd
  obtain ⟨m1, m2, m3⟩ := nodup_mid nd'
  refine ⟨a, vs, w, A ++ a :: A2, F2, B2 ++ B, rfl, ea, e1, by rw [l.own, e3], nd', (by rw [← e3]; exact l.mu), r2, v0, e0, fun H' d' F' r' k => ?_⟩
  have ha : H' a = some (.dK vs) := k a _ (fun z => m1 a (by simp) z) ea
  have key := h H' (.dic false (Al.putK es (keyD k0) d')) (a :: (A2 ++ (F' ++ B2))) (by
    obtain ⟨q1, q2⟩ := q H' d' F' r' fun b o hb e => by
      refine k b o (fun z => ?_) e
      rcases hb with hb | hb | hb
      · exact m1 b (by simp [hb]) z
      · exact m2 b (by simp [hb]) z
      · refine hb ?_
        have := l.mu b (by rw [e3]; simp [z])
        rwa [e] at this
    have := R.dk (w := f.w) (K := f.K) (cad := f.cad) (vs := []) (ds := []) (F := []) (.inl ha) la (m.trans q1.symm) ⟨nd, tlen⟩ q2 .nil
    simpa using this) fun b o hb e => k b o (fun z => hb (by simp [z])) e
  simpa [List.append_assoc] using key
theorem LensAt.dt {r : Nat} {a : Addr} {L : List (NestedKey × Addr × V)} {es : List (Al.D × Al.D)} {put : Al.D → Al.D} {A E B : List Addr} (l : LensAt f σ H O r (.ref a) (.dic true es) put A (a :: E) B) (ea : H a = some (dtO f.w a L)) (la : L.length ≤ LINE) (m : L.map (·.1) = es.map (fun p => nkey p.1)) (nd : (L.map (·.1)).Nodup) (t : (es.all fun p => isKT p.1) = true)
    (r0 : f.R H (L.map (fun p => V.ref p.2.1)) (es.map (·.1)) []) (r1 : f.R H (L.map (·.2.2)) (es.map (·.2)) E) {a0 : Al.D} (h0 : isKT a0 = true) {x : Al.D} (e : getK es a0 = some x) :
    ∃ p A' F' B', L.find? (fun p => decide (p.1 = nkey a0)) = some p ∧ LensAt f σ H O r p.2.2 x (fun y => put (.dic true (Al.putK es a0 y))) A' F' B' := by
  obtain ⟨p, A2, F2, B2, e1, rfl, r2, q⟩ := dt_at m nd t r1 h0 e
  obtain ⟨v0, e0, h⟩ := l.put
  have e3 : A ++ (a :: (A2 ++ (F2 ++ B2)) ++ B) = (A ++ a :: A2) ++ (F2 ++ (B2 ++ B)) := by simp [List.append_assoc]
  have nd' : ((A ++ a :: A2) ++ (F2 ++ (B2 ++ B))).Nodup := by rw [← e3]; exact l.nd
  obtain ⟨m1, m2, m3⟩ := nodup_mid nd'
  refine ⟨p, A ++ a :: A2, F2, B2 ++ B, e1, by rw [l.own, e3], nd', (by rw [← e3]; exact l.mu), r2, v0, e0, fun H' d' F' r' k => ?_⟩
  have ha : H' a = some (dtO f.w a L) := k a _ (fun z => m1 a (by simp) z) ea
  have kq : ∀ b o, (b ∈ A2 ∨ b ∈ B2 ∨ ¬ Mut (some o)) → H b = some o → H' b = some o := fun b o hb e => by
    refine k b o (fun z => ?_) e
    rcases hb with hb | hb | hb
    · exact m1 b (by simp [hb]) z
    · exact m2 b (by simp [hb]) z
    · refine hb ?_
      have := l.mu b (by rw [e3]; simp [z])
      rwa [e] at this
  have key := h H' (.dic true (Al.putK es a0 d')) (a :: (A2 ++ (F' ++ B2))) (by
    obtain ⟨q1, q2⟩ := q H' d' F' r' kq
    have q3 : (Al.putK es a0 d').map (fun p => nkey p.1) = es.map (fun p => nkey p.1) := by
      have := congrArg (List.map nkey) q1
      rw [List.map_map, List.map_map] at this
      exact this
    have q4 : ((Al.putK es a0 d').all fun p => isKT p.1) = true := by
      have e4 : ∀ l : List (Al.D × Al.D), (l.all fun p => isKT p.1) = (l.map (·.1)).all isKT := fun l => by rw [List.all_map]; rfl
      rw [e4, q1, ← e4]; exact t
    have r0' : f.R H' (L.map (fun p => V.ref p.2.1)) ((Al.putK es a0 d').map (·.1)) [] := by
      rw [q1]
      exact R.keep r0 fun b o hb e => kq b o (.inr (.inr (hb.elim (fun z => nomatch z) id))) e
    have := R.dt (w := f.w) (K := f.K) (cad := f.cad) (vs := []) (ds := []) (F := []) (.inl ha) la (m.trans q3.symm) nd q4 r0' q2 .nil
    simpa using this) fun b o hb e => k b o (fun z => hb (by simp [z])) e
  simpa [List.append_assoc] using key
end
/-! ### setdefault -/
section
variable {X : Cx} {f : Fx} {H : Hp} {σ : St}
theorem dtp_find2 {L : List (NestedKey × Addr × V)} {xs : List (NestedKey × Addr × Value)} (h : DTP L xs) (k : NestedKey) :
    (L.find? (fun p => decide (p.1 = k)) = none ∧ atKey xs k = none) ∨ ∃ p q, L.find? (fun p => decide (p.1 = k)) = some p ∧ atKey xs k = some q ∧ RelV p.2.2 q.2 := by
  induction h with
  | nil => exact .inl ⟨rfl, rfl⟩
  | @cons p q L' xs' h t ih =>
    unfold atKey at ih ⊢
    rw [List.find?_cons, List.find?_cons, h.1]
    by_cases hk : q.1 = k
    · simp only [hk, decide_true]
      exact .inr ⟨_, _, rfl, rfl, h.2.2⟩
    · simp only [hk, decide_false]
      exact ih
theorem dt_setd (hK : X.K = f.K) (hw : X.w = f.w) {pins : List (Addr × Obj)} {s : Shared} {A : Around} {E : Value → Shared → Prop} (hu : (nestedKind X.prog X.w).room A.in1) (I : L2.Inv X pins σ H s) {p b : Addr} {L : List (NestedKey × Addr × V)} {es : List (Al.D × Al.D)} (e : H p = some (dtO f.w p L)) (m : L.map (·.1) = es.map (fun p => nkey p.1)) (t : (es.all fun p => isKT p.1) = true) (r0 : f.R H (L.map (fun p => V.ref p.2.1)) (es.map (·.1)) []) (nd : (L.map (·.1)).Nodup) (hl : L.length ≤ sizeLine)
    {k : NestedKey} (key : (nestedKind X.prog X.w).is s.heap k b) {v : V} {u : Value} (rv : RelV v u) {Q : Value → Shared → Prop} (h1 : ∀ q, L.find? (fun p => decide (p.1 = k)) = some q → ∀ w' s', L2.Inv X pins σ H s' → RelV q.2.2 w' → Q w' s')
    (h2 : L.find? (fun p => decide (p.1 = k)) = none → ∀ s', L2.Inv X pins σ (upd H p (dtO f.w p (putDT L k b v))) s' → Q u s') :
    wpAny (model X.prog X.w) A (call (.builtin "dict.setdefault") [.ref p, .ref b, u]) Q E s := by
  obtain ⟨hs, xs, hd, pr⟩ := dt_of hK hw I (.inl e) m t r0 nd
  have hx : xs.length ≤ sizeLine := by have := paired_len pr; omega
  refine call_setdefault_heap (hsz := hx) hu key hs hd (fun q hq => ?_) fun hn h' dd' hb => ?_
  · rcases dtp_find2 pr k with ⟨_, z⟩ | ⟨q1, q2, e1, e2, r⟩
    · rw [hq] at z; cases z
    · rw [hq] at e2; cases e2
      exact h1 q1 e1 _ _ (I.tok _) r
  · rcases dtp_find2 pr k with ⟨z, _⟩ | ⟨q1, q2, e1, e2, r⟩
    · refine h2 z _ ?_
      obtain ⟨o, ents, ep, ho, hex, hdat, hents, his, hnd⟩ := dd'
      refine d_write I (by rw [e]; exact True.intro) hb ⟨o, ho⟩ ⟨⟨hs, o, ents, ep, ho, hex, hdat, ?_⟩, ⟨o, ho⟩, ?_⟩
      · rw [hents, ← hw]
        exact paired_entries (dtp_put (k := k) (b := b) pr rv)
      · rintro h1 h2 ⟨z, o, ents, ep, ho, r⟩ q
        exact ⟨z, o, ents, ep, q o ho, r⟩
    · rw [hn] at e2; cases e2
/-- d.setdefault(y, z) -/
def tSd (f : Fx) (td ty tx : TE) : TE := fun σ H Q => td σ H fun x H1 => ∃ a, x = .ref a ∧ (IsD H1 a ∨ ∃ L, H1 a = some (dtO f.w a L)) ∧ ty σ H1 fun y H2 => tx σ H2 fun z H3 =>
  (∃ (kvs : List (Key × V)) (k : Key), H3 a = some (.dK kvs) ∧ y = kV k ∧ kvs.length < sizeLine ∧ (∀ v, valV kvs k = some v → Q v H3) ∧ (valV kvs k = none → Q z (upd H3 a (.dK (L2.putK kvs k z))))) ∨
  ∃ (L : List (NestedKey × Addr × V)) (es : List (Al.D × Al.D)) (b : Addr) (a0 : Al.D), y = .ref b ∧ H3 a = some (dtO f.w a L) ∧ L.map (·.1) = es.map (fun p => nkey p.1) ∧ (es.all fun p => isKT p.1) = true ∧ f.R H3 (L.map (fun p => V.ref p.2.1)) (es.map (·.1)) [] ∧ (L.map (·.1)).Nodup ∧ L.length ≤ sizeLine ∧ isKT a0 = true ∧ f.R H3 [.ref b] [a0] [] ∧
    (∀ p, L.find? (fun p => decide (p.1 = nkey a0)) = some p → Q p.2.2 H3) ∧ (L.find? (fun p => decide (p.1 = nkey a0)) = none → Q z (upd H3 a (dtO f.w a (putDT L (nkey a0) b z))))
theorem pe_sd (hK : X.K = f.K) (hw : X.w = f.w) (hu : X.A.units + 200 < cLine) {o e g : Expr} {td ty tx : TE} {apos cpos : Pos} (ho : PE X o td) (he : PE X e ty) (hf : PE X g tx) (m : M2 X o "setdefault" apos e g cpos) : PE X (.Call (.Attribute o "setdefault" apos) [e, g] [] cpos) (tSd f td ty tx) := by
  refine ⟨fun pins s σ H Q I h => ?_⟩
  refine wpAny_Call_method m.base m.few m.line PySem.F.plainAttrs_dict PySem.F.slot_dict_setdefault PySem.F.type_dict_setdefault (thn (ho.run pins s σ H _ I h) fun u s1 ⟨x, H1, I1, rx, a, ex, d, q1⟩ => ?_)
  subst ex
  obtain rfl : u = Value.ref a := rx
  have tt : s1.TypeIs (.ref a) "dict" ∧ (∀ b, Value.ref a = .ref b → ∃ ob, s1.heap.get? b = some ob ∧ ob.dict = none) := by
    rcases d with d | ⟨L, d⟩
    · obtain ⟨t1, t2, _⟩ := isD_at I1 d
      exact ⟨t1, t2⟩
    · obtain ⟨h1, o, ents, ep, ho, hx, hd, pr⟩ : (a == sysModules) = false ∧ ∃ o es ep, s1.heap.get? a = some o ∧ o.ExactDict ∧ o.data = .dict es ep ∧ Paired (fun (p : NestedKey × Addr × V) (e : DictEntry) => e.key = .ref p.2.1 ∧ e.hash = p.1.hash f.w ∧ RelV p.2.2 e.val) L es.toList := (I1.hok a _ d).1
      exact ⟨⟨o, ho, hx.1⟩, fun b q => by cases q; exact ⟨o, ho, hx.2.1⟩⟩
  refine ⟨tt.1, tt.2, ?_⟩
  rw [m.trees]
  refine Calls.callWith_builtin rfl (Calls.evalArgs_plain (Calls.spliced_cons (thn (he.run pins s1 σ H1 _ I1 q1) fun iv s2 ⟨y, H2, I2, ry, q2⟩ =>
    Calls.spliced_cons (thn (hf.run pins s2 σ H2 _ I2 q2) fun fv s3 ⟨z, H3, I3, rz, q3⟩ => Calls.spliced_nil ?_))))
  rcases q3 with ⟨kvs, k, ea, ey, hl, q3, q4⟩ | ⟨L, es, b, a0, ey, ea, m1, t, r0, nd, hl, hk, rb, q3, q4⟩
  · subst ey
    exact d_setd I3 ea ry rz hl (fun v hv w' s4 I4 rw' => ⟨v, _, I4, rw', q3 v hv⟩) fun hn w' s4 I4 rw' => ⟨z, _, I4, rw', q4 hn⟩
  · subst ey
    obtain rfl : iv = Value.ref b := ry
    exact dt_setd hK hw (by show X.A.units + 1 + 8 < cLine; omega) I3 ea m1 t r0 nd hl (R.isKey hK I3 rb hk) rz (fun v hv w' s4 I4 rw' => ⟨_, _, I4, rw', q3 v hv⟩) fun hn s4 I4 => ⟨z, _, I4, rz, q4 hn⟩
end
section
variable {wd : Wd} {T : Tab} {f : Fx} {k : Nat} {nm : Nms} {X : Cx} {Z : Far} {σ : St} {H H1 : Hp} {ρ : Env} {O O1 : Nat → List Addr} {S S1 : Addr → Prop} {N : Addr → Prop}
theorem set_look {ρ : Env} {r : Nat} {p : Al.D × Kd} (h : look ρ r = some p) : ρ.set r (some p) = ρ := by
  have := look_some h
  apply List.ext_getElem?
  intro j
  rw [List.getElem?_set]
  by_cases hj : r = j
  · subst hj; rw [if_pos rfl, if_pos (List.getElem?_eq_some_iff.mp this).1, this]
  · rw [if_neg hj]
theorem getK_put {kvs : List (Al.D × Al.D)} {x d : Al.D} (hx : keq x x = true) (h : getK kvs x = none) : withK kvs x = kvs ++ [(x, .lst [])] ∧ Al.putK kvs x d = kvs ++ [(x, d)] ∧ getK (kvs ++ [(x, d)]) x = some d := by
  have hn : ∀ q ∈ kvs, keq q.1 x = false := by
    unfold getK at h
    rw [Option.map_eq_none_iff, List.find?_eq_none] at h
    exact fun q hq => by simpa using h q hq
  refine ⟨by unfold withK; rw [h]; rfl, es_put.1 d hn, ?_⟩
  unfold getK
  rw [List.find?_append, List.find?_eq_none.mpr (fun q hq => by simp [hn q hq])]
  simp [hx]
/-- the end of it: the list at the key has one thing more -/
theorem sd_end {r : Nat} {t : Bool} {K1 : List (Al.D × Al.D)} {x : Al.D} {ys : List Al.D} {e : E} {fl : Fl} {D : Ends} {H0 : Hp} {O0 : Nat → List Addr} {S0 : Addr → Prop} {w : V} {A F B : List Addr}
    (s : Stp H0 O0 S0 H O S) (rel : Rel f σ H ρ O S) (hlk : look ρ r = some (.dic t K1, .fr)) (l : LensAt f σ H O r w (.lst ys) (fun y => .dic t (Al.putK K1 x y)) A F B) (he : e.eff = false) (hg : getK K1 x = some (.lst ys))
    (e1 : (bndS (denE Z e ρ) fun d _ ρ2 => if flat d then sdPut r t K1 x d ρ2 else none) = some fl) (fin : tFl f true H0 O0 S0 D fl) :
    tyV f.K "list" w H ∧ tCons (tE f Z e) tNil σ H fun xs H2 => rAppend w xs H2 fun _ H3 => D.nx σ H3 := by
  obtain ⟨a, vs, E, rfl, ea, la, r1, rfl⟩ := l.rr.lst'
  refine ⟨.inl ⟨rfl, vs, SqL.of ea⟩, ?_⟩
  unfold bndS at e1
  split at e1
  · next d kk ρ1 e2 =>
    refine ⟨ρ, O, S, d, kk, ρ1, rel, e2, fun y H2 O2 S2 F2 rel2 s2 t2 w2 => ?_⟩
    obtain ⟨x2, rfl, rfl⟩ := w2 he
    dsimp only at e1
    split at e1
    · next hk =>
      unfold sdPut at e1
      rw [hg] at e1
      dsimp only at e1
      split at e1
      · next hlen =>
        cases e1
        have t3 : Tm f (New H0 O0) H2 _ S2 y d kk F2 := t2.weaken fun a z => s.back z
        obtain ⟨a', vs', ev, ea', hlv, la', hset⟩ := lens_lst (es' := []) (s.trans s2) rel2 (l.ext x2) hlk
        cases ev
        have := x2 _ _ ea
        rw [ea'] at this
        cases this
        obtain ⟨O', rel5, s5⟩ := hset ys.length ys.length [y] [d] F2 (Nat.le_refl _) (Nat.le_refl _) t3.r (t3.frOk (.inl hk)) (by simp; omega)
        rw [← hlv] at rel5 s5
        refine ⟨a, vs, y, rfl, rfl, ea', by rw [← LINE_eq]; omega, ?_⟩
        rw [hlv] at rel5 s5
        simp only [List.take_of_length_le (show vs.length ≤ ys.length by omega), List.take_length, List.drop_of_length_le (show vs.length ≤ ys.length by omega), List.drop_length, List.append_nil] at rel5 s5
        exact fin σ _ _ S2 rel5 s5 fun z => nomatch z
      · cases e1
    · cases e1
  · cases e1
    exact fin.elim
  · cases e1
theorem frOk_new {H0 : Hp} {O0 : Nat → List Addr} {p : Addr} {o : HO} (rel : Rel f σ H ρ O S) (hp : H p = none) (hp0 : H0 p = none) (mo : Mut (some o)) : FrOk f (upd H p o) O S (New H0 O0) [p] := by
  refine ⟨by simp, fun b hb => ?_⟩
  rw [List.mem_singleton.mp hb]
  refine ⟨by rw [upd_same]; exact mo, rel.fresh hp, fun z => ?_, .inr hp0, fun i z => ?_⟩
  · obtain ⟨o', e⟩ := (rel.stb p z).2
    rw [hp] at e; cases e
  · have := (rel.own i p z).2.1
    rw [hp] at this; exact this
theorem putO_same {O : Nat → List Addr} {r : Nat} : (fun j => if j = r then O r else O j) = O := by
  funext j
  by_cases h : j = r
  · rw [if_pos h, h]
  · rw [if_neg h]
theorem look_kill {r : Nat} {d : Al.D} (h : look ρ r = some (d, .fr)) : look (killBo ρ) r = some (d, .fr) := by
  have := look_some h
  unfold look killBo
  rw [List.getElem?_map, this]
  rfl
theorem rel_kill {r : Nat} {d : Al.D} (rel : Rel f σ H ρ O S) (h : look ρ r = some (d, .fr)) : Rel f σ H (killBo ρ) O S := by
  obtain ⟨v, F, e, rr, al, c1, c2⟩ := rel.slot r d .fr (look_some h)
  obtain rfl := c1 rfl
  have := rel.chg (H' := H) (F' := O r) (d' := d) h e rr (fun b o _ z => z) (rel.nod r) fun b hb => ⟨(rel.own r b hb).2.1, (rel.own r b hb).2.2.1, (rel.own r b hb).2.2.2, .inl hb⟩
  rw [putO_same, set_look h] at this
  exact this
theorem r_sdApp {r : Nat} {kx e : E} (hk : kx.eff = false) (he : e.eff = false) {D : Ends} (h : tS f Z (.sdApp (.var r) kx e) D σ H) :
    tDrop (tBM f.K "list" rAppend (tSd f (tVar r) (tE f Z kx) (tLst tNil)) (tCons (tE f Z e) tNil)) D σ H := by
  obtain ⟨ρ, O, S, fl, rel, e1, fin⟩ := h
  have fin : tFl f true H O S D fl := fin
  simp only [denS, hk, he, Bool.or_self, Bool.false_eq_true, if_false] at e1
  split at e1
  · next t kvs hlk =>
    have hl : lensE Z (.var r) ρ = some (r, .dic t kvs, fun y => y) := by simp only [lensE, hlk]
    cases ex : denE Z kx ρ with
    | none => rw [ex] at e1; cases e1
    | some o =>
      cases o with
      | ex c p ρ1 => rw [ex] at e1; cases e1; exact fin.elim
      | ok x kk ρ1 =>
        rw [ex] at e1
        dsimp only [bndS] at e1
        split at e1
        · next hc =>
          simp only [Bool.and_eq_true, decide_eq_true_eq] at hc
          obtain ⟨hkey, hsz⟩ := hc
          obtain ⟨v, hv, l⟩ := LensAt.var rel hlk
          have s1 : Stp H O S H O S := Stp.refl
          have x1 : Ext H H := Ext.refl H
          refine ⟨v, hv, ?_⟩
          -- what has come of the last thing is a list, or nothing comes of it
          have isl : ∀ (ρ2 : Env) (K1 : List (Al.D × Al.D)) (d0 : Al.D), getK K1 x = some d0 → (bndS (denE Z e ρ2) fun d _ ρ3 => if flat d then sdPut r t K1 x d ρ3 else none) = some fl → ∃ ys, d0 = .lst ys := by
            intro ρ2 K1 d0 hg h1
            unfold bndS at h1
            split at h1
            · dsimp only at h1
              split at h1
              · unfold sdPut at h1
                rw [hg] at h1
                split at h1
                · next ys e => cases e; exact ⟨ys, rfl⟩
                · cases h1
              · cases h1
            · cases h1; exact fin.elim
            · cases h1
          cases t with
          | false =>
            have hkey : isKS x = true := by simpa [keyOk] using hkey
            obtain ⟨a, vs, E, rfl, ea, la, m, ⟨nd, tlen⟩, r1, hO⟩ := l.rr.dk'
            rw [hO] at l
            have ea : H a = some (.dK vs) := by
              rcases ea with ea | ⟨o, ea⟩
              · exact ea
              · have := l.mu a (by simp)
                rw [ea] at this
                exact this.elim
            refine ⟨a, rfl, .inl (.inl ⟨vs, Rd.of ea⟩), ρ, O, S, x, kk, ρ1, rel, ex, fun y H2 O2 S2 Fk rel2 s2 t2 w2 => ?_⟩
            obtain ⟨x2, rfl, rfl⟩ := w2 hk
            refine ⟨Nat.zero_le _, fun p hp => ?_⟩
            have xp : Ext H2 (upd H2 p (.lst [])) := Ext.new hp
            obtain ⟨k0, rfl, rfl, hFk, hk0⟩ := key_of_KS t2.r hkey
            have l3 := (l.ext x2).ext xp
            have rel3 := rel2.ext xp
            have s3 := (s1.trans s2).ext xp
            have ea3 : upd H2 p (.lst []) a = some (.dK vs) := xp _ _ (x2 _ _ ea)
            have hp0 : H p = none := by
              cases q : H p with
              | none => rfl
              | some o => rw [x2 _ _ (x1 _ _ q)] at hp; cases hp
            have hlv : vs.length = kvs.length := by have := congrArg List.length m; simpa using this
            refine .inl ⟨vs, k0, ea3, rfl, by rw [← LINE_eq]; omega, fun w hw => ?_, fun hn => ?_⟩
            · cases hg : getK kvs (keyD k0) with
              | none =>
                rcases dk_get m r1 k0 with ⟨_, z⟩ | ⟨_, _, _, _, _, z, _⟩
                · rw [z] at hw; cases hw
                · rw [hg] at z; cases z
              | some d0 =>
                obtain ⟨a', vs', w', A', F', B', ev, ea', hv', l4⟩ := LensAt.dk l3 k0 hg
                cases ev
                rw [ea3] at ea'
                cases ea'
                rw [hw] at hv'
                cases hv'
                have hwk : withK kvs (keyD k0) = kvs := by unfold withK; rw [hg]; rfl
                rw [hwk, set_look hlk] at e1
                obtain ⟨ys, rfl⟩ := isl _ _ _ hg e1
                obtain ⟨v0, hv0, hput⟩ := l3.put
                have rel4 := rel_kill rel3 hlk
                have hlk2 := look_kill hlk
                exact sd_end s3 rel4 hlk2 l4 he hg e1 fin
            · have hg : getK kvs (keyD k0) = none := by
                rcases dk_get m r1 k0 with ⟨z, _⟩ | ⟨_, _, _, _, _, _, z, _⟩
                · exact z
                · rw [hn] at z; cases z
              obtain ⟨g1, g2, g3⟩ := getK_put (d := .lst []) (by rw [keq_keyD]; simp) hg
              obtain ⟨A2, F0, B2, rfl, hset⟩ := dk_put m nd (R.ext r1 (x2.trans xp)) k0
              have rp : f.R (upd H2 p (.lst [])) [.ref p] [.lst []] [p] := R.lst (vs := []) (ds := []) (E := []) (F := []) upd_same (Nat.zero_le _) .nil .nil
              obtain ⟨m', nd', r'⟩ := hset (.ref p) (.lst []) [p] rp
              have hnp : a ∉ A2 ++ ([p] ++ B2) := fun z => by
                obtain ⟨_, _, n3⟩ := nodup_mid l3.nd
                obtain ⟨n1, _⟩ := List.nodup_cons.mp n3
                simp only [List.mem_append, List.mem_singleton] at z n1
                rcases z with z | z | z
                · exact n1 (.inl z)
                · rw [z] at ea
                  rw [x2 _ _ ea] at hp
                  cases hp
                · exact n1 (.inr (.inr z))
              obtain ⟨rel5, s5⟩ := rel3.lensI s3 l3 hlk (x := .dK (L2.putK vs k0 (.ref p))) trivial (frOk_new rel2 hp hp0 trivial) (d' := .dic false (Al.putK kvs (keyD k0) (.lst []))) (by
                have hlen := length_putK vs k0 (.ref p)
                have := R.dk (w := f.w) (K := f.K) (cad := f.cad) (vs := []) (ds := []) (F := []) (H := upd (upd H2 p (.lst [])) a (.dK (L2.putK vs k0 (.ref p)))) (a := a) (.inl upd_same) (by omega) m' ⟨nd', fun q hq z hz => ?_⟩ (R.updM r' hnp ea3 trivial) .nil
                · simpa using this
                · unfold L2.putK at hq
                  split at hq
                  · obtain ⟨q0, h0, rfl⟩ := List.mem_map.mp hq
                    split at hz
                    · exact tlen q0 h0 z hz
                    · exact tlen q0 h0 z hz
                  · rcases List.mem_append.mp hq with hq | hq
                    · exact tlen q hq z hz
                    · rw [List.mem_singleton.mp hq] at hz
                      exact hk0 z hz)
              have hwk : withK kvs (keyD k0) = Al.putK kvs (keyD k0) (.lst []) := by rw [g1, g2]
              rw [hwk] at e1
              have hlk5 : look (killBo (ρ1.set r (some (.dic false (Al.putK kvs (keyD k0) (.lst [])), .fr)))) r = some (.dic false (Al.putK kvs (keyD k0) (.lst [])), .fr) := look_kill (by
                have := (List.getElem?_eq_some_iff.mp (look_some hlk)).1
                unfold look
                rw [List.getElem?_set, if_pos rfl, if_pos this])
              obtain ⟨v5, hv5, l5⟩ := LensAt.var rel5 hlk5
              rw [hv] at hv5
              cases hv5
              obtain ⟨a', vs', w', A', F', B', ev, ea', hv', l6⟩ := LensAt.dk l5 k0 (x := .lst []) (show getK (Al.putK kvs (keyD k0) (.lst [])) (keyD k0) = some (.lst []) by rw [g2]; exact g3)
              cases ev
              rw [upd_same] at ea'
              cases ea'
              have hw' : w' = .ref p := by
                rw [valV_put, if_pos rfl] at hv'
                exact (Option.some.inj hv').symm
              subst hw'
              exact sd_end s5 rel5 hlk5 l6 he (by rw [g2]; exact g3) e1 fin
          | true =>
            have hkey : isKT x = true := by simpa [keyOk] using hkey
            obtain ⟨a, L, E, rfl, ea, la, m, nd, t, r0, r1, hO⟩ := l.rr.dt'
            rw [hO] at l
            have ea : H a = some (dtO f.w a L) := by
              rcases ea with ea | ⟨o, ea⟩
              · exact ea
              · have := l.mu a (by simp)
                rw [ea] at this
                exact this.elim
            refine ⟨a, rfl, .inr ⟨L, ea⟩, ρ, O, S, x, kk, ρ1, rel, ex, fun y H2 O2 S2 Fk rel2 s2 t2 w2 => ?_⟩
            obtain ⟨x2, rfl, rfl⟩ := w2 hk
            refine ⟨Nat.zero_le _, fun p hp => ?_⟩
            have xp : Ext H2 (upd H2 p (.lst [])) := Ext.new hp
            obtain ⟨b, rfl⟩ := key_of_KT t2.r hkey
            have rb : f.R H2 [.ref b] [x] [] := by
              have := t2.r
              rw [R.flat this (flat_KT hkey)] at this
              exact this
            have l3 := (l.ext x2).ext xp
            have rel3 := rel2.ext xp
            have s3 := (s1.trans s2).ext xp
            have ea3 : upd H2 p (.lst []) a = some (dtO f.w a L) := xp _ _ (x2 _ _ ea)
            have hp0 : H p = none := by
              cases q : H p with
              | none => rfl
              | some o => rw [x2 _ _ (x1 _ _ q)] at hp; cases hp
            have hlv : L.length = kvs.length := by have := congrArg List.length m; simpa using this
            have r03 := R.ext r0 (x2.trans xp)
            refine .inr ⟨L, kvs, b, x, rfl, ea3, m, t, r03, nd, by rw [← LINE_eq]; exact la, hkey, R.ext rb xp, fun q hw => ?_, fun hn => ?_⟩
            · cases hg : getK kvs x with
              | none =>
                rcases dt_get hkey m t r1 with ⟨_, z⟩ | ⟨_, _, _, _, _, z, _⟩
                · rw [z] at hw; cases hw
                · rw [hg] at z; cases z
              | some d0 =>
                obtain ⟨q', A', F', B', hv', l4⟩ := LensAt.dt l3 ea3 la m nd t r03 (R.ext r1 (x2.trans xp)) hkey hg
                rw [hw] at hv'
                cases hv'
                have hwk : withK kvs x = kvs := by unfold withK; rw [hg]; rfl
                rw [hwk, set_look hlk] at e1
                obtain ⟨ys, rfl⟩ := isl _ _ _ hg e1
                have rel4 := rel_kill rel3 hlk
                have hlk2 := look_kill hlk
                exact sd_end s3 rel4 hlk2 l4 he hg e1 fin
            · have hg : getK kvs x = none := by
                rcases dt_get hkey m t r1 with ⟨z, _⟩ | ⟨_, _, _, _, _, _, z, _⟩
                · exact z
                · rw [hn] at z; cases z
              obtain ⟨g1, g2, g3⟩ := getK_put (d := .lst []) (by rw [keq_KT hkey hkey]; simp) hg
              obtain ⟨A2, F0, B2, rfl, hset⟩ := dt_put m nd t r03 (R.ext r1 (x2.trans xp)) hkey (R.ext rb xp)
              have rp : f.R (upd H2 p (.lst [])) [.ref p] [.lst []] [p] := R.lst (vs := []) (ds := []) (E := []) (F := []) upd_same (Nat.zero_le _) .nil .nil
              obtain ⟨m', nd', t', r0', r'⟩ := hset (.ref p) (.lst []) [p] rp
              have hnp : a ∉ A2 ++ ([p] ++ B2) := fun z => by
                obtain ⟨_, _, n3⟩ := nodup_mid l3.nd
                obtain ⟨n1, _⟩ := List.nodup_cons.mp n3
                simp only [List.mem_append, List.mem_singleton] at z n1
                rcases z with z | z | z
                · exact n1 (.inl z)
                · rw [z] at ea
                  rw [x2 _ _ ea] at hp
                  cases hp
                · exact n1 (.inr (.inr z))
              have hlen : (putDT L (nkey x) b (.ref p)).length ≤ LINE := by
                unfold putDT
                split
                · rw [List.length_map]; exact la
                · rw [List.length_append]; simp; omega
              have r05 := R.updM (x := dtO f.w a (putDT L (nkey x) b (.ref p))) r0' (fun z => nomatch z) ea3 trivial
              have r15 := R.updM (x := dtO f.w a (putDT L (nkey x) b (.ref p))) r' hnp ea3 trivial
              obtain ⟨rel5, s5⟩ := rel3.lensI s3 l3 hlk (x := dtO f.w a (putDT L (nkey x) b (.ref p))) trivial (frOk_new rel2 hp hp0 trivial) (d' := .dic true (Al.putK kvs x (.lst []))) (by
                have := R.dt (w := f.w) (K := f.K) (cad := f.cad) (vs := []) (ds := []) (F := []) (H := upd (upd H2 p (.lst [])) a (dtO f.w a (putDT L (nkey x) b (.ref p)))) (a := a) (.inl upd_same) hlen m' nd' t' r05 r15 .nil
                simpa using this)
              have hwk : withK kvs x = Al.putK kvs x (.lst []) := by rw [g1, g2]
              rw [hwk] at e1
              have hlk5 : look (killBo (ρ1.set r (some (.dic true (Al.putK kvs x (.lst [])), .fr)))) r = some (.dic true (Al.putK kvs x (.lst [])), .fr) := look_kill (by
                have := (List.getElem?_eq_some_iff.mp (look_some hlk)).1
                unfold look
                rw [List.getElem?_set, if_pos rfl, if_pos this])
              obtain ⟨v5, hv5, l5⟩ := LensAt.var rel5 hlk5
              rw [hv] at hv5
              cases hv5
              have hO5 : (if r = r then [] ++ (a :: (A2 ++ ([p] ++ B2)) ++ []) else O2 r) = a :: (A2 ++ ([p] ++ B2)) := by simp
              rw [hO5] at l5
              obtain ⟨w', A', F', B', hv', l6⟩ := LensAt.dt l5 upd_same hlen m' nd' t' r05 r15 hkey (x := .lst []) (show getK (Al.putK kvs x (.lst [])) x = some (.lst []) by rw [g2]; exact g3)
              have hw' : w'.2.2 = .ref p := by
                have e : putDT L (nkey x) b (.ref p) = L ++ [(nkey x, b, .ref p)] := by
                  unfold putDT
                  rw [if_neg]
                  intro z
                  rw [List.any_eq_true] at z
                  obtain ⟨q, hq, hk⟩ := z
                  rw [List.find?_eq_none] at hn
                  exact hn q hq hk
                rw [e, List.find?_append, hn] at hv'
                simp at hv'
                rw [← hv']
              rw [hw'] at l6
              exact sd_end s5 rel5 hlk5 l6 he (by rw [g2]; exact g3) e1 fin
        · cases e1
  · cases e1
end
section
variable {wd : Wd} {k : Nat}
theorem s_sdApp {o i e : E} : OkS wd k (.sdApp o i e) := fun T f nm X st a hf h hP => by
  cases o with
  | var r =>
    cases st with
    | Expr x0 pos =>
      cases x0 with
      | Call fn as kws cpos2 =>
        cases fn with
        | Attribute oc m2 apos2 =>
          cases oc with
          | Call fn1 as1 kws1 cpos1 =>
            cases fn1 with
            | Attribute x m1 apos1 =>
              rcases as1 with _ | ⟨ky, _ | ⟨z, r2⟩⟩ <;> try exact no_tt h
              cases z <;> try exact no_tt h
              next els lp =>
              rcases els with _ | ⟨_, _⟩ <;> rcases r2 with _ | ⟨_, _⟩ <;> rcases kws1 with _ | ⟨_, _⟩ <;> rcases as with _ | ⟨y, _ | ⟨_, _⟩⟩ <;> rcases kws with _ | ⟨_, _⟩ <;> try exact no_tt h
              have h : (decide (m1 = "setdefault") && (decide (m2 = "append") && (!i.eff && (!e.eff && (noStar ky && (noStar y && (baseOk x && (decide (apos1.endLine = cpos1.line) && (decide (apos2.endLine = cpos2.line) && (chkE T nm (.var r) x && (chkE T nm i ky && chkE T nm e y))))))))))) = true := h
              simp only [Bool.and_eq_true, decide_eq_true_eq, Bool.not_eq_true'] at h
              obtain ⟨rfl, rfl, hi, he, hs1, hs2, hb, hl1, hl2, hx, hky, hy⟩ := h
              have po := (okE wd k (.var r) T f nm X x a hx hP.1).var r rfl
              have pk := (okE wd k i T f nm X ky a hky hP.2.1).pe
              have pv := (okE wd k e T f nm X y a hy hP.2.2).pe
              have ps := pe_sd (f := f) a.K a.w a.hu po pk (pe_lst (pos := lp) pa_nil) (m2_of (cpos := cpos1) hs1 rfl hb hl1)
              have pb := pe_bm F.plainAttrs_list F.slot_list_append F.type_list_append mt_append ps (pa_cons pv pa_nil (star_one hs2 _ _)) rfl (by rw [star_one hs2]; rfl) (by rw [hl2]; simp) (star_one hs2 _ _) (star_all (es := []) rfl _ _) (cpos := cpos2)
              rw [a.K] at pb
              exact PS.mono (ps_expr pb rfl) fun D σ H => r_sdApp hi he
            | _ => exact no_tt h
          | _ => exact no_tt h
        | _ => exact no_tt h
      | _ => exact no_tt h
    | _ => exact no_tt h
  | _ => exact no_tt h
end
end Al
/-! A5o: blocks; a def keeps its promise. -/
namespace Al
open PySem L2

section
variable {wd : Wd} {k : Nat}
theorem ok_sno {s : Al.S} (h : ∀ T nm st, chkS T nm s st = false) : OkS wd k s := fun T f nm X st a hf hc _ => by rw [h] at hc; cases hc
theorem ss_nil : OkSs wd k .nil := fun T f nm X st a hf h hP => by
  cases st with
  | nil => exact PSs.mono pss_nil fun D σ H => r_nil
  | cons _ _ => exact no_tt h
theorem ss_frz {i : Nat} {r : Ss} (ih : OkSs wd k r) : OkSs wd k (.cons (.frz i) r) := fun T f nm X st a hf h hP => PSs.mono (ih T f nm X st a hf h hP.2) fun D σ H => r_frz
theorem ss_cons {s : Al.S} {r : Ss} (hs : ∀ i, s ≠ .frz i) (i1 : OkS wd k s) (ih : OkSs wd k r) : OkSs wd k (.cons s r) := fun T f nm X st a hf h hP => by
  cases st with
  | nil => cases s <;> first | exact no_tt h | exact absurd rfl (hs _)
  | cons y ys =>
    have h : (chkS T nm s y && chkSs T nm r ys) = true := by cases s <;> first | exact h | exact absurd rfl (hs _)
    simp only [Bool.and_eq_true] at h
    exact PSs.mono (pss_cons (i1 T f nm X y a hf h.1 hP.1) (ih T f nm X ys a hf h.2 hP.2)) fun D σ H => r_seq
/-- iterables, by what they are made of -/
theorem okEs : ∀ m : Es, OkEs wd k m
  | .nil => ok_es_nil
  | .cons e r => ok_es_cons (okE wd k e) (okEs r)
  | .ref i r => ok_es_ref (okEs r)
theorem okI (m : Al.It) : OkI wd k m := by
  cases m with
  | val e => exact ok_val (okE wd k e)
  | rng es => exact ok_rngI (okEs es)
  | enum e => exact ok_enumI (okE wd k e)
  | zip a b => exact ok_zipI (okE wd k a) (okE wd k b)
  | keys i => exact fun z => nomatch z
theorem okSs (wd : Wd) (k : Nat) : ∀ m : Ss, OkSs wd k m := by
  intro m
  refine Ss.rec (motive_1 := fun _ => True) (motive_2 := fun _ => True) (motive_3 := fun _ => True) (motive_4 := OkS wd k) (motive_5 := OkSs wd k) (motive_6 := fun _ => True) ?e1 ?e2 ?e3 ?e4 ?e5 ?e6 ?e7 ?e8 ?e9 ?e10 ?e11 ?e12 ?e13 ?e14 ?e15 ?e16 ?e17 ?e18 ?e19 ?e20 ?e21 ?e22 ?e23 ?e24 ?e25 ?es1 ?es2 ?es3 ?i1 ?i2 ?i3 ?i4 ?i5 ?exp ?set ?ret ?retN ?ife ?whl ?forS ?pass ?brk ?cont ?setIx ?setFld ?app ?ext ?clr ?ins ?appAll ?sdApp ?rais ?frz ?nil ?cons ?f1 ?f2 m
  case exp => exact fun _ _ => s_exp
  case set => exact fun _ _ _ => s_set
  case ret => exact fun _ _ => s_ret
  case retN => exact s_retN
  case ife => exact fun _ _ _ _ i1 i2 => s_ife i1 i2
  case whl => exact fun _ _ _ _ ih => s_whl ih
  case forS => exact fun _ it _ _ _ ih => s_for (okI it) ih
  case pass => exact s_pass
  case brk => exact s_brk
  case cont => exact s_cont
  case setIx => exact fun _ _ _ _ _ _ => s_setIx
  case setFld => exact fun _ _ _ _ _ => s_setFld
  case app => exact fun _ _ _ _ => s_app
  case ext => exact fun _ _ _ _ => s_ext
  case clr => exact fun _ _ => s_clr
  case ins => exact fun _ _ _ _ _ _ => ok_sno fun T nm st => by cases st <;> rfl
  case appAll => exact fun _ _ _ _ => ok_sno fun T nm st => by cases st <;> rfl
  case sdApp => exact fun _ _ _ _ _ _ => s_sdApp
  case rais => exact fun _ _ _ => s_rais
  case frz => exact fun _ => ok_sno fun T nm st => by cases st <;> rfl
  case nil => exact ss_nil
  case cons =>
    intro s r i1 i2
    cases s with
    | frz i => exact ss_frz i2
    | _ => exact ss_cons (fun i z => nomatch z) i1 i2
  all_goals intros; trivial
end

/-! ### a def -/
theorem Rs.get {w : World} {K : PySem.W.Frag} {cad : Nat → Addr} {H : Hp} : ∀ {vs : List V} {ds : List Al.D} {Fs : List (List Addr)}, Rs w K cad H vs ds Fs → ∀ {i : Nat} {d : Al.D}, ds[i]? = some d → ∃ v F, vs[i]? = some v ∧ Fs[i]? = some F ∧ R w K cad H [v] [d] F
  | _, _, _, .nil, i, d, h => by simp at h
  | _, _, _, .cons r t, 0, d, h => by
    simp only [List.getElem?_cons_zero, Option.some.injEq] at h
    subst h
    exact ⟨_, _, rfl, rfl, r⟩
  | _, _, _, .cons r t, i + 1, d, h => by
    obtain ⟨v, F, e1, e2, r2⟩ := t.get (i := i) (by simpa using h)
    exact ⟨v, F, by simpa using e1, by simpa using e2, r2⟩
theorem Rs.lens {w : World} {K : PySem.W.Frag} {cad : Nat → Addr} {H : Hp} {vs : List V} {ds : List Al.D} {Fs : List (List Addr)} (h : Rs w K cad H vs ds Fs) : vs.length = ds.length ∧ Fs.length = ds.length := by
  induction h with
  | nil => exact ⟨rfl, rfl⟩
  | cons _ _ ih => simp [ih]
theorem Rs.at {w : World} {K : PySem.W.Frag} {cad : Nat → Addr} {H : Hp} {vs : List V} {ds : List Al.D} {Fs : List (List Addr)} (h : Rs w K cad H vs ds Fs) {i : Nat} {F : List Addr} (e : Fs[i]? = some F) : ∃ v d, ds[i]? = some d ∧ R w K cad H [v] [d] F := by
  have hlt : i < ds.length := by
    have := (List.getElem?_eq_some_iff.mp e).1
    rw [h.lens.2] at this
    exact this
  obtain ⟨v, F', e1, e2, r⟩ := h.get (List.getElem?_eq_getElem hlt)
  rw [e] at e2
  cases e2
  exact ⟨v, _, List.getElem?_eq_getElem hlt, r⟩
theorem slots0_get (mu : List Nat) : ∀ (ds : List Al.D) (n i : Nat), (slots0 mu n ds)[i]? = (ds[i]?).map fun d => some (d, if mu.contains (n + i) then .fr else .st)
  | [], n, i => by simp [slots0]
  | d :: r, n, 0 => by simp [slots0]
  | d :: r, n, i + 1 => by
    simp only [slots0, List.getElem?_cons_succ]
    rw [slots0_get mu r (n + 1) i]
    have e : n + 1 + i = n + (i + 1) := by omega
    rw [e]
theorem slots0_len (mu : List Nat) : ∀ (ds : List Al.D) (n : Nat), (slots0 mu n ds).length = ds.length
  | [], n => rfl
  | d :: r, n => by simp [slots0, slots0_len mu r]
/-- the frame of a call that changes nothing -/
def fx0 (wd : Wd) (H : Hp) (Fs : List (List Addr)) : Fx where
  w := wd.w
  K := wd.K
  cad := wd.cad
  H0 := H
  B := fun a => H a = none
  SB := fun a => H a = none ∨ ∃ F ∈ Fs, a ∈ F
  hB := fun a h => h
  hSB := fun a h => .inl h
theorem start_rel {wd : Wd} {H : Hp} {vs : List V} {ds : List Al.D} {Fs : List (List Addr)} {N : List Str} {np ns : Nat} (h : Rs wd.w wd.K wd.cad H vs ds Fs) (hd : ds.length = np) (hN : N.length = ns) :
    Rel (fx0 wd H Fs) (L2.start N vs) H (slots0 [] 0 ds ++ List.replicate (ns - np) none) (fun _ => []) (fun a => ∃ F ∈ Fs, a ∈ F) := by
  have hl := h.lens
  refine ⟨?_, fun i d kk e => ?_, fun i a z => (nomatch z), fun i => List.nodup_nil, fun i j a z => (nomatch z), fun a z => ?_, fun a o _ e => e⟩
  · unfold L2.start
    rw [List.length_append, List.length_append, List.length_map, List.length_replicate, List.length_replicate, slots0_len, hl.1, hd, hN]
  · by_cases hi : i < ds.length
    · rw [List.getElem?_append_left (by rw [slots0_len]; exact hi), slots0_get] at e
      rw [List.getElem?_eq_getElem hi] at e
      simp only [Option.map_some, Option.some.injEq, Prod.mk.injEq] at e
      obtain ⟨rfl, rfl⟩ := e
      obtain ⟨v, F, e1, e2, r⟩ := h.get (List.getElem?_eq_getElem hi)
      refine ⟨v, F, ?_, r, fun a ha => .inr ⟨F, List.mem_of_getElem? e2, ha⟩, (fun z => by simp at z), fun _ a ha => ⟨F, List.mem_of_getElem? e2, ha⟩⟩
      unfold L2.start
      rw [List.getElem?_append_left (by rw [List.length_map, hl.1]; exact hi), List.getElem?_map, e1]
      rfl
    · rw [List.getElem?_append_right (by rw [slots0_len]; omega), List.getElem?_replicate] at e
      split at e <;> cases e
  · obtain ⟨F, hF, ha⟩ := z
    obtain ⟨i, hi⟩ := List.getElem?_of_mem hF
    obtain ⟨v, d, _, r⟩ := h.at hi
    exact ⟨.inr ⟨F, hF, ha⟩, r.there a ha⟩
/-- what stands at a def's name, to be checked: its table's facts -/
structure TopOk (wd : Wd) (T : Tab) : Prop where
  bl : ∀ x ∈ T.bl, wd.mg x = none
  cst : ∀ p ∈ T.cst, ∃ u v, wd.mg p.1 = some u ∧ RelV v u ∧ Atom v p.2
  cls : T.cls.isEmpty = false → (∀ c, Cls wd.K (wd.cad c)) ∧ ∀ c g, g ≤ 7 → NoAttr wd.K (wd.cad c) (fname g)
theorem fn0_ok {wd : Wd} {k n np ns : Nat} {body : Ss} {T : Tab} {x qual : Str} {st : Stmt} {a : Addr} {fd : FuncData} {ps : List Str} (F : Fun wd.K x qual st a fd) (sc : FnScope T.N ps (defScope st)) (hA : TopOk wd T) (hP : AllSs (PF wd T k) body)
    (hc : (chkSs T (defScope st).names body (defBody st) && (decide (T.N.length = ns) && decide (ps.length = np))) = true) : FnOk wd.prog wd.w wd.K wd.mg wd.base CX0 (k + 2) a fd ps (spFn wd.w wd.K wd.cad wd.Z (.mk n [] np ns body)) := by
  simp only [Bool.and_eq_true, decide_eq_true_eq] at hc
  obtain ⟨hc, hns, hnp⟩ := hc
  have hlen : ∀ (vs : List V) (H : Hp) (Q : VK) (E : XK), spFn wd.w wd.K wd.cad wd.Z (.mk n [] np ns body) vs H Q E → vs.length = ps.length ∧ ∃ ds : List Al.D, vs.length = ds.length ∧ ds.length = np := by
    rintro vs H Q E ⟨ds, Fs, d, kk, out, hh, e, _⟩
    simp only [run, startE] at e
    have hd : ds.length = np := by
      by_cases h : ds.length = np
      · exact h
      · rw [if_neg h] at e; cases e
    have := hh.rs.lens.1
    exact ⟨by omega, ds, this, hd⟩
  refine F.ok sc (fun vs H Q E h => (hlen vs H Q E h).1) fun cdv A outer s H vs Q E hr h => ?_
  obtain ⟨ds, Fs, d, kk, out, hh, e, q⟩ := h
  simp only [run, startE] at e
  have hd : ds.length = np := by
    by_cases h : ds.length = np
    · exact h
    · rw [if_neg h] at e; cases e
  rw [if_pos hd] at e
  dsimp only at e
  have at_ : At wd T (fx0 wd H Fs) k (defScope st).names (Cx.nox (cxOf CX0 wd.prog wd.w wd.K wd.mg wd.base T.N qual (defScope st) a cdv A outer s H E)) := ⟨rfl, rfl, rfl, rfl, rfl, rfl, rfl, sc.nd, rfl, sc.kind, rfl, rfl, rfl, hr, rfl, hA.bl, hA.cst, hA.cls⟩
  refine ⟨_, okSs wd k body T (fx0 wd H Fs) _ _ _ at_ (fun _ => rfl) hc hP, ?_⟩
  cases ef : denSs wd.Z body (slots0 [] 0 ds ++ List.replicate (ns - np) none) with
  | none => rw [ef] at e; cases e
  | some fl =>
    rw [ef] at e
    refine ⟨_, _, _, fl, start_rel hh.rs hd hns, ef, ?_⟩
    cases fl with
    | ex c p ρ1 => simp [endRes, owns] at e
    | bk ρ1 => simp [endRes] at e
    | ct ρ1 => simp [endRes] at e
    | nx ρ1 =>
      simp only [endRes, owns, Option.map_some, Option.some.injEq, Res.ok.injEq] at e
      obtain ⟨rfl, rfl, rfl⟩ := e
      intro σ1 H1 O1 S1 rel1 s1 _
      exact q .non H1 [] [] ⟨fun a o _ e => s1.keep a o (fun i z => nomatch z) e, .atom .non .nil, .nil, (fun _ z => nomatch z), (fun z => nomatch z), (fun _ z => nomatch z), .nil, (fun z => nomatch z), .inl rfl⟩
    | rt d' k' ρ1 =>
      simp only [endRes, owns, Option.map_some, List.isEmpty_nil, Bool.not_true, Bool.false_and, Bool.false_eq_true, if_false, Option.some.injEq, Res.ok.injEq] at e
      obtain ⟨rfl, rfl, rfl⟩ := e
      intro v σ1 H1 O1 S1 F1 rel1 s1 t1
      refine q v H1 F1 [] ⟨fun a o _ e => s1.keep a o (fun i z => nomatch z) e, t1.r, .nil, t1.al, fun hk => ?_, (fun _ z => nomatch z), .nil, ?_, .inr (.inl rfl)⟩
      · have hk' : k' = .fr := by
          split at hk
          · cases hk
          · split at hk
            · next h => simpa using h
            · cases hk
        obtain ⟨nd, qf⟩ := t1.fr hk'
        refine ⟨nd, fun a ha => ⟨(qf a ha).1, ?_, fun G hG => nomatch hG⟩⟩
        rcases (qf a ha).2.2.2.1 with ⟨j, z⟩ | z
        · cases z
        · exact .inl z
      · intro hk
        split at hk
        · cases hk
        · split at hk <;> cases hk
end Al
/-! A5p: what the joins of the laws use. -/
namespace Al
open PySem L2

theorem scr_of {K : PySem.W.Frag} {H : Hp} {a : Addr} {ns : List Int} (hO : Only H) (h : SqL K H a (ns.map V.int)) : ScrAt K H a ns := by
  rcases h with (h | h) | h
  · rcases hO a with z | ⟨o, xs, z⟩
    · rw [z] at h; cases h
    · rw [z] at h; cases h
  · exact .inl h
  · exact .inr h
/-- what the law's own def is asked for -/
theorem law_sp {w : World} {K : PySem.W.Frag} {cad : Nat → Addr} {Z : Far} {g : Fn} (hmu : g.mu = []) (hrun : ∀ ns : List Int, ns.length ≤ 63 → ∃ k out, run Z g [.scr ns] = some (.ok (.bl true) k out)) {H : Hp} {a : Addr} {ns : List Int} (hl : ns.length ≤ 63) (hO : Only H) (hS : SqL K H a (ns.map V.int)) :
    spFn w K cad Z g [V.ref a] H (fun v _ => v = .bl true) fun _ _ _ => False := by
  obtain ⟨k, out, e⟩ := hrun ns hl
  refine ⟨[.scr ns], [[]], _, k, out, ?_, e, fun v H' F Gs l => ?_⟩
  · rw [hmu]
    exact ⟨.cons (.scr (scr_of hO hS) .nil) .nil, fun i hi => (nomatch hi), fun i hi => nomatch hi⟩
  · have r := l.r
    cases r with
    | atom q _ => cases q; rfl
/-- a def's name names it alone -/
def nmOk (fns : List (Str × Nat)) (x : Str) (n : Nat) : Bool := fns.all fun p => p.2 != n || decide (p.1 = x)
theorem pf_of {wd : Wd} {T : Tab} {k : Nat} {g : Fn} {x : Str} (h : nmOk T.fns x g.nm = true) (c : CallOk wd k x g) : PF wd T k g := by
  intro y hy
  have := List.all_eq_true.mp h _ hy
  simp only [bne_self_eq_false, Bool.false_or, decide_eq_true_eq] at this
  rw [this]
  exact c
theorem PF.le {wd : Wd} {T : Tab} {k k' : Nat} {g : Fn} (h : PF wd T k g) (hk : k ≤ k') : PF wd T k' g := fun x hx => by
  obtain ⟨a, fd, ps, j, F, hj, r⟩ := h x hx
  exact ⟨a, fd, ps, j, F, Nat.le_trans hj hk, r⟩
theorem cst_int {wd : Wd} {x : Str} {i : Int} {t : Tok} (h : wd.mg x = some (.int i t)) : ∃ u v, wd.mg x = some u ∧ RelV v u ∧ Atom v (.int i) := ⟨_, .int i, h, ⟨t, rfl⟩, .int i⟩
theorem cst_str {wd : Wd} {x : Str} {z : Str} {t : Tok} {w : W} (h : wd.mg x = some (.str z t)) (hz : z.cps.toList = w) (hl : w.length ≤ LINE) : ∃ u v, wd.mg x = some u ∧ RelV v u ∧ Atom v (.str w) := by
  refine ⟨_, .str z, h, ⟨t, rfl⟩, ?_⟩
  have e : mkS w = z := by subst hz; cases z; simp [mkS]
  rw [← e]
  exact .str hl
end Al
namespace Al
def c_SIGNS : E := .cst 0 (.str [97, 98, 99, 100, 101, 102, 103, 104, 105, 106, 107, 108, 109, 110, 111, 112, 113, 114, 115, 116, 117, 118, 119, 120, 121, 122])
def c_LONGEST_WORD : E := .cst 1 (.int 200)
def c_MOST_TEXTS : E := .cst 2 (.int 8)
def c_MOST_SIGNS : E := .cst 3 (.int 120)
def f_is_signs_e1 : E := (.prim .isin (.cons (.var 1) (.cons c_SIGNS .nil)))
def f_is_signs : Fn := .mk 0 [] 1 2 (.cons (.ret (.andE (.prim (.isi 0) (.cons (.var 0) .nil)) (.prim .all (.cons (.lc f_is_signs_e1 (.nm 1) (.val (.var 0)) .nil [1]) .nil)))) .nil)
def f_is_word : Fn := .mk 1 [] 1 1 (.cons (.ret (.andE (.call f_is_signs (.cons (.var 0) .nil)) (.prim .le (.cons (.prim .len (.cons (.var 0) .nil)) (.cons c_LONGEST_WORD .nil))))) .nil)
def f_signs_in_e1 : E := (.prim .len (.cons (.var 1) .nil))
def f_signs_in : Fn := .mk 2 [] 1 2 (.cons (.ret (.prim .sum (.cons (.lc f_signs_in_e1 (.nm 1) (.val (.var 0)) .nil [1]) .nil))) .nil)
def f_is_book_e1 : E := (.call f_is_signs (.cons (.var 1) .nil))
def f_is_book : Fn := .mk 3 [] 1 2 (.cons (.ife (.orE (.notE (.prim (.isi 1) (.cons (.var 0) .nil))) (.prim .gt (.cons (.prim .len (.cons (.var 0) .nil)) (.cons c_MOST_TEXTS .nil)))) (.cons (.ret (.bl false)) .nil) .nil) (.cons (.ife (.notE (.prim .all (.cons (.lc f_is_book_e1 (.nm 1) (.val (.var 0)) .nil [1]) .nil))) (.cons (.ret (.bl false)) .nil) .nil) (.cons (.ret (.prim .le (.cons (.call f_signs_in (.cons (.var 0) .nil)) (.cons c_MOST_SIGNS .nil)))) .nil)))
def f_l_cell_at : Fn := .mk 4 [] 2 2 (.cons (.ife (.prim .lt (.cons (.var 1) (.cons (.prim .len (.cons (.var 0) .nil)) .nil))) (.cons (.ret (.prim .idx (.cons (.var 0) (.cons (.var 1) .nil)))) .nil) .nil) (.cons (.ret (.int 0)) .nil))
def f_l_mixed : Fn := .mk 5 [] 2 3 (.cons (.set (.nm 2) (.prim .mod (.cons (.prim .add (.cons (.prim .add (.cons (.prim .mod (.cons (.var 0) (.cons (.int 2147483629) .nil))) (.cons (.prim .mul (.cons (.int 48271) (.cons (.var 1) .nil))) .nil))) (.cons (.int 11) .nil))) (.cons (.int 2147483629) .nil)))) (.cons (.set (.nm 2) (.prim .add (.cons (.prim .mod (.cons (.prim .mul (.cons (.var 2) (.cons (.var 2) .nil))) (.cons (.int 2147483629) .nil))) (.cons (.prim .mul (.cons (.int 7919) (.cons (.var 1) .nil))) .nil)))) (.cons (.ret (.prim .mod (.cons (.prim .mul (.cons (.var 2) (.cons (.var 2) .nil))) (.cons (.int 2147483587) .nil)))) .nil)))
def f_l_text_b1 : Ss := (.cons (.ife (.prim .eq (.cons (.prim .mod (.cons (.call f_l_cell_at (.cons (.var 0) (.cons (.int 0) .nil))) (.cons (.int 2) .nil))) (.cons (.int 0) .nil))) (.cons (.app (.var 6) (.prim .idx (.cons (.var 1) (.cons (.prim .mod (.cons (.var 4) (.cons (.prim .len (.cons (.var 1) .nil)) .nil))) .nil)))) (.cons (.set (.nm 4) (.prim .fdiv (.cons (.var 4) (.cons (.prim .len (.cons (.var 1) .nil)) .nil)))) .nil)) (.cons (.app (.var 6) (.prim .idx (.cons (.var 1) (.cons (.prim .mod (.cons (.prim .fdiv (.cons (.call f_l_mixed (.cons (.var 4) (.cons (.prim .add (.cons (.prim .mul (.cons (.int 30) (.cons (.var 3) .nil))) (.cons (.var 7) .nil))) .nil))) (.cons (.int 7) .nil))) (.cons (.prim .len (.cons (.var 1) .nil)) .nil))) .nil)))) .nil)) .nil)
def f_l_text_r2 : Ss := (.cons (.ret (.prim .join (.cons (.str []) (.cons (.var 6) .nil)))) .nil)
def f_l_text : Fn := .mk 6 [] 4 8 (.cons (.set (.nm 4) (.call f_l_cell_at (.cons (.var 0) (.cons (.prim .add (.cons (.int 1) (.cons (.var 3) .nil))) .nil)))) (.cons (.set (.nm 5) (.prim .mod (.cons (.var 4) (.cons (.prim .add (.cons (.var 2) (.cons (.int 1) .nil))) .nil)))) (.cons (.set (.nm 4) (.prim .fdiv (.cons (.var 4) (.cons (.prim .add (.cons (.var 2) (.cons (.int 1) .nil))) .nil)))) (.cons (.set (.nm 6) (.lst .nil)) (.cons (.forS (.nm 7) (.rng (.cons (.var 5) .nil)) f_l_text_b1 [7]) f_l_text_r2)))))
def f_l_book_e1 : E := (.call f_l_text (.cons (.var 0) (.cons (.var 2) (.cons (.var 4) (.cons (.var 5) .nil)))))
def f_l_book : Fn := .mk 7 [] 1 6 (.cons (.set (.nm 1) (.call f_l_cell_at (.cons (.var 0) (.cons (.int 0) .nil)))) (.cons (.set (.nm 2) (.prim .idx (.cons (.lst (.cons (.str [97, 98]) (.cons (.str [97, 98, 99]) (.cons (.str [97, 98, 99, 100]) (.cons (.str [97, 122]) (.cons (.str [97]) (.cons (.str [97, 98, 99, 100, 101, 102, 103, 104, 105, 106, 107, 108, 109, 110, 111, 112, 113, 114, 115, 116, 117, 118, 119, 120, 121, 122]) .nil))))))) (.cons (.prim .mod (.cons (.prim .fdiv (.cons (.var 1) (.cons (.int 2) .nil))) (.cons (.int 6) .nil))) .nil)))) (.cons (.set (.nm 3) (.prim .idx (.cons (.lst (.cons (.int 1) (.cons (.int 2) (.cons (.int 3) (.cons (.int 4) (.cons (.int 2) (.cons (.int 1) (.cons (.int 0) (.cons (.int 8) .nil))))))))) (.cons (.prim .mod (.cons (.prim .fdiv (.cons (.var 1) (.cons (.int 12) .nil))) (.cons (.int 8) .nil))) .nil)))) (.cons (.set (.nm 4) (.prim .idx (.cons (.lst (.cons (.int 24) (.cons (.int 12) (.cons (.int 8) (.cons (.int 6) .nil))))) (.cons (.prim .sub (.cons (.prim .min2 (.cons (.var 3) (.cons (.int 4) .nil))) (.cons (.int 1) .nil))) .nil)))) (.cons (.ife (.prim .eq (.cons (.prim .mod (.cons (.prim .fdiv (.cons (.var 1) (.cons (.int 96) .nil))) (.cons (.int 8) .nil))) (.cons (.int 5) .nil))) (.cons (.set (.nm 4) (.prim .fdiv (.cons (.int 60) (.cons (.prim .max2 (.cons (.int 1) (.cons (.var 3) .nil))) .nil)))) .nil) .nil) (.cons (.ife (.andE (.prim .eq (.cons (.var 3) (.cons (.int 8) .nil))) (.prim .ne (.cons (.prim .mod (.cons (.prim .fdiv (.cons (.var 1) (.cons (.int 96) .nil))) (.cons (.int 8) .nil))) (.cons (.int 5) .nil)))) (.cons (.set (.nm 4) (.int 3)) .nil) .nil) (.cons (.ret (.lc f_l_book_e1 (.nm 5) (.rng (.cons (.var 3) .nil)) .nil [5])) .nil)))))))
def f_places_b1 : Ss := (.cons (.ife (.prim .eq (.cons (.prim .cut (.cons (.var 4) (.cons (.prim .sub (.cons (.var 5) (.cons (.prim .len (.cons (.var 1) .nil)) .nil))) (.cons (.var 5) .nil)))) (.cons (.var 1) .nil))) (.cons (.app (.var 2) (.tup (.cons (.var 3) (.cons (.var 5) .nil)))) .nil) .nil) .nil)
def f_places_b2 : Ss := (.cons (.forS (.nm 5) (.rng (.cons (.prim .len (.cons (.var 1) .nil)) (.cons (.prim .add (.cons (.prim .len (.cons (.var 4) .nil)) (.cons (.int 1) .nil))) .nil))) f_places_b1 [5]) .nil)
def f_places_r3 : Ss := (.cons (.ret (.mov 2)) .nil)
def f_places : Fn := .mk 12 [] 2 6 (.cons (.set (.nm 2) (.lst .nil)) (.cons (.forS (.tp [3, 4]) (.enum (.var 0)) f_places_b2 [3, 4, 5]) f_places_r3))
def f_l_book_k02_e1 : E := (.call f_l_text (.cons (.var 0) (.cons (.var 2) (.cons (.var 4) (.cons (.var 5) .nil)))))
def f_l_book_k02 : Fn := .mk 13 [] 1 6 (.cons (.set (.nm 1) (.call f_l_cell_at (.cons (.var 0) (.cons (.int 0) .nil)))) (.cons (.set (.nm 2) (.prim .idx (.cons (.lst (.cons (.str [97, 98]) (.cons (.str [97, 98, 99]) (.cons (.str [97, 98, 99, 100]) (.cons (.str [97, 122]) (.cons (.str [97]) (.cons (.str [97, 98, 99, 100, 101, 102, 103, 104, 105, 106, 107, 108, 109, 110, 111, 112, 113, 114, 115, 116, 117, 118, 119, 120, 121, 122]) .nil))))))) (.cons (.prim .mod (.cons (.prim .fdiv (.cons (.var 1) (.cons (.int 2) .nil))) (.cons (.int 6) .nil))) .nil)))) (.cons (.set (.nm 3) (.prim .idx (.cons (.lst (.cons (.int 1) (.cons (.int 2) (.cons (.int 3) (.cons (.int 4) (.cons (.int 2) (.cons (.int 1) (.cons (.int 0) (.cons (.int 8) .nil))))))))) (.cons (.prim .mod (.cons (.prim .fdiv (.cons (.var 1) (.cons (.int 12) .nil))) (.cons (.int 8) .nil))) .nil)))) (.cons (.set (.nm 4) (.prim .idx (.cons (.lst (.cons (.int 24) (.cons (.int 12) (.cons (.int 8) (.cons (.int 6) .nil))))) (.cons (.prim .sub (.cons (.prim .min2 (.cons (.var 3) (.cons (.int 4) .nil))) (.cons (.int 1) .nil))) .nil)))) (.cons (.ife (.prim .eq (.cons (.prim .mod (.cons (.prim .fdiv (.cons (.var 1) (.cons (.int 96) .nil))) (.cons (.int 8) .nil))) (.cons (.int 5) .nil))) (.cons (.set (.nm 4) (.prim .fdiv (.cons (.prim .idx (.cons (.lst (.cons (.int 60) (.cons (.int 120) .nil))) (.cons (.prim .mod (.cons (.prim .fdiv (.cons (.var 1) (.cons (.int 768) .nil))) (.cons (.int 2) .nil))) .nil))) (.cons (.prim .max2 (.cons (.int 1) (.cons (.var 3) .nil))) .nil)))) .nil) .nil) (.cons (.ife (.andE (.prim .eq (.cons (.var 3) (.cons (.int 8) .nil))) (.prim .ne (.cons (.prim .mod (.cons (.prim .fdiv (.cons (.var 1) (.cons (.int 96) .nil))) (.cons (.int 8) .nil))) (.cons (.int 5) .nil)))) (.cons (.set (.nm 4) (.int 3)) .nil) .nil) (.cons (.ret (.lc f_l_book_k02_e1 (.nm 5) (.rng (.cons (.var 3) .nil)) .nil [5])) .nil)))))))
def f_l_ends_b1 : Ss := (.cons (.ife (.prim .ne (.cons (.prim .idx (.cons (.var 0) (.cons (.prim .add (.cons (.prim .sub (.cons (.var 2) (.cons (.prim .len (.cons (.var 1) .nil)) .nil))) (.cons (.var 3) .nil))) .nil))) (.cons (.prim .idx (.cons (.var 1) (.cons (.var 3) .nil))) .nil))) (.cons (.ret (.bl false)) .nil) .nil) .nil)
def f_l_ends_r2 : Ss := (.cons (.ret (.bl true)) .nil)
def f_l_ends : Fn := .mk 14 [] 3 4 (.cons (.ife (.prim .lt (.cons (.var 2) (.cons (.prim .len (.cons (.var 1) .nil)) .nil))) (.cons (.ret (.bl false)) .nil) .nil) (.cons (.forS (.nm 3) (.rng (.cons (.prim .len (.cons (.var 1) .nil)) .nil)) f_l_ends_b1 [3]) f_l_ends_r2))
def f_l_due_b1 : Ss := (.cons (.ife (.call f_l_ends (.cons (.prim .idx (.cons (.var 0) (.cons (.var 3) .nil))) (.cons (.var 1) (.cons (.var 4) .nil)))) (.cons (.app (.var 2) (.tup (.cons (.var 3) (.cons (.var 4) .nil)))) .nil) .nil) .nil)
def f_l_due_b2 : Ss := (.cons (.forS (.nm 4) (.rng (.cons (.prim .add (.cons (.prim .len (.cons (.prim .idx (.cons (.var 0) (.cons (.var 3) .nil))) .nil)) (.cons (.int 1) .nil))) .nil)) f_l_due_b1 [4]) .nil)
def f_l_due_r3 : Ss := (.cons (.ret (.mov 2)) .nil)
def f_l_due : Fn := .mk 15 [] 2 5 (.cons (.set (.nm 2) (.lst .nil)) (.cons (.forS (.nm 3) (.rng (.cons (.prim .len (.cons (.var 0) .nil)) .nil)) f_l_due_b2 [3, 4]) f_l_due_r3))
def f_l_words : Fn := .mk 16 [] 2 8 (.cons (.ife (.prim .eq (.cons (.var 0) (.cons (.lst .nil) .nil))) (.cons (.ret (.lst (.cons (.str []) (.cons (.str [97]) (.cons (.str [98, 97]) .nil))))) .nil) .nil) (.cons (.set (.nm 2) (.prim .idx (.cons (.var 0) (.cons (.prim .mod (.cons (.var 1) (.cons (.prim .len (.cons (.var 0) .nil)) .nil))) .nil)))) (.cons (.set (.nm 3) (.prim .mod (.cons (.prim .fdiv (.cons (.var 1) (.cons (.int 8) .nil))) (.cons (.prim .add (.cons (.prim .len (.cons (.var 2) .nil)) (.cons (.int 1) .nil))) .nil)))) (.cons (.set (.nm 4) (.prim .cut (.cons (.var 2) (.cons (.var 3) (.cons (.prim .add (.cons (.var 3) (.cons (.prim .mod (.cons (.prim .fdiv (.cons (.var 1) (.cons (.int 512) .nil))) (.cons (.prim .add (.cons (.prim .sub (.cons (.prim .len (.cons (.var 2) .nil)) (.cons (.var 3) .nil))) (.cons (.int 1) .nil))) .nil))) .nil))) .nil))))) (.cons (.set (.nm 5) (.prim .mod (.cons (.prim .fdiv (.cons (.var 1) (.cons (.int 32768) .nil))) (.cons (.prim .add (.cons (.prim .len (.cons (.var 4) .nil)) (.cons (.int 1) .nil))) .nil)))) (.cons (.set (.nm 6) (.prim .idx (.cons (.str [97, 98, 99, 122]) (.cons (.prim .mod (.cons (.prim .fdiv (.cons (.var 1) (.cons (.int 7) .nil))) (.cons (.int 4) .nil))) .nil)))) (.cons (.set (.nm 7) (.lst (.cons (.str []) (.cons (.var 4) (.cons (.prim .add (.cons (.prim .add (.cons (.prim .cutTo (.cons (.var 4) (.cons (.var 5) .nil))) (.cons (.var 6) .nil))) (.cons (.prim .cutFrom (.cons (.var 4) (.cons (.prim .add (.cons (.var 5) (.cons (.int 1) .nil))) .nil))) .nil))) (.cons (.prim .add (.cons (.prim .add (.cons (.prim .cutTo (.cons (.var 4) (.cons (.var 5) .nil))) (.cons (.var 6) .nil))) (.cons (.prim .cutFrom (.cons (.var 4) (.cons (.var 5) .nil))) .nil))) .nil)))))) (.cons (.ret (.prim .add (.cons (.var 7) (.cons (.lst (.cons (.prim .add (.cons (.prim .cutTo (.cons (.var 4) (.cons (.var 5) .nil))) (.cons (.prim .cutFrom (.cons (.var 4) (.cons (.prim .add (.cons (.var 5) (.cons (.int 1) .nil))) .nil))) .nil))) (.cons (.prim .add (.cons (.var 2) (.cons (.var 6) .nil))) .nil))) .nil)))) .nil))))))))
def f_l_alike_b1 : Ss := (.cons (.ife (.orE (.notE (.prim (.isi 4) (.cons (.var 2) .nil))) (.orE (.prim (.isi 3) (.cons (.prim .idx (.cons (.var 2) (.cons (.int 0) .nil))) .nil)) (.prim (.isi 3) (.cons (.prim .idx (.cons (.var 2) (.cons (.int 1) .nil))) .nil)))) (.cons (.ret (.bl false)) .nil) .nil) .nil)
def f_l_alike_r2 : Ss := (.cons (.ret (.bl true)) .nil)
def f_l_alike : Fn := .mk 17 [] 2 3 (.cons (.ife (.orE (.notE (.prim (.isi 1) (.cons (.var 0) .nil))) (.prim .ne (.cons (.var 0) (.cons (.var 1) .nil)))) (.cons (.ret (.bl false)) .nil) .nil) (.cons (.forS (.nm 2) (.val (.var 0)) f_l_alike_b1 [2]) f_l_alike_r2))
def f_law_k02_b1 : Ss := (.cons (.set (.nm 5) (.call f_l_due (.cons (.var 1) (.cons (.var 4) .nil)))) (.cons (.frz 5) (.cons (.set (.nm 6) (.call f_places (.cons (.var 2) (.cons (.var 4) .nil)))) (.cons (.ife (.orE (.notE (.call f_l_alike (.cons (.var 6) (.cons (.var 5) .nil)))) (.prim .ne (.cons (.var 2) (.cons (.var 1) .nil)))) (.cons (.ret (.bl false)) .nil) .nil) (.cons (.app (.var 6) (.tup (.cons (.int 0) (.cons (.int 0) .nil)))) (.cons (.ife (.prim .ne (.cons (.call f_places (.cons (.var 2) (.cons (.var 4) .nil))) (.cons (.var 5) .nil))) (.cons (.ret (.bl false)) .nil) .nil) .nil))))))
def f_law_k02_b2 : Ss := (.cons (.forS (.nm 4) (.val (.call f_l_words (.cons (.var 1) (.cons (.prim .add (.cons (.call f_l_cell_at (.cons (.var 0) (.cons (.prim .add (.cons (.int 12) (.cons (.var 3) .nil))) .nil))) (.cons (.prim .mul (.cons (.int 524309) (.cons (.var 3) .nil))) .nil))) .nil)))) f_law_k02_b1 [4, 5, 6]) .nil)
def f_law_k02_r3 : Ss := (.cons (.ret (.bl true)) .nil)
def f_law_k02 : Fn := .mk 18 [] 1 7 (.cons (.set (.nm 1) (.call f_l_book_k02 (.cons (.var 0) .nil))) (.cons (.frz 1) (.cons (.set (.nm 2) (.prim .list (.cons (.var 1) .nil))) (.cons (.frz 2) (.cons (.forS (.nm 3) (.rng (.cons (.int 6) .nil)) f_law_k02_b2 [3, 4, 5, 6]) f_law_k02_r3)))))
def f_parts_of_b1 : Ss := (.cons (.setIx (.var 2) (.prim .cut (.cons (.var 3) (.cons (.var 4) (.cons (.prim .add (.cons (.var 4) (.cons (.var 1) .nil))) .nil)))) (.bl true)) .nil)
def f_parts_of_b2 : Ss := (.cons (.forS (.nm 4) (.rng (.cons (.prim .sub (.cons (.prim .add (.cons (.prim .len (.cons (.var 3) .nil)) (.cons (.int 1) .nil))) (.cons (.var 1) .nil))) .nil)) f_parts_of_b1 [4]) .nil)
def f_parts_of_r3 : Ss := (.cons (.ret (.prim .sorted (.cons (.var 2) .nil))) .nil)
def f_parts_of : Fn := .mk 19 [] 2 5 (.cons (.set (.nm 2) (.dic0 false)) (.cons (.ife (.prim .eq (.cons (.var 1) (.cons (.int 0) .nil))) (.cons (.setIx (.var 2) (.str []) (.bl true)) .nil) .nil) (.cons (.forS (.nm 3) (.val (.var 0)) f_parts_of_b2 [3, 4]) f_parts_of_r3)))
def f_l_due_k03_b1 : Ss := (.cons (.setIx (.var 2) (.prim .join (.cons (.str []) (.cons (.prim .cutTo (.cons (.var 4) (.cons (.var 1) .nil))) .nil))) (.bl true)) (.cons (.exp (.pop 4 (.int 0))) .nil))
def f_l_due_k03_b2 : Ss := (.cons (.set (.nm 4) (.prim .list (.cons (.var 3) .nil))) (.cons (.whl (.andE (.prim .ge (.cons (.prim .len (.cons (.var 4) .nil)) (.cons (.var 1) .nil))) (.prim .gt (.cons (.var 1) (.cons (.int 0) .nil)))) f_l_due_k03_b1 []) .nil))
def f_l_due_k03_r3 : Ss := (.cons (.ret (.prim .sorted (.cons (.var 2) .nil))) .nil)
def f_l_due_k03 : Fn := .mk 20 [] 2 5 (.cons (.set (.nm 2) (.dic0 false)) (.cons (.ife (.prim .eq (.cons (.var 1) (.cons (.int 0) .nil))) (.cons (.setIx (.var 2) (.str []) (.bl true)) .nil) .nil) (.cons (.forS (.nm 3) (.val (.var 0)) f_l_due_k03_b2 [3, 4]) f_l_due_k03_r3)))
def f_law_k03_e1 : E := (.prim .len (.cons (.var 6) .nil))
def f_law_k03_e2 : E := (.prim (.isi 0) (.cons (.var 7) .nil))
def f_law_k03_b3 : Ss := (.cons (.set (.nm 4) (.call f_l_due_k03 (.cons (.var 1) (.cons (.var 3) .nil)))) (.cons (.frz 4) (.cons (.set (.nm 5) (.call f_parts_of (.cons (.var 2) (.cons (.var 3) .nil)))) (.cons (.ife (.orE (.notE (.prim (.isi 1) (.cons (.var 5) .nil))) (.orE (.prim .ne (.cons (.var 5) (.cons (.var 4) .nil))) (.notE (.prim .all (.cons (.lc f_law_k03_e2 (.nm 7) (.val (.var 5)) .nil [7]) .nil))))) (.cons (.ret (.bl false)) .nil) .nil) (.cons (.app (.var 5) (.str [122, 122])) (.cons (.ife (.orE (.prim .ne (.cons (.call f_parts_of (.cons (.var 2) (.cons (.var 3) .nil))) (.cons (.var 4) .nil))) (.prim .ne (.cons (.var 2) (.cons (.var 1) .nil)))) (.cons (.ret (.bl false)) .nil) .nil) .nil))))))
def f_law_k03_r4 : Ss := (.cons (.ret (.bl true)) .nil)
def f_law_k03 : Fn := .mk 21 [] 1 8 (.cons (.set (.nm 1) (.call f_l_book_k02 (.cons (.var 0) .nil))) (.cons (.frz 1) (.cons (.set (.nm 2) (.prim .list (.cons (.var 1) .nil))) (.cons (.frz 2) (.cons (.forS (.nm 3) (.rng (.cons (.prim .add (.cons (.prim .max1 (.cons (.prim .add (.cons (.lst (.cons (.int 0) .nil)) (.cons (.lc f_law_k03_e1 (.nm 6) (.val (.var 1)) .nil [6]) .nil))) .nil)) (.cons (.int 3) .nil))) .nil)) f_law_k03_b3 [3, 4, 5]) f_law_k03_r4)))))
def f_l_right_b1 : Ss := (.cons (.ife (.orE (.prim .isin (.cons (.tup (.cons (.var 5) (.cons (.var 7) .nil))) (.cons (.var 2) .nil))) (.prim .ne (.cons (.prim .cut (.cons (.prim .idx (.cons (.var 0) (.cons (.var 5) .nil))) (.cons (.prim .sub (.cons (.var 7) (.cons (.var 1) .nil))) (.cons (.var 7) .nil)))) (.cons (.var 3) .nil)))) (.cons (.ret (.bl false)) .nil) .nil) (.cons (.setIx (.var 2) (.tup (.cons (.var 5) (.cons (.var 7) .nil))) (.bl true)) .nil))
def f_l_right_b2 : Ss := (.cons (.ife (.orE (.prim .notin (.cons (.tup (.cons (.var 5) (.cons (.var 7) .nil))) (.cons (.var 8) .nil))) (.prim .notin (.cons (.tup (.cons (.var 5) (.cons (.prim .sub (.cons (.var 7) (.cons (.int 1) .nil))) .nil))) (.cons (.var 9) .nil)))) (.cons (.ret (.bl false)) .nil) .nil) .nil)
def f_l_right_r3 : Ss := (.cons (.ife (.prim .gt (.cons (.var 1) (.cons (.int 0) .nil))) (.cons (.set (.nm 8) (.call f_places (.cons (.var 0) (.cons (.prim .cutFrom (.cons (.var 3) (.cons (.int 1) .nil))) .nil)))) (.cons (.set (.nm 9) (.call f_places (.cons (.var 0) (.cons (.prim .cutTo (.cons (.var 3) (.cons (.prim .neg (.cons (.int 1) .nil)) .nil))) .nil)))) (.cons (.forS (.tp [5, 7]) (.val (.var 6)) f_l_right_b2 [5, 7]) .nil))) .nil) .nil)
def f_l_right_b4 : Ss := (.cons (.set (.nm 6) (.call f_places (.cons (.var 0) (.cons (.var 3) .nil)))) (.cons (.frz 6) (.cons (.ife (.orE (.prim .ne (.cons (.prim .len (.cons (.var 3) .nil)) (.cons (.var 1) .nil))) (.andE (.prim .eq (.cons (.var 6) (.cons (.lst .nil) .nil))) (.orE (.prim .gt (.cons (.var 1) (.cons (.int 0) .nil))) (.prim .ne (.cons (.var 0) (.cons (.lst .nil) .nil)))))) (.cons (.ret (.bl false)) .nil) .nil) (.cons (.frz 6) (.cons (.forS (.tp [5, 7]) (.val (.var 6)) f_l_right_b1 [5, 7]) f_l_right_r3)))))
def f_l_right_e5 : E := (.tup (.cons (.var 5) (.cons (.var 7) .nil)))
def f_l_right_b6 : Ss := (.cons (.set (.nm 4) (.prim .add (.cons (.var 4) (.cons (.lc f_l_right_e5 (.nm 7) (.rng (.cons (.var 1) (.cons (.prim .add (.cons (.prim .len (.cons (.prim .idx (.cons (.var 0) (.cons (.var 5) .nil))) .nil)) (.cons (.int 1) .nil))) .nil))) .nil [7]) .nil)))) .nil)
def f_l_right_r7 : Ss := (.cons (.ret (.prim .eq (.cons (.prim .sorted (.cons (.var 2) .nil)) (.cons (.var 4) .nil)))) .nil)
def f_l_right_r8 : Ss := (.cons (.frz 2) (.cons (.set (.nm 4) (.lst .nil)) (.cons (.forS (.nm 5) (.rng (.cons (.prim .len (.cons (.var 0) .nil)) .nil)) f_l_right_b6 [5]) f_l_right_r7)))
def f_l_right : Fn := .mk 22 [] 2 10 (.cons (.set (.nm 2) (.dic0 true)) (.cons (.forS (.nm 3) (.val (.call f_parts_of (.cons (.var 0) (.cons (.var 1) .nil)))) f_l_right_b4 [3, 5, 6, 7, 8, 9]) f_l_right_r8))
def f_law_k04_e1 : E := (.prim .len (.cons (.var 7) .nil))
def f_law_k04_b2 : Ss := (.cons (.ife (.notE (.call f_l_right (.cons (.var 1) (.cons (.var 3) .nil)))) (.cons (.ret (.bl false)) .nil) .nil) .nil)
def f_law_k04_e3 : E := (.prim .idx (.cons (.str [97, 98, 99, 122]) (.cons (.prim .mod (.cons (.prim .fdiv (.cons (.var 5) (.cons (.prim .idx (.cons (.lst (.cons (.int 1) (.cons (.int 4) (.cons (.int 16) (.cons (.int 64) (.cons (.int 256) .nil)))))) (.cons (.var 8) .nil))) .nil))) (.cons (.int 4) .nil))) .nil)))
def f_law_k04_b4 : Ss := (.cons (.set (.nm 5) (.prim .add (.cons (.call f_l_cell_at (.cons (.var 0) (.cons (.prim .add (.cons (.int 12) (.cons (.var 4) .nil))) .nil))) (.cons (.prim .mul (.cons (.int 1000003) (.cons (.var 4) .nil))) .nil)))) (.cons (.set (.nm 6) (.prim .join (.cons (.str []) (.cons (.lc f_law_k04_e3 (.nm 8) (.rng (.cons (.prim .add (.cons (.int 1) (.cons (.prim .mod (.cons (.var 5) (.cons (.int 5) .nil))) .nil))) .nil)) .nil [8]) .nil)))) (.cons (.ife (.prim .ne (.cons (.prim .ne (.cons (.call f_places (.cons (.var 1) (.cons (.var 6) .nil))) (.cons (.lst .nil) .nil))) (.cons (.prim .isin (.cons (.var 6) (.cons (.call f_parts_of (.cons (.var 1) (.cons (.prim .len (.cons (.var 6) .nil)) .nil))) .nil))) .nil))) (.cons (.ret (.bl false)) .nil) .nil) .nil)))
def f_law_k04_r5 : Ss := (.cons (.ret (.bl true)) .nil)
def f_law_k04_r6 : Ss := (.cons (.forS (.nm 4) (.rng (.cons (.int 6) .nil)) f_law_k04_b4 [4, 5, 6]) f_law_k04_r5)
def f_law_k04 : Fn := .mk 23 [] 1 9 (.cons (.set (.nm 1) (.call f_l_book (.cons (.var 0) .nil))) (.cons (.frz 1) (.cons (.set (.nm 2) (.prim .max1 (.cons (.prim .add (.cons (.lst (.cons (.int 0) .nil)) (.cons (.lc f_law_k04_e1 (.nm 7) (.val (.var 1)) .nil [7]) .nil))) .nil))) (.cons (.frz 2) (.cons (.forS (.nm 3) (.rng (.cons (.prim .add (.cons (.var 2) (.cons (.int 1) .nil))) .nil)) f_law_k04_b2 [3]) f_law_k04_r6)))))
def f_way_of_b1 : Ss := (.cons (.ife (.prim .eq (.cons (.var 3) (.cons (.var 2) .nil))) (.cons (.ret (.mov 4)) .nil) .nil) .nil)
def f_way_of_r2 : Ss := (.cons (.ret .non) .nil)
def f_way_of : Fn := .mk 59 [] 3 5 (.cons (.forS (.tp [3, 4]) (.val (.prim .idx (.cons (.prim .idx (.cons (.var 0) (.cons (.var 1) .nil))) (.cons (.int 3) .nil)))) f_way_of_b1 [3, 4]) f_way_of_r2)
def f_walk_b1 : Ss := (.cons (.set (.nm 4) (.call f_way_of (.cons (.var 0) (.cons (.prim .idx (.cons (.var 2) (.cons (.prim .neg (.cons (.int 1) .nil)) .nil))) (.cons (.var 3) .nil))))) (.cons (.frz 4) (.cons (.ife (.prim .isN (.cons (.var 4) .nil)) (.cons (.ret (.mov 2)) .nil) .nil) (.cons (.app (.var 2) (.var 4)) .nil))))
def f_walk_r2 : Ss := (.cons (.ret (.mov 2)) .nil)
def f_walk : Fn := .mk 60 [] 2 5 (.cons (.set (.nm 2) (.lst (.cons (.int 0) .nil))) (.cons (.forS (.nm 3) (.val (.var 1)) f_walk_b1 [3, 4]) f_walk_r2))
def f_l_cell : Fn := .mk 61 [] 2 2 (.cons (.ife (.prim .lt (.cons (.var 1) (.cons (.prim .len (.cons (.var 0) .nil)) .nil))) (.cons (.ret (.prim .idx (.cons (.var 0) (.cons (.var 1) .nil)))) .nil) .nil) (.cons (.ret (.int 0)) .nil))
def f_l_mixed_k13 : Fn := .mk 62 [] 2 4 (.cons (.set (.nm 2) (.int 7)) (.cons (.ife (.prim .gt (.cons (.prim .len (.cons (.var 0) .nil)) (.cons (.int 0) .nil))) (.cons (.set (.nm 2) (.prim .idx (.cons (.var 0) (.cons (.prim .mod (.cons (.var 1) (.cons (.prim .len (.cons (.var 0) .nil)) .nil))) .nil)))) .nil) .nil) (.cons (.set (.nm 3) (.prim .mod (.cons (.prim .mul (.cons (.prim .add (.cons (.prim .add (.cons (.prim .mod (.cons (.var 2) (.cons (.int 2147483629) .nil))) (.cons (.prim .mul (.cons (.int 40503) (.cons (.var 1) .nil))) .nil))) (.cons (.int 1) .nil))) (.cons (.int 48271) .nil))) (.cons (.int 2147483647) .nil)))) (.cons (.set (.nm 3) (.prim .mod (.cons (.prim .mul (.cons (.var 3) (.cons (.var 3) .nil))) (.cons (.int 2147483629) .nil)))) (.cons (.set (.nm 3) (.prim .mod (.cons (.prim .mul (.cons (.prim .add (.cons (.var 3) (.cons (.var 1) .nil))) (.cons (.int 69621) .nil))) (.cons (.int 2147483587) .nil)))) (.cons (.ret (.prim .fdiv (.cons (.prim .mod (.cons (.prim .mul (.cons (.var 3) (.cons (.var 3) .nil))) (.cons (.int 2147483563) .nil))) (.cons (.int 3) .nil)))) .nil))))))
def f_l_signs_e1 : E := (.prim .idx (.cons (.str [97, 98, 99, 100, 101, 102, 103, 104, 105, 106, 107, 108, 109, 110, 111, 112, 113, 114, 115, 116, 117, 118, 119, 120, 121, 122]) (.cons (.prim .mod (.cons (.prim .add (.cons (.var 1) (.cons (.prim .mul (.cons (.var 2) (.cons (.var 3) .nil))) .nil))) (.cons (.int 26) .nil))) .nil)))
def f_l_signs : Fn := .mk 63 [] 1 4 (.cons (.set (.nm 1) (.prim .mod (.cons (.var 0) (.cons (.int 26) .nil)))) (.cons (.set (.nm 2) (.prim .idx (.cons (.lst (.cons (.int 1) (.cons (.int 3) (.cons (.int 5) (.cons (.int 7) (.cons (.int 9) .nil)))))) (.cons (.prim .mod (.cons (.prim .fdiv (.cons (.var 0) (.cons (.int 26) .nil))) (.cons (.int 5) .nil))) .nil)))) (.cons (.ret (.lc f_l_signs_e1 (.nm 3) (.rng (.cons (.int 26) .nil)) .nil [3])) .nil)))
def f_l_by_digits_b1 : Ss := (.cons (.set (.nm 8) (.prim .add (.cons (.var 8) (.cons (.prim .idx (.cons (.var 1) (.cons (.prim .mod (.cons (.var 0) (.cons (.var 2) .nil))) .nil))) .nil)))) (.cons (.set (.nm 0) (.prim .fdiv (.cons (.var 0) (.cons (.var 2) .nil)))) .nil))
def f_l_by_digits_r2 : Ss := (.cons (.app (.var 5) (.var 8)) .nil)
def f_l_by_digits_b3 : Ss := (.cons (.set (.nm 7) (.prim .min2 (.cons (.var 4) (.cons (.prim .mod (.cons (.var 0) (.cons (.int 25) .nil))) .nil)))) (.cons (.frz 7) (.cons (.set (.nm 0) (.prim .fdiv (.cons (.var 0) (.cons (.int 25) .nil)))) (.cons (.set (.nm 4) (.prim .sub (.cons (.var 4) (.cons (.var 7) .nil)))) (.cons (.set (.nm 8) (.str [])) (.cons (.forS (.nm 9) (.rng (.cons (.var 7) .nil)) f_l_by_digits_b1 [9]) f_l_by_digits_r2))))))
def f_l_by_digits_r4 : Ss := (.cons (.ret (.mov 5)) .nil)
def f_l_by_digits : Fn := .mk 64 [] 1 10 (.cons (.set (.nm 1) (.call f_l_signs (.cons (.var 0) .nil))) (.cons (.frz 1) (.cons (.set (.nm 2) (.prim .idx (.cons (.lst (.cons (.int 1) (.cons (.int 2) (.cons (.int 3) (.cons (.int 4) (.cons (.int 2) (.cons (.int 3) (.cons (.int 4) (.cons (.int 26) .nil))))))))) (.cons (.prim .mod (.cons (.prim .fdiv (.cons (.var 0) (.cons (.int 130) .nil))) (.cons (.int 8) .nil))) .nil)))) (.cons (.frz 2) (.cons (.set (.nm 3) (.prim .mod (.cons (.prim .fdiv (.cons (.var 0) (.cons (.int 1040) .nil))) (.cons (.int 5) .nil)))) (.cons (.set (.nm 0) (.prim .fdiv (.cons (.var 0) (.cons (.int 5200) .nil)))) (.cons (.set (.nm 4) (.int 24)) (.cons (.set (.nm 5) (.lst .nil)) (.cons (.forS (.nm 6) (.rng (.cons (.var 3) .nil)) f_l_by_digits_b3 [6, 7, 8, 9]) f_l_by_digits_r4)))))))))
def f_l_by_mixing_b1 : Ss := (.cons (.set (.nm 11) (.call f_l_mixed_k13 (.cons (.var 0) (.cons (.prim .add (.cons (.prim .add (.cons (.prim .mul (.cons (.int 20) (.cons (.var 6) .nil))) (.cons (.int 6) .nil))) (.cons (.var 10) .nil))) .nil)))) (.cons (.ife (.andE (.prim .ge (.cons (.prim .len (.cons (.var 9) .nil)) (.cons (.var 8) .nil))) (.prim .gt (.cons (.prim .mod (.cons (.var 11) (.cons (.int 4) .nil))) (.cons (.int 0) .nil)))) (.cons (.set (.nm 9) (.prim .add (.cons (.var 9) (.cons (.prim .idx (.cons (.var 9) (.cons (.prim .sub (.cons (.prim .len (.cons (.var 9) .nil)) (.cons (.var 8) .nil))) .nil))) .nil)))) .nil) (.cons (.set (.nm 9) (.prim .add (.cons (.var 9) (.cons (.prim .idx (.cons (.var 2) (.cons (.prim .mod (.cons (.prim .fdiv (.cons (.var 11) (.cons (.int 4) .nil))) (.cons (.var 3) .nil))) .nil))) .nil)))) .nil)) .nil))
def f_l_by_mixing_r2 : Ss := (.cons (.app (.var 5) (.var 9)) (.cons (.ife (.andE (.prim .gt (.cons (.var 7) (.cons (.int 2) .nil))) (.andE (.prim .eq (.cons (.prim .mod (.cons (.call f_l_mixed_k13 (.cons (.var 0) (.cons (.prim .add (.cons (.prim .mul (.cons (.int 20) (.cons (.var 6) .nil))) (.cons (.int 5) .nil))) .nil))) (.cons (.int 3) .nil))) (.cons (.int 0) .nil))) (.prim .ge (.cons (.var 4) (.cons (.int 2) .nil))))) (.cons (.app (.var 5) (.prim .cut (.cons (.var 9) (.cons (.int 1) (.cons (.int 3) .nil))))) (.cons (.set (.nm 4) (.prim .sub (.cons (.var 4) (.cons (.int 2) .nil)))) .nil)) .nil) .nil))
def f_l_by_mixing_b3 : Ss := (.cons (.set (.nm 7) (.prim .min2 (.cons (.var 4) (.cons (.prim .mod (.cons (.call f_l_mixed_k13 (.cons (.var 0) (.cons (.prim .add (.cons (.prim .mul (.cons (.int 20) (.cons (.var 6) .nil))) (.cons (.int 4) .nil))) .nil))) (.cons (.prim .add (.cons (.var 1) (.cons (.int 1) .nil))) .nil))) .nil)))) (.cons (.frz 7) (.cons (.set (.nm 4) (.prim .sub (.cons (.var 4) (.cons (.var 7) .nil)))) (.cons (.set (.nm 8) (.prim .add (.cons (.int 1) (.cons (.prim .mod (.cons (.call f_l_mixed_k13 (.cons (.var 0) (.cons (.prim .add (.cons (.prim .mul (.cons (.int 20) (.cons (.var 6) .nil))) (.cons (.int 5) .nil))) .nil))) (.cons (.int 5) .nil))) .nil)))) (.cons (.set (.nm 9) (.str [])) (.cons (.forS (.nm 10) (.rng (.cons (.var 7) .nil)) f_l_by_mixing_b1 [10, 11]) f_l_by_mixing_r2))))))
def f_l_by_mixing_r4 : Ss := (.cons (.ret (.prim .cutTo (.cons (.var 5) (.cons (.int 8) .nil)))) .nil)
def f_l_by_mixing : Fn := .mk 65 [] 2 12 (.cons (.set (.nm 2) (.call f_l_signs (.cons (.call f_l_mixed_k13 (.cons (.var 0) (.cons (.int 1) .nil))) .nil))) (.cons (.frz 2) (.cons (.set (.nm 3) (.prim .idx (.cons (.lst (.cons (.int 1) (.cons (.int 2) (.cons (.int 3) (.cons (.int 4) (.cons (.int 2) (.cons (.int 3) (.cons (.int 9) (.cons (.int 26) .nil))))))))) (.cons (.prim .mod (.cons (.call f_l_mixed_k13 (.cons (.var 0) (.cons (.int 2) .nil))) (.cons (.int 8) .nil))) .nil)))) (.cons (.frz 3) (.cons (.set (.nm 4) (.var 1)) (.cons (.set (.nm 5) (.lst .nil)) (.cons (.forS (.nm 6) (.rng (.cons (.prim .mod (.cons (.call f_l_mixed_k13 (.cons (.var 0) (.cons (.int 3) .nil))) (.cons (.int 6) .nil))) .nil)) f_l_by_mixing_b3 [6, 7, 8, 9, 10, 11]) f_l_by_mixing_r4)))))))
def f_l_great : Fn := .mk 66 [] 1 4 (.cons (.set (.nm 1) (.call f_l_signs (.cons (.call f_l_mixed_k13 (.cons (.var 0) (.cons (.int 1) .nil))) .nil))) (.cons (.set (.nm 2) (.prim .mul (.cons (.prim .idx (.cons (.var 1) (.cons (.int 0) .nil))) (.cons (.prim .add (.cons (.int 100) (.cons (.prim .mod (.cons (.call f_l_mixed_k13 (.cons (.var 0) (.cons (.int 2) .nil))) (.cons (.int 21) .nil))) .nil))) .nil)))) (.cons (.ife (.prim .eq (.cons (.prim .mod (.cons (.call f_l_mixed_k13 (.cons (.var 0) (.cons (.int 3) .nil))) (.cons (.int 2) .nil))) (.cons (.int 0) .nil))) (.cons (.set (.nm 3) (.prim .mod (.cons (.call f_l_mixed_k13 (.cons (.var 0) (.cons (.int 4) .nil))) (.cons (.prim .len (.cons (.var 2) .nil)) .nil)))) (.cons (.set (.nm 2) (.prim .add (.cons (.prim .add (.cons (.prim .cutTo (.cons (.var 2) (.cons (.var 3) .nil))) (.cons (.prim .idx (.cons (.var 1) (.cons (.int 1) .nil))) .nil))) (.cons (.prim .cutFrom (.cons (.var 2) (.cons (.prim .add (.cons (.var 3) (.cons (.int 1) .nil))) .nil))) .nil)))) .nil)) .nil) (.cons (.ret (.lst (.cons (.var 2) .nil))) .nil))))
def f_l_book_k13 : Fn := .mk 67 [] 2 2 (.cons (.ife (.prim .eq (.cons (.prim .mod (.cons (.call f_l_cell (.cons (.var 0) (.cons (.int 0) .nil))) (.cons (.int 2) .nil))) (.cons (.int 0) .nil))) (.cons (.ret (.call f_l_by_digits (.cons (.prim .fdiv (.cons (.call f_l_cell (.cons (.var 0) (.cons (.int 0) .nil))) (.cons (.int 2) .nil))) .nil))) .nil) .nil) (.cons (.ife (.andE (.prim .gt (.cons (.var 1) (.cons (.int 30) .nil))) (.prim .eq (.cons (.prim .mod (.cons (.call f_l_mixed_k13 (.cons (.var 0) (.cons (.int 5) .nil))) (.cons (.int 16) .nil))) (.cons (.int 0) .nil)))) (.cons (.ret (.call f_l_great (.cons (.var 0) .nil))) .nil) .nil) (.cons (.ret (.call f_l_by_mixing (.cons (.var 0) (.cons (.prim .idx (.cons (.lst (.cons (.int 24) (.cons (.int 24) (.cons (.int 24) (.cons (.var 1) .nil))))) (.cons (.prim .mod (.cons (.call f_l_mixed_k13 (.cons (.var 0) (.cons (.int 0) .nil))) (.cons (.int 4) .nil))) .nil))) .nil)))) .nil)))
def f_l_places_b1 : Ss := (.cons (.sdApp (.var 1) (.prim .cut (.cons (.var 3) (.cons (.var 5) (.cons (.var 4) .nil)))) (.tup (.cons (.var 2) (.cons (.var 4) .nil)))) .nil)
def f_l_places_b2 : Ss := (.cons (.forS (.nm 5) (.rng (.cons (.prim .add (.cons (.var 4) (.cons (.int 1) .nil))) .nil)) f_l_places_b1 [5]) .nil)
def f_l_places_b3 : Ss := (.cons (.forS (.nm 4) (.rng (.cons (.prim .add (.cons (.prim .len (.cons (.var 3) .nil)) (.cons (.int 1) .nil))) .nil)) f_l_places_b2 [4, 5]) .nil)
def f_l_places_r4 : Ss := (.cons (.ret (.mov 1)) .nil)
def f_l_places : Fn := .mk 68 [] 1 6 (.cons (.set (.nm 1) (.dic (.cons (.str []) .nil) (.cons (.lst .nil) .nil))) (.cons (.forS (.tp [2, 3]) (.enum (.var 0)) f_l_places_b3 [2, 3, 4, 5]) f_l_places_r4))
def f_l_by_size : Fn := .mk 69 [] 1 1 (.cons (.ret (.tup (.cons (.prim .len (.cons (.var 0) .nil)) (.cons (.var 0) .nil)))) .nil)
def f_l_stands_b1 : Ss := (.cons (.sdApp (.var 1) (.prim .tuple (.cons (.prim .idx (.cons (.var 0) (.cons (.var 2) .nil))) .nil)) (.var 2)) .nil)
def f_l_stands_e2 : E := (.prim .idx (.cons (.var 1) (.cons (.var 3) .nil)))
def f_l_stands_r3 : Ss := (.cons (.frz 1) (.cons (.ret (.lc f_l_stands_e2 (.nm 3) (.keys 1) .nil [3])) .nil))
def f_l_stands : Fn := .mk 70 [] 1 4 (.cons (.set (.nm 1) (.dic0 true)) (.cons (.forS (.nm 2) (.val (.sortK f_l_by_size (.var 0))) f_l_stands_b1 [2]) f_l_stands_r3))
def f_l_numbers_b1 : Ss := (.cons (.setIx (.var 1) (.var 4) (.var 2)) .nil)
def f_l_numbers_b2 : Ss := (.cons (.frz 3) (.cons (.forS (.nm 4) (.val (.var 3)) f_l_numbers_b1 [4]) .nil))
def f_l_numbers_r3 : Ss := (.cons (.ret (.mov 1)) .nil)
def f_l_numbers : Fn := .mk 71 [] 1 5 (.cons (.set (.nm 1) (.dic0 false)) (.cons (.forS (.tp [2, 3]) (.enum (.var 0)) f_l_numbers_b2 [2, 3, 4]) f_l_numbers_r3))
def f_l_table_b1 : Ss := (.cons (.ife (.prim .isin (.cons (.prim .add (.cons (.prim .idx (.cons (.var 3) (.cons (.int 0) .nil))) (.cons (.var 5) .nil))) (.cons (.var 1) .nil))) (.cons (.app (.var 4) (.tup (.cons (.var 5) (.cons (.prim .idx (.cons (.var 1) (.cons (.prim .add (.cons (.prim .idx (.cons (.var 3) (.cons (.int 0) .nil))) (.cons (.var 5) .nil))) .nil))) .nil)))) .nil) .nil) .nil)
def f_l_table_r2 : Ss := (.cons (.frz 4) (.cons (.set (.nm 6) .non) (.cons (.ife (.prim .ne (.cons (.prim .idx (.cons (.var 3) (.cons (.int 0) .nil))) (.cons (.str []) .nil))) (.cons (.set (.nm 6) (.prim .idx (.cons (.var 1) (.cons (.prim .cutFrom (.cons (.prim .idx (.cons (.var 3) (.cons (.int 0) .nil))) (.cons (.int 1) .nil))) .nil)))) .nil) .nil) (.cons (.app (.var 2) (.tup (.cons (.prim .len (.cons (.prim .idx (.cons (.var 3) (.cons (.int 0) .nil))) .nil)) (.cons (.prim .len (.cons (.prim .idx (.cons (.var 3) (.cons (.prim .neg (.cons (.int 1) .nil)) .nil))) .nil)) (.cons (.var 6) (.cons (.prim .tuple (.cons (.var 4) .nil)) .nil)))))) .nil))))
def f_l_table_b3 : Ss := (.cons (.set (.nm 4) (.lst .nil)) (.cons (.forS (.nm 5) (.val (.str [97, 98, 99, 100, 101, 102, 103, 104, 105, 106, 107, 108, 109, 110, 111, 112, 113, 114, 115, 116, 117, 118, 119, 120, 121, 122])) f_l_table_b1 [5]) f_l_table_r2))
def f_l_table_r4 : Ss := (.cons (.ret (.mov 2)) .nil)
def f_l_table : Fn := .mk 72 [] 2 7 (.cons (.set (.nm 2) (.lst .nil)) (.cons (.forS (.nm 3) (.val (.var 0)) f_l_table_b3 [3, 4, 5, 6]) f_l_table_r4))
def f_l_whole_k13 : Fn := .mk 73 [] 1 1 (.cons (.ret (.andE (.prim (.isi 2) (.cons (.var 0) .nil)) (.notE (.prim (.isi 3) (.cons (.var 0) .nil))))) .nil)
def f_l_same_k13_e1 : E := (.var 2)
def f_l_same_k13 : Fn := .mk 74 [] 2 3 (.cons (.ife (.orE (.notE (.prim (.isi 1) (.cons (.var 0) .nil))) (.prim .ne (.cons (.var 0) (.cons (.var 1) .nil)))) (.cons (.ret (.bl false)) .nil) .nil) (.cons (.ret (.prim .eq (.cons (.prim .len (.cons (.lc f_l_same_k13_e1 (.nm 2) (.val (.var 0)) (.cons (.call f_l_whole_k13 (.cons (.var 2) .nil)) .nil) [2]) .nil)) (.cons (.prim .len (.cons (.var 1) .nil)) .nil)))) .nil))
def f_l_word : Fn := .mk 75 [] 3 10 (.cons (.set (.nm 3) (.call f_l_mixed_k13 (.cons (.var 0) (.cons (.prim .add (.cons (.int 300) (.cons (.prim .mul (.cons (.int 7) (.cons (.var 2) .nil))) .nil))) .nil)))) (.cons (.set (.nm 4) (.str [])) (.cons (.set (.nm 5) (.str [])) (.cons (.ife (.prim .gt (.cons (.prim .len (.cons (.var 1) .nil)) (.cons (.int 0) .nil))) (.cons (.set (.nm 5) (.prim .idx (.cons (.var 1) (.cons (.prim .mod (.cons (.var 3) (.cons (.prim .len (.cons (.var 1) .nil)) .nil))) .nil)))) (.cons (.set (.nm 9) (.prim .mod (.cons (.prim .fdiv (.cons (.var 3) (.cons (.int 8) .nil))) (.cons (.prim .add (.cons (.prim .len (.cons (.var 5) .nil)) (.cons (.int 1) .nil))) .nil)))) (.cons (.set (.nm 4) (.prim .cut (.cons (.var 5) (.cons (.var 9) (.cons (.prim .add (.cons (.var 9) (.cons (.prim .mod (.cons (.prim .fdiv (.cons (.var 3) (.cons (.int 1000) .nil))) (.cons (.prim .idx (.cons (.lst (.cons (.int 30) (.cons (.int 121) .nil))) (.cons (.prim .int1 (.cons (.prim .gt (.cons (.prim .len (.cons (.var 5) .nil)) (.cons (.int 60) .nil))) .nil)) .nil))) .nil))) .nil))) .nil))))) .nil))) .nil) (.cons (.set (.nm 6) (.prim .mod (.cons (.call f_l_mixed_k13 (.cons (.var 0) (.cons (.prim .add (.cons (.int 301) (.cons (.prim .mul (.cons (.int 7) (.cons (.var 2) .nil))) .nil))) .nil))) (.cons (.prim .add (.cons (.prim .len (.cons (.var 4) .nil)) (.cons (.int 1) .nil))) .nil)))) (.cons (.set (.nm 7) (.prim .idx (.cons (.str [97, 98, 99, 100, 101, 102, 103, 104, 105, 106, 107, 108, 109, 110, 111, 112, 113, 114, 115, 116, 117, 118, 119, 120, 121, 122]) (.cons (.prim .mod (.cons (.call f_l_mixed_k13 (.cons (.var 0) (.cons (.prim .add (.cons (.int 302) (.cons (.prim .mul (.cons (.int 7) (.cons (.var 2) .nil))) .nil))) .nil))) (.cons (.int 26) .nil))) .nil)))) (.cons (.ife (.andE (.prim .ne (.cons (.var 1) (.cons (.lst .nil) .nil))) (.andE (.prim .gt (.cons (.prim .len (.cons (.prim .idx (.cons (.var 1) (.cons (.int 0) .nil))) .nil)) (.cons (.int 0) .nil))) (.prim .eq (.cons (.prim .mod (.cons (.var 3) (.cons (.int 3) .nil))) (.cons (.int 0) .nil))))) (.cons (.set (.nm 7) (.prim .idx (.cons (.prim .idx (.cons (.var 1) (.cons (.int 0) .nil))) (.cons (.prim .mod (.cons (.call f_l_mixed_k13 (.cons (.var 0) (.cons (.prim .add (.cons (.int 302) (.cons (.prim .mul (.cons (.int 7) (.cons (.var 2) .nil))) .nil))) .nil))) (.cons (.prim .len (.cons (.prim .idx (.cons (.var 1) (.cons (.int 0) .nil))) .nil)) .nil))) .nil)))) .nil) .nil) (.cons (.set (.nm 8) (.lst (.cons (.var 4) (.cons (.prim .add (.cons (.prim .add (.cons (.prim .cutTo (.cons (.var 4) (.cons (.var 6) .nil))) (.cons (.var 7) .nil))) (.cons (.prim .cutFrom (.cons (.var 4) (.cons (.prim .add (.cons (.var 6) (.cons (.int 1) .nil))) .nil))) .nil))) (.cons (.prim .add (.cons (.var 4) (.cons (.var 7) .nil))) (.cons (.prim .add (.cons (.var 7) (.cons (.var 4) .nil))) (.cons (.str []) (.cons (.prim .cutTo (.cons (.prim .add (.cons (.prim .add (.cons (.var 5) (.cons (.var 4) .nil))) (.cons (.var 5) .nil))) (.cons (.int 200) .nil))) .nil)))))))) (.cons (.ret (.prim .idx (.cons (.mov 8) (.cons (.prim .mod (.cons (.prim .fdiv (.cons (.var 3) (.cons (.int 3) .nil))) (.cons (.int 6) .nil))) .nil)))) .nil)))))))))
def f_l_due_k13_b1 : Ss := (.cons (.ife (.prim .notin (.cons (.prim .cutTo (.cons (.var 1) (.cons (.var 3) .nil))) (.cons (.var 0) .nil))) (.cons (.ret (.mov 2)) .nil) .nil) (.cons (.app (.var 2) (.prim .idx (.cons (.var 0) (.cons (.prim .cutTo (.cons (.var 1) (.cons (.var 3) .nil))) .nil)))) .nil))
def f_l_due_k13_r2 : Ss := (.cons (.ret (.mov 2)) .nil)
def f_l_due_k13 : Fn := .mk 76 [] 2 4 (.cons (.set (.nm 2) (.lst (.cons (.int 0) .nil))) (.cons (.forS (.nm 3) (.rng (.cons (.int 1) (.cons (.prim .add (.cons (.prim .len (.cons (.var 1) .nil)) (.cons (.int 1) .nil))) .nil))) f_l_due_k13_b1 [3]) f_l_due_k13_r2))
def f_law_k13_e1 : E := (.call f_l_word (.cons (.var 0) (.cons (.var 1) (.cons (.var 9) .nil))))
def f_law_k13_b2 : Ss := (.cons (.set (.nm 8) (.call f_walk (.cons (.var 5) (.cons (.var 7) .nil)))) (.cons (.ife (.orE (.notE (.call f_l_same_k13 (.cons (.var 8) (.cons (.call f_l_due_k13 (.cons (.var 3) (.cons (.var 7) .nil))) .nil)))) (.prim .ne (.cons (.var 5) (.cons (.var 4) .nil)))) (.cons (.ret (.bl false)) .nil) .nil) (.cons (.app (.var 8) (.int 0)) .nil)))
def f_law_k13_r3 : Ss := (.cons (.ret (.bl true)) .nil)
def f_law_k13 : Fn := .mk 77 [] 1 10 (.cons (.set (.nm 1) (.call f_l_book_k13 (.cons (.var 0) (.cons (.int 60) .nil)))) (.cons (.frz 1) (.cons (.set (.nm 2) (.call f_l_stands (.cons (.call f_l_places (.cons (.var 1) .nil)) .nil))) (.cons (.frz 2) (.cons (.set (.nm 3) (.call f_l_numbers (.cons (.var 2) .nil))) (.cons (.frz 3) (.cons (.set (.nm 4) (.call f_l_table (.cons (.var 2) (.cons (.var 3) .nil)))) (.cons (.frz 4) (.cons (.set (.nm 5) (.prim .list (.cons (.var 4) .nil))) (.cons (.frz 5) (.cons (.set (.nm 6) (.lc f_law_k13_e1 (.nm 9) (.rng (.cons (.int 8) .nil)) .nil [9])) (.cons (.frz 6) (.cons (.forS (.nm 7) (.val (.prim .add (.cons (.var 6) (.cons (.prim .cutTo (.cons (.var 6) (.cons (.int 1) .nil))) .nil)))) f_law_k13_b2 [7, 8]) f_law_k13_r3)))))))))))))
def f_l_by_size_k14 : Fn := .mk 80 [] 1 1 (.cons (.ret (.tup (.cons (.prim .len (.cons (.var 0) .nil)) (.cons (.var 0) .nil)))) .nil)
def f_l_stands_k14_b1 : Ss := (.cons (.sdApp (.var 1) (.prim .tuple (.cons (.prim .idx (.cons (.var 0) (.cons (.var 2) .nil))) .nil)) (.var 2)) .nil)
def f_l_stands_k14_e2 : E := (.prim .idx (.cons (.var 1) (.cons (.var 3) .nil)))
def f_l_stands_k14_r3 : Ss := (.cons (.frz 1) (.cons (.ret (.lc f_l_stands_k14_e2 (.nm 3) (.keys 1) .nil [3])) .nil))
def f_l_stands_k14 : Fn := .mk 81 [] 1 4 (.cons (.set (.nm 1) (.dic0 true)) (.cons (.forS (.nm 2) (.val (.sortK f_l_by_size_k14 (.var 0))) f_l_stands_k14_b1 [2]) f_l_stands_k14_r3))
def f_l_numbers_k14_b1 : Ss := (.cons (.setIx (.var 1) (.var 4) (.var 2)) .nil)
def f_l_numbers_k14_b2 : Ss := (.cons (.frz 3) (.cons (.forS (.nm 4) (.val (.var 3)) f_l_numbers_k14_b1 [4]) .nil))
def f_l_numbers_k14_r3 : Ss := (.cons (.ret (.mov 1)) .nil)
def f_l_numbers_k14 : Fn := .mk 82 [] 1 5 (.cons (.set (.nm 1) (.dic0 false)) (.cons (.forS (.tp [2, 3]) (.enum (.var 0)) f_l_numbers_k14_b2 [2, 3, 4]) f_l_numbers_k14_r3))
def f_unlike_e1 : E := (.prim .add (.cons (.prim .sub (.cons (.var 2) (.cons (.var 1) .nil))) (.cons (.int 1) .nil)))
def f_unlike : Fn := .mk 119 [] 1 5 (.cons (.ret (.prim .sum (.cons (.lc f_unlike_e1 (.tp [1, 2, 3, 4]) (.val (.prim .cutFrom (.cons (.var 0) (.cons (.int 1) .nil)))) .nil [1, 2, 3, 4]) .nil))) .nil)
def f_counted_e1 : E := (.var 2)
def f_counted : Fn := .mk 120 [] 2 3 (.cons (.ife (.prim .eq (.cons (.var 1) (.cons (.int 0) .nil))) (.cons (.ret (.int 1)) .nil) .nil) (.cons (.ret (.prim .len (.cons (.lc f_counted_e1 (.nm 2) (.val (.prim .cutFrom (.cons (.var 0) (.cons (.int 1) .nil)))) (.cons (.chain .le .le (.prim .idx (.cons (.var 2) (.cons (.int 0) .nil))) (.var 1) (.prim .idx (.cons (.var 2) (.cons (.int 1) .nil)))) .nil) [2]) .nil))) .nil))
def f_l_is_k25 : Fn := .mk 121 [] 2 2 (.cons (.ret (.andE (.prim (.isi 2) (.cons (.var 0) .nil)) (.andE (.notE (.prim (.isi 3) (.cons (.var 0) .nil))) (.prim .eq (.cons (.var 0) (.cons (.var 1) .nil)))))) .nil)
def f_law_k25_e1 : E := (.prim .len (.cons (.var 9) .nil))
def f_law_k25_e2 : E := (.var 10)
def f_law_k25_b3 : Ss := (.cons (.ife (.notE (.call f_l_is_k25 (.cons (.call f_counted (.cons (.var 5) (.cons (.var 7) .nil))) (.cons (.prim .len (.cons (.lc f_law_k25_e2 (.nm 10) (.val (.var 6)) (.cons (.prim .eq (.cons (.var 10) (.cons (.var 7) .nil))) .nil) [10]) .nil)) .nil)))) (.cons (.ret (.bl false)) .nil) .nil) .nil)
def f_law_k25_r4 : Ss := (.cons (.set (.nm 8) (.prim .add (.cons (.int 200) (.cons (.prim .mul (.cons (.call f_l_mixed_k13 (.cons (.var 0) (.cons (.int 300) .nil))) (.cons (.prim .pow (.cons (.int 10) (.cons (.int 49) .nil))) .nil))) .nil)))) (.cons (.ret (.andE (.call f_l_is_k25 (.cons (.call f_counted (.cons (.var 5) (.cons (.var 8) .nil))) (.cons (.int 0) .nil))) (.prim .eq (.cons (.var 5) (.cons (.var 4) .nil))))) .nil))
def f_law_k25 : Fn := .mk 122 [] 1 11 (.cons (.set (.nm 1) (.call f_l_book_k13 (.cons (.var 0) (.cons (.int 60) .nil)))) (.cons (.frz 1) (.cons (.set (.nm 2) (.call f_l_places (.cons (.var 1) .nil))) (.cons (.frz 2) (.cons (.set (.nm 3) (.call f_l_stands_k14 (.cons (.var 2) .nil))) (.cons (.frz 3) (.cons (.set (.nm 4) (.call f_l_table (.cons (.var 3) (.cons (.call f_l_numbers_k14 (.cons (.var 3) .nil)) .nil)))) (.cons (.frz 4) (.cons (.set (.nm 5) (.prim .list (.cons (.var 4) .nil))) (.cons (.frz 5) (.cons (.frz 2) (.cons (.set (.nm 6) (.lc f_law_k25_e1 (.nm 9) (.keys 2) .nil [9])) (.cons (.frz 6) (.cons (.ife (.notE (.call f_l_is_k25 (.cons (.call f_unlike (.cons (.var 5) .nil)) (.cons (.prim .sub (.cons (.prim .len (.cons (.var 2) .nil)) (.cons (.int 1) .nil))) .nil)))) (.cons (.ret (.bl false)) .nil) .nil) (.cons (.forS (.nm 7) (.rng (.cons (.prim .add (.cons (.prim .max1 (.cons (.var 6) .nil)) (.cons (.int 4) .nil))) .nil)) f_law_k25_b3 [7]) f_law_k25_r4)))))))))))))))
end Al
/-! B0: the plain part: how the language's meaning is reckoned by simp. -/
namespace Al.B

section
variable (Z : Far) (ρ : Env)
/-! ### following one another -/
@[simp] theorem bnd_ok (d : D) (k : Kd) (f : D → Kd → Env → Option Out) : bnd (some (.ok d k ρ)) f = f d k ρ := id rfl
@[simp] theorem bnd_ex (c : Nat) (p : D) (f : D → Kd → Env → Option Out) : bnd (some (.ex c p ρ)) f = some (.ex c p ρ) := id rfl
@[simp] theorem bndL_ok (ds : List (D × Kd)) (f : List (D × Kd) → Env → Option Out) : bndL (some (.ok ds ρ)) f = f ds ρ := id rfl
@[simp] theorem bndL_ex (c : Nat) (p : D) (f : List (D × Kd) → Env → Option Out) : bndL (some (.ex c p ρ)) f = some (.ex c p ρ) := id rfl
@[simp] theorem bndS_ok (d : D) (k : Kd) (f : D → Kd → Env → Option Fl) : bndS (some (.ok d k ρ)) f = f d k ρ := id rfl
@[simp] theorem bndS_ex (c : Nat) (p : D) (f : D → Kd → Env → Option Fl) : bndS (some (.ex c p ρ)) f = some (.ex c p ρ) := id rfl
@[simp] theorem bndLS_ok (ds : List (D × Kd)) (f : List (D × Kd) → Env → Option Fl) : bndLS (some (.ok ds ρ)) f = f ds ρ := id rfl
@[simp] theorem bndLS_ex (c : Nat) (p : D) (f : List (D × Kd) → Env → Option Fl) : bndLS (some (.ex c p ρ)) f = some (.ex c p ρ) := id rfl
@[simp] theorem seqF_nx (f : Env → Option Fl) : seqF (some (.nx ρ)) f = f ρ := id rfl
@[simp] theorem seqF_rt (d : D) (k : Kd) (f : Env → Option Fl) : seqF (some (.rt d k ρ)) f = some (.rt d k ρ) := id rfl
@[simp] theorem seqF_bk (f : Env → Option Fl) : seqF (some (.bk ρ)) f = some (.bk ρ) := id rfl
@[simp] theorem seqF_ct (f : Env → Option Fl) : seqF (some (.ct ρ)) f = some (.ct ρ) := id rfl
@[simp] theorem seqF_ex (c : Nat) (p : D) (f : Env → Option Fl) : seqF (some (.ex c p ρ)) f = some (.ex c p ρ) := id rfl
@[simp] theorem seqF_ite (c : Prop) [Decidable c] (a b : Option Fl) (f : Env → Option Fl) : seqF (if c then a else b) f = if c then seqF a f else seqF b f := by split <;> rfl
@[simp] theorem bnd_ite (c : Prop) [Decidable c] (a b : Option Out) (f : D → Kd → Env → Option Out) : bnd (if c then a else b) f = if c then bnd a f else bnd b f := by split <;> rfl
@[simp] theorem bndS_ite (c : Prop) [Decidable c] (a b : Option Out) (f : D → Kd → Env → Option Fl) : bndS (if c then a else b) f = if c then bndS a f else bndS b f := by split <;> rfl
@[simp] theorem bndL_ite (c : Prop) [Decidable c] (a b : Option OutL) (f : List (D × Kd) → Env → Option Out) : bndL (if c then a else b) f = if c then bndL a f else bndL b f := by split <;> rfl
/-- one more item of a list of expressions -/
def conO (o : Option Out) (f : Env → Option OutL) : Option OutL := match o with
  | some (.ok d k ρ1) => (match f ρ1 with
    | some (.ok ds ρ2) => some (.ok ((d, k) :: ds) ρ2)
    | some (.ex c p ρ2) => some (.ex c p ρ2)
    | none => none)
  | some (.ex c p ρ1) => some (.ex c p ρ1)
  | none => none
def preO (p : D × Kd) : Option OutL → Option OutL
  | some (.ok ds ρ2) => some (.ok (p :: ds) ρ2)
  | some (.ex c p ρ2) => some (.ex c p ρ2)
  | none => none
@[simp] theorem conO_ok (d : D) (k : Kd) (f : Env → Option OutL) : conO (some (.ok d k ρ)) f = preO (d, k) (f ρ) := by
  show (match f ρ with
    | some (.ok ds ρ2) => some (.ok ((d, k) :: ds) ρ2)
    | some (.ex c p ρ2) => some (.ex c p ρ2)
    | none => none : Option OutL) = _
  rcases h : f ρ with _ | ⟨_ | _⟩ <;> rfl
@[simp] theorem conO_ex (c : Nat) (p : D) (f : Env → Option OutL) : conO (some (.ex c p ρ)) f = some (.ex c p ρ) := id rfl
@[simp] theorem conO_ite (c : Prop) [Decidable c] (a b : Option Out) (f : Env → Option OutL) : conO (if c then a else b) f = if c then conO a f else conO b f := by split <;> rfl
@[simp] theorem preO_ok (p : D × Kd) (ds : List (D × Kd)) : preO p (some (.ok ds ρ)) = some (.ok (p :: ds) ρ) := id rfl
@[simp] theorem preO_ex (p : D × Kd) (c : Nat) (q : D) : preO p (some (.ex c q ρ)) = some (.ex c q ρ) := id rfl
@[simp] theorem preO_ite (c : Prop) [Decidable c] (p : D × Kd) (a b : Option OutL) : preO p (if c then a else b) = if c then preO p a else preO p b := by split <;> rfl

/-! ### expressions -/
@[simp] theorem v_var (i : Nat) : denE Z (.var i) ρ = (look ρ i).map fun p => .ok p.1 (kd p.1 p.2.read) ρ := by simp only [denE]
@[simp] theorem v_mov (i : Nat) : denE Z (.mov i) ρ = (look ρ i).map fun p => .ok p.1 (kd p.1 p.2) (ρ.set i none) := by simp only [denE]
@[simp] theorem v_non : denE Z .non ρ = some (.ok .non .st ρ) := by simp only [denE]
@[simp] theorem v_bl (b : Bool) : denE Z (.bl b) ρ = some (.ok (.bl b) .st ρ) := by simp only [denE]
@[simp] theorem v_int (i : Int) : denE Z (.int i) ρ = some (.ok (.int i) .st ρ) := by simp only [denE]
@[simp] theorem v_str (w : W) : denE Z (.str w) ρ = some (.ok (.str w) .st ρ) := by simp only [denE]
@[simp] theorem v_cst (n : Nat) (d : D) : denE Z (.cst n d) ρ = some (.ok d .st ρ) := by simp only [denE]
/-- what comes of an operation -/
def opO (x : Option (D × Kd)) (ρ : Env) : Option Out := x.map fun x => .ok x.1 x.2 ρ
@[simp] theorem opO_some (x : D × Kd) : opO (some x) ρ = some (.ok x.1 x.2 ρ) := id rfl
@[simp] theorem opO_ite (c : Prop) [Decidable c] (a b : Option (D × Kd)) : opO (if c then a else b) ρ = if c then opO a ρ else opO b ρ := by split <;> rfl
@[simp] theorem v_prim (p : Pr) (es : Es) : denE Z (.prim p es) ρ = bndL (denEs Z es ρ) fun ds ρ1 => opO (prD p ds) ρ1 := by simp only [denE] <;> rfl
@[simp] theorem v_lst (es : Es) : denE Z (.lst es) ρ = bndL (denEs Z es ρ) fun ds ρ1 => some (.ok (.lst (ds.map (·.1))) (kdL (ds.map (·.1)) (jnA ds)) ρ1) := by simp only [denE]
@[simp] theorem v_tup (es : Es) : denE Z (.tup es) ρ = bndL (denEs Z es ρ) fun ds ρ1 => some (.ok (.tup (ds.map (·.1))) (kdT (ds.map (·.1)) (jnA ds)) ρ1) := by simp only [denE]
@[simp] theorem v_dic0 (t : Bool) : denE Z (.dic0 t) ρ = some (.ok (.dic t []) .fr ρ) := by simp only [denE]
/-- a written dict's end -/
def dicO (kz vz : List (D × Kd)) (ρ : Env) : Option Out := if kz.all (fun p => isKS p.1) && kz.length == vz.length then some (.ok (.dic false (mergeK [] ((kz.map (·.1)).zip (vz.map (·.1))))) (if vz.all (fun p => flat p.1) then .fr else jnA vz) ρ) else none
@[simp] theorem v_dic {vs : Es} (h : vs.eff = false) (ks : Es) : denE Z (.dic ks vs) ρ = bndL (denEs Z ks ρ) fun kz ρ1 => bndL (denEs Z vs ρ1) fun vz ρ2 => dicO kz vz ρ2 := by
  simp only [denE, h, Bool.false_eq_true, if_false] <;> rfl
@[simp] theorem dicO_one (k v : D) (kk kv : Kd) (hk : isKS k = true) : dicO [(k, kk)] [(v, kv)] ρ = some (.ok (.dic false [(k, v)]) (if flat v then .fr else jn kv .fr) ρ) := by
  unfold dicO
  simp only [List.all_cons, List.all_nil, hk, Bool.and_true, List.length_cons, List.length_nil, beq_self_eq_true, if_true, List.map_cons, List.map_nil, List.zip_cons_cons, List.zip_nil_right, jnA]
  cases h : flat v <;> rfl
/-- by a truth -/
def byT {α : Type} (d : D) (a b : Option α) : Option α := match d with
  | .bl true => a
  | .bl false => b
  | _ => none
@[simp] theorem byT_bl {α : Type} (c : Bool) (a b : Option α) : byT (.bl c) a b = if c then a else b := by cases c <;> rfl
def truO (d : D) (ρ : Env) : Option Out := match d with
  | .bl c => some (.ok (.bl c) .st ρ)
  | _ => none
@[simp] theorem truO_bl (c : Bool) : truO (.bl c) ρ = some (.ok (.bl c) .st ρ) := id rfl
def notO (d : D) (ρ : Env) : Option Out := match d with
  | .bl c => some (.ok (.bl (!c)) .st ρ)
  | _ => none
@[simp] theorem notO_bl (c : Bool) : notO (.bl c) ρ = some (.ok (.bl (!c)) .st ρ) := id rfl
@[simp] theorem mergeF (c : Prop) [Decidable c] (e : Bool) (k : Kd) : (if c then some (Out.ok (.bl e) k ρ) else some (Out.ok (.bl false) k ρ)) = some (Out.ok (.bl (decide c && e)) k ρ) := by by_cases h : c <;> simp [h]
@[simp] theorem mergeT (c : Prop) [Decidable c] (e : Bool) (k : Kd) : (if c then some (Out.ok (.bl true) k ρ) else some (Out.ok (.bl e) k ρ)) = some (Out.ok (.bl (decide c || e)) k ρ) := by by_cases h : c <;> simp [h]
@[simp] theorem v_and (a b : E) : denE Z (.andE a b) ρ = bnd (denE Z a ρ) fun d _ ρ1 => byT d (bnd (denE Z b ρ1) fun e _ ρ2 => truO e ρ2) (some (.ok (.bl false) .st ρ1)) := by simp only [denE] <;> rfl
@[simp] theorem v_or (a b : E) : denE Z (.orE a b) ρ = bnd (denE Z a ρ) fun d _ ρ1 => byT d (some (.ok (.bl true) .st ρ1)) (bnd (denE Z b ρ1) fun e _ ρ2 => truO e ρ2) := by
  simp only [denE]
  congr
  funext d k ρ1
  unfold byT
  cases d <;> try rfl
  rename_i c
  cases c <;> rfl
@[simp] theorem v_not (a : E) : denE Z (.notE a) ρ = bnd (denE Z a ρ) fun d _ ρ1 => notO d ρ1 := by simp only [denE] <;> rfl
@[simp] theorem v_ife (c a b : E) : denE Z (.ife c a b) ρ = bnd (denE Z c ρ) fun d _ ρ1 => byT d (denE Z a ρ1) (denE Z b ρ1) := by simp only [denE] <;> rfl
/-- a call's end -/
def calO (o : Option Res) (ds : List (D × Kd)) (ρ : Env) : Option Out := match o with
  | some (.ok d k _) => some (.ok d (callKd d k ds) ρ)
  | some (.ex c p _) => some (.ex c p ρ)
  | none => none
@[simp] theorem calO_ok (d : D) (k : Kd) (out : List D) (ds : List (D × Kd)) : calO (some (.ok d k out)) ds ρ = some (.ok d (callKd d k ds) ρ) := id rfl
@[simp] theorem calO_ex (c : Nat) (p : D) (out : List D) (ds : List (D × Kd)) : calO (some (.ex c p out)) ds ρ = some (.ex c p ρ) := id rfl
@[simp] theorem v_call {f : Fn} (h : f.isMut = false) (es : Es) : denE Z (.call f es) ρ = bndL (denEs Z es ρ) fun ds ρ1 => calO (run Z f (ds.map (·.1))) ds ρ1 := by
  simp only [denE, h, Bool.false_eq_true, if_false] <;> rfl
def attO (f : Nat) (d : D) (k : Kd) (ρ : Env) : Option Out := match d with
  | .obj _ fs => (getF fs f).map fun x => .ok x (kd x (jn k .st)) ρ
  | _ => none
@[simp] theorem attO_obj (f c : Nat) (fs : List (Nat × D)) (k : Kd) : attO f (.obj c fs) k ρ = (getF fs f).map fun x => .ok x (kd x (jn k .st)) ρ := id rfl
@[simp] theorem v_attr (f : Nat) (o : E) : denE Z (.attr f o) ρ = bnd (denE Z o ρ) fun d k ρ1 => attO f d k ρ1 := by simp only [denE] <;> rfl
/-- an item of a comprehension -/
def lcI (Z : Far) (elt : E) (tg : Tg) (cnd : Es) (ρ : Env) (x : D × Kd) : Option (Option (D × Kd)) := match bindT tg x.1 x.2 ρ with
        | none => none
        | some ρ2 => match denEs Z cnd ρ2 with
          | some (.ok [] ρ3) => (match denE Z elt ρ3 with | some (.ok d k _) => some (some (d, k)) | _ => none)
          | some (.ok [(.bl true, _)] ρ3) => (match denE Z elt ρ3 with | some (.ok d k _) => some (some (d, k)) | _ => none)
          | some (.ok [(.bl false, _)] _) => some none
          | _ => none
/-- a comprehension's end -/
def lcO (ys : Option (List (D × Kd))) (ρ : Env) : Option Out := ys.map fun ys => .ok (.lst (ys.map (·.1))) (kdL (ys.map (·.1)) (jnA ys)) ρ
@[simp] theorem lcO_some (ys : List (D × Kd)) : lcO (some ys) ρ = some (.ok (.lst (ys.map (·.1))) (kdL (ys.map (·.1)) (jnA ys)) ρ) := id rfl
@[simp] theorem v_lc {elt : E} {cnd : Es} (h : elt.eff = false) (hc : cnd.eff = false) (tg : Tg) (it : It) (own : List Nat) : denE Z (.lc elt tg it cnd own) ρ =
    bndL (denI Z false it ρ) fun xs ρ1 => lcO (lcF (lcI Z elt tg cnd (kill (lend ρ1) own)) xs) ρ1 := by
  simp only [denE, h, hc, Bool.false_eq_true, if_false] <;> rfl

/-! ### expressions one behind the other -/
@[simp] theorem vs_nil : denEs Z .nil ρ = some (.ok [] ρ) := by simp only [denEs]
@[simp] theorem vs_cons {e : E} {r : Es} (h : r.eff = false) : denEs Z (.cons e r) ρ = conO (denE Z e ρ) fun ρ1 => denEs Z r ρ1 := by
  cases e
  case var i =>
    simp only [denEs, h, Bool.false_eq_true, if_false, v_var]
    cases look ρ i <;> rfl
  all_goals (simp only [denEs, h, Bool.and_false, Bool.false_eq_true, if_false] <;> rfl)

/-! ### what is walked -/
def itO (o : Option Out) (f : D → Kd → Env → Option OutL) : Option OutL := match o with
  | some (.ok d k ρ) => f d k ρ
  | some (.ex c p ρ) => some (.ex c p ρ)
  | none => none
@[simp] theorem itO_ok (d : D) (k : Kd) (f : D → Kd → Env → Option OutL) : itO (some (.ok d k ρ)) f = f d k ρ := id rfl
@[simp] theorem itO_ex (c : Nat) (p : D) (f : D → Kd → Env → Option OutL) : itO (some (.ex c p ρ)) f = some (.ex c p ρ) := id rfl
@[simp] theorem i_val (c : Bool) (e : E) : denI Z c (.val e) ρ = itO (denE Z e ρ) fun d k ρ1 => if c && k == .bo then none else (itemsOf d k).map fun xs => .ok xs ρ1 := by simp only [denI] <;> rfl
def itsO (o : Option OutL) (f : List (D × Kd) → Env → Option OutL) : Option OutL := match o with
  | some (.ok ds ρ1) => f ds ρ1
  | some (.ex c p ρ1) => some (.ex c p ρ1)
  | none => none
@[simp] theorem itsO_ok (ds : List (D × Kd)) (f : List (D × Kd) → Env → Option OutL) : itsO (some (.ok ds ρ)) f = f ds ρ := id rfl
@[simp] theorem itsO_ex (c : Nat) (p : D) (f : List (D × Kd) → Env → Option OutL) : itsO (some (.ex c p ρ)) f = some (.ex c p ρ) := id rfl
@[simp] theorem i_rng (c : Bool) (es : Es) : denI Z c (.rng es) ρ = itsO (denEs Z es ρ) fun ds ρ1 => (rngOf ds).map fun xs => .ok xs ρ1 := by simp only [denI] <;> rfl
@[simp] theorem i_enum (c : Bool) (e : E) : denI Z c (.enum e) ρ = itO (denE Z e ρ) fun d k ρ1 => match d with
    | .lst ds => if c && k == .bo then none else some (.ok (enumL 0 (ds.map fun x => (x, kd x (jn k .st)))) ρ1)
    | _ => none := by
  simp only [denI]
  unfold itO
  repeat' split
  all_goals simp_all

/-! ### rows -/
@[simp] theorem ss_nil : denSs Z .nil ρ = some (.nx ρ) := by simp only [denSs]
@[simp] theorem ss_cons (s : S) (r : Ss) : denSs Z (.cons s r) ρ = seqF (denS Z s ρ) fun ρ1 => denSs Z r ρ1 := by simp only [denSs]
@[simp] theorem s_exp (e : E) : denS Z (.exp e) ρ = bndS (denE Z e ρ) fun _ _ ρ1 => some (.nx ρ1) := by simp only [denS]
@[simp] theorem s_set (tg : Tg) (e : E) : denS Z (.set tg e) ρ = bndS (denE Z e ρ) fun d k ρ1 => (bindT tg d k ρ1).map .nx := by simp only [denS]
@[simp] theorem s_ret (e : E) : denS Z (.ret e) ρ = bndS (denE Z e ρ) fun d k ρ1 => some (.rt d k ρ1) := by simp only [denS]
@[simp] theorem s_retN : denS Z .retN ρ = some (.rt .non .st ρ) := by simp only [denS]
@[simp] theorem s_ife (c : E) (a b : Ss) : denS Z (.ife c a b) ρ = bndS (denE Z c ρ) fun d _ ρ1 => byT d (denSs Z a ρ1) (denSs Z b ρ1) := by simp only [denS] <;> rfl
@[simp] theorem s_whl (c : E) (b : Ss) (ks : List Nat) : denS Z (.whl c b ks) ρ = loopW (fun ρ => denE Z c ρ) (fun ρ => denSs Z b ρ) ks TURNS ρ := by simp only [denS]
@[simp] theorem s_for (tg : Tg) (it : It) (b : Ss) (ks : List Nat) : denS Z (.forS tg it b ks) ρ = bndLS (denI Z b.chg it ρ) fun xs ρ1 => loopF (denSs Z b) tg ks xs ρ1 := by simp only [denS]
@[simp] theorem s_rais (c : Nat) (p : E) : denS Z (.rais c p) ρ = bndS (denE Z p ρ) fun d _ ρ1 => if flat d then some (.ex c d ρ1) else none := by simp only [denS] <;> rfl
@[simp] theorem s_pass : denS Z .pass ρ = some (.nx ρ) := by simp only [denS]
@[simp] theorem s_brk : denS Z .brk ρ = some (.bk ρ) := by simp only [denS]
@[simp] theorem s_cont : denS Z .cont ρ = some (.ct ρ) := by simp only [denS]
def frzO (i : Nat) (o : Option (D × Kd)) (ρ : Env) : Option Fl := match o with
  | some (d, .fr) => some (.nx (ρ.set i (some (d, .st))))
  | _ => some (.nx ρ)
@[simp] theorem frzO_fr (i : Nat) (d : D) : frzO i (some (d, .fr)) ρ = some (.nx (ρ.set i (some (d, .st)))) := id rfl
@[simp] theorem frzO_st (i : Nat) (d : D) : frzO i (some (d, .st)) ρ = some (.nx ρ) := id rfl
@[simp] theorem frzO_bo (i : Nat) (d : D) : frzO i (some (d, .bo)) ρ = some (.nx ρ) := id rfl
@[simp] theorem s_frz (i : Nat) : denS Z (.frz i) ρ = frzO i (look ρ i) ρ := by simp only [denS] <;> rfl
/-- append, what of -/
def appO (i : Nat) (o : Option (D × Kd)) (d : D) (k : Kd) (ρ : Env) : Option Fl := if !(flat d) && !(k == .fr) then none else (match o with
  | some (.lst xs, .fr) => if xs.length < LINE then some (.nx (killBo (ρ.set i (some (.lst (xs ++ [d]), .fr))))) else none
  | _ => none)
@[simp] theorem appO_fr (i : Nat) (xs : List D) (d : D) : appO i (some (.lst xs, .fr)) d .fr ρ = if xs.length < 16777216 then some (.nx (killBo (ρ.set i (some (.lst (xs ++ [d]), .fr))))) else none := by unfold appO; cases flat d <;> rfl
@[simp] theorem appO_st (i : Nat) (xs : List D) (d : D) (k : Kd) (h : flat d = true) : appO i (some (.lst xs, .fr)) d k ρ = if xs.length < 16777216 then some (.nx (killBo (ρ.set i (some (.lst (xs ++ [d]), .fr))))) else none := by unfold appO; rw [h]; rfl
def lstO {α : Type} (o : Option (D × Kd)) (x : Option α) : Option α := match o with
  | some (.lst _, .fr) => x
  | _ => none
@[simp] theorem lstO_fr {α : Type} (xs : List D) (x : Option α) : lstO (some (.lst xs, .fr)) x = x := id rfl
/-- append at a name -/
@[simp] theorem s_app (i : Nat) (e : E) : denS Z (.app (.var i) e) ρ = lstO (look ρ i) (bndS (denE Z e ρ) fun d k ρ1 => appO i (look ρ1 i) d k ρ1) := by
  simp only [denS, E.eff, E.isVar, lensE, Bool.false_or, Bool.not_true, Bool.and_false]
  rcases look ρ i with _ | ⟨d, k⟩
  · rfl
  · cases k <;> cases d <;> try rfl
    simp only [isLens, lstO, Bool.not_true, Bool.false_eq_true, if_false]
    congr
    funext d k ρ1
    unfold appO
    by_cases h : (!flat d && !k == Kd.fr) = true
    · rw [if_pos h, if_pos h]
    · rw [if_neg h, if_neg h]
      rcases look ρ1 i with _ | ⟨d, k⟩
      · rfl
      · cases k <;> cases d <;> rfl

/-- a def's frame -/
def runO (mu : List Nat) (o : Option Env) (f : Env → Option Fl) : Option Res := match o with
    | none => none
    | some ρ => endRes mu (f ρ)
@[simp] theorem runO_some (mu : List Nat) (f : Env → Option Fl) : runO mu (some ρ) f = endRes mu (f ρ) := id rfl
/-! ### a def -/
@[simp] theorem run_mk (nm : Nat) (mu : List Nat) (np ns : Nat) (b : Ss) (ds : List D) : run Z (.mk nm mu np ns b) ds = runO mu (startE mu np ns ds) (denSs Z b) := by simp only [run] <;> rfl
end
@[simp] theorem endRes_nx (ρ : Env) : endRes [] (some (.nx ρ)) = some (.ok .non .st []) := id rfl
@[simp] theorem endRes_rt (ρ : Env) (d : D) (k : Kd) : endRes [] (some (.rt d k ρ)) = some (.ok d (if flat d then .st else if k == .fr then .fr else .st) []) := id rfl
@[simp] theorem endRes_ex (ρ : Env) (c : Nat) (p : D) : endRes [] (some (.ex c p ρ)) = some (.ex c p []) := id rfl
@[simp] theorem endRes_ite (c : Prop) [Decidable c] (mu : List Nat) (a b : Option Fl) : endRes mu (if c then a else b) = if c then endRes mu a else endRes mu b := by split <;> rfl
end Al.B
/-! B0b: slots, kinds and operations for simp. -/
namespace Al.B

/-! ### slots -/
@[simp] theorem look_nil (i : Nat) : look [] i = none := id rfl
@[simp] theorem look_zero (o : Option (D × Kd)) (ρ : Env) : look (o :: ρ) 0 = o := by cases o <;> rfl
@[simp] theorem look_succ (o : Option (D × Kd)) (ρ : Env) (i : Nat) : look (o :: ρ) (i + 1) = look ρ i := id rfl
@[simp] theorem kill_nil (ρ : Env) : kill ρ [] = ρ := id rfl
@[simp] theorem kill_cons (ρ : Env) (i : Nat) (r : List Nat) : kill ρ (i :: r) = kill (ρ.set i none) r := id rfl
@[simp] theorem keepBo_none : keepBo none = none := id rfl
@[simp] theorem keepBo_fr (d : D) : keepBo (some (d, .fr)) = some (d, .fr) := id rfl
@[simp] theorem keepBo_st (d : D) : keepBo (some (d, .st)) = some (d, .st) := id rfl
@[simp] theorem keepBo_bo (d : D) : keepBo (some (d, .bo)) = none := id rfl
@[simp] theorem killBo_nil : killBo [] = [] := id rfl
@[simp] theorem killBo_cons (o : Option (D × Kd)) (ρ : Env) : killBo (o :: ρ) = keepBo o :: killBo ρ := id rfl
def lend1 (o : Option (D × Kd)) : Option (D × Kd) := match o with
  | some (d, .fr) => some (d, .bo)
  | o => o
@[simp] theorem lend1_none : lend1 none = none := id rfl
@[simp] theorem lend1_fr (d : D) : lend1 (some (d, .fr)) = some (d, .bo) := id rfl
@[simp] theorem lend1_st (d : D) : lend1 (some (d, .st)) = some (d, .st) := id rfl
@[simp] theorem lend1_bo (d : D) : lend1 (some (d, .bo)) = some (d, .bo) := id rfl
@[simp] theorem lend_nil : lend [] = [] := id rfl
@[simp] theorem lend_cons (o : Option (D × Kd)) (ρ : Env) : lend (o :: ρ) = lend1 o :: lend ρ := by
  show _ :: _ = _
  congr
@[simp] theorem bindT_nm (i : Nat) (d : D) (k : Kd) (ρ : Env) : bindT (.nm i) d k ρ = some (ρ.set i (some (d, k))) := id rfl
@[simp] theorem bindT_tp (is : List Nat) (ds : List D) (k : Kd) (ρ : Env) : bindT (.tp is) (.tup ds) k ρ = bindNms is ds k ρ := id rfl
@[simp] theorem bindNms_nil (k : Kd) (ρ : Env) : bindNms [] [] k ρ = some ρ := id rfl
@[simp] theorem bindNms_cons (i : Nat) (is : List Nat) (d : D) (ds : List D) (k : Kd) (ρ : Env) : bindNms (i :: is) (d :: ds) k ρ = bindNms is ds k (ρ.set i (some (d, kd d (jn k .st)))) := id rfl
@[simp] theorem slots0_nil (mu : List Nat) (i : Nat) : slots0 mu i [] = [] := id rfl
@[simp] theorem slots0_cons (mu : List Nat) (i : Nat) (d : D) (r : List D) : slots0 mu i (d :: r) = some (d, if mu.contains i then .fr else .st) :: slots0 mu (i + 1) r := id rfl
@[simp] theorem startE_eq (mu : List Nat) (np ns : Nat) (ds : List D) : startE mu np ns ds = if ds.length = np then some (slots0 mu 0 ds ++ List.replicate (ns - np) none) else none := id rfl

/-! ### effects -/
@[simp] theorem eff_var (i : Nat) : (E.var i).eff = false := id rfl
@[simp] theorem eff_mov (i : Nat) : (E.mov i).eff = true := id rfl
@[simp] theorem eff_non : E.non.eff = false := id rfl
@[simp] theorem eff_bl (b : Bool) : (E.bl b).eff = false := id rfl
@[simp] theorem eff_int (i : Int) : (E.int i).eff = false := id rfl
@[simp] theorem eff_str (w : W) : (E.str w).eff = false := id rfl
@[simp] theorem eff_cst (n : Nat) (d : D) : (E.cst n d).eff = false := id rfl
@[simp] theorem eff_prim (p : Pr) (es : Es) : (E.prim p es).eff = es.eff := by simp only [E.eff]
@[simp] theorem eff_lst (es : Es) : (E.lst es).eff = es.eff := by simp only [E.eff]
@[simp] theorem eff_tup (es : Es) : (E.tup es).eff = es.eff := by simp only [E.eff]
@[simp] theorem eff_dic0 (t : Bool) : (E.dic0 t).eff = false := id rfl
@[simp] theorem eff_dic (a b : Es) : (E.dic a b).eff = (a.eff || b.eff) := by simp only [E.eff]
@[simp] theorem eff_and (a b : E) : (E.andE a b).eff = (a.eff || b.eff) := by simp only [E.eff]
@[simp] theorem eff_or (a b : E) : (E.orE a b).eff = (a.eff || b.eff) := by simp only [E.eff]
@[simp] theorem eff_not (a : E) : (E.notE a).eff = a.eff := by simp only [E.eff]
@[simp] theorem eff_ife (c a b : E) : (E.ife c a b).eff = (c.eff || (a.eff || b.eff)) := by simp only [E.eff]
@[simp] theorem eff_chain (p q : Pr) (a b c : E) : (E.chain p q a b c).eff = (a.eff || (b.eff || c.eff)) := by simp only [E.eff]
@[simp] theorem eff_call (f : Fn) (es : Es) : (E.call f es).eff = (f.isMut || es.eff) := by simp only [E.eff]
@[simp] theorem eff_make (c : Nat) (f : Fn) (es : Es) : (E.make c f es).eff = es.eff := by simp only [E.eff]
@[simp] theorem eff_callm (c : Nat) (f : Fn) (o : E) (es : Es) : (E.callm c f o es).eff = (f.isMut || (o.eff || es.eff)) := by simp only [E.eff]
@[simp] theorem eff_attr (f : Nat) (o : E) : (E.attr f o).eff = o.eff := by simp only [E.eff]
@[simp] theorem eff_lc (elt : E) (tg : Tg) (it : It) (cnd : Es) (own : List Nat) : (E.lc elt tg it cnd own).eff = (it.eff || (elt.eff || cnd.eff)) := by simp only [E.eff]
@[simp] theorem eff_sortK (f : Fn) (e : E) : (E.sortK f e).eff = e.eff := by simp only [E.eff]
@[simp] theorem eff_knot (es : Es) : (E.knot es).eff = es.eff := by simp only [E.eff]
@[simp] theorem effs_nil : Es.nil.eff = false := id rfl
@[simp] theorem effs_cons (e : E) (r : Es) : (Es.cons e r).eff = (e.eff || r.eff) := by simp only [Es.eff]
@[simp] theorem effi_val (e : E) : (It.val e).eff = e.eff := by simp only [It.eff]
@[simp] theorem effi_rng (es : Es) : (It.rng es).eff = es.eff := by simp only [It.eff]
@[simp] theorem effi_enum (e : E) : (It.enum e).eff = e.eff := by simp only [It.eff]
@[simp] theorem effi_zip (a b : E) : (It.zip a b).eff = (a.eff || b.eff) := by simp only [It.eff]
@[simp] theorem mut_mk (nm np ns : Nat) (b : Ss) : (Fn.mk nm [] np ns b).isMut = false := id rfl
@[simp] theorem mut_far (nm np : Nat) : (Fn.far nm np).isMut = false := id rfl

/-! ### kinds -/
@[simp] theorem read_fr : Kd.read .fr = .bo := id rfl
@[simp] theorem read_st : Kd.read .st = .st := id rfl
@[simp] theorem read_bo : Kd.read .bo = .bo := id rfl
@[simp] theorem jn_bo (k : Kd) : jn .bo k = .bo := id rfl
@[simp] theorem jn_bo' (k : Kd) : jn k .bo = .bo := by cases k <;> rfl
@[simp] theorem jn_ss : jn .st .st = .st := id rfl
@[simp] theorem jn_sf : jn .st .fr = .st := id rfl
@[simp] theorem jn_fs : jn .fr .st = .st := id rfl
@[simp] theorem jn_ff : jn .fr .fr = .fr := id rfl
@[simp] theorem flatN_non (n : Nat) : flatN n .non = true := by cases n <;> rfl
@[simp] theorem flatN_bl (n : Nat) (b : Bool) : flatN n (.bl b) = true := by cases n <;> rfl
@[simp] theorem flatN_int (n : Nat) (b : Int) : flatN n (.int b) = true := by cases n <;> rfl
@[simp] theorem flatN_str (n : Nat) (b : W) : flatN n (.str b) = true := by cases n <;> rfl
@[simp] theorem flatN_scr (n : Nat) (b : List Int) : flatN n (.scr b) = true := by cases n <;> rfl
@[simp] theorem flatN_tup (n : Nat) (xs : List D) : flatN (n + 1) (.tup xs) = xs.all (flatN n) := id rfl
@[simp] theorem flatN_lst (n : Nat) (xs : List D) : flatN n (.lst xs) = false := by cases n <;> rfl
@[simp] theorem flatN_dic (n : Nat) (t : Bool) (xs : List (D × D)) : flatN n (.dic t xs) = false := by cases n <;> rfl
@[simp] theorem flatN_obj (n : Nat) (c : Nat) (xs : List (Nat × D)) : flatN n (.obj c xs) = false := by cases n <;> rfl
@[simp] theorem flat_eq (d : D) : flat d = flatN 4 d := id rfl
@[simp] theorem kd_non (k : Kd) : kd .non k = .st := id rfl
@[simp] theorem kd_bl (b : Bool) (k : Kd) : kd (.bl b) k = .st := id rfl
@[simp] theorem kd_int (b : Int) (k : Kd) : kd (.int b) k = .st := id rfl
@[simp] theorem kd_str (b : W) (k : Kd) : kd (.str b) k = .st := id rfl
@[simp] theorem kd_scr (b : List Int) (k : Kd) : kd (.scr b) k = .st := id rfl
@[simp] theorem kd_lst (b : List D) (k : Kd) : kd (.lst b) k = k := id rfl
@[simp] theorem kd_dic (t : Bool) (b : List (D × D)) (k : Kd) : kd (.dic t b) k = k := id rfl
@[simp] theorem kd_obj (c : Nat) (b : List (Nat × D)) (k : Kd) : kd (.obj c b) k = k := id rfl
@[simp] theorem kd_tup (b : List D) (k : Kd) : kd (.tup b) k = if b.all (flatN 3) then .st else k := id rfl
@[simp] theorem kdT_eq (b : List D) (k : Kd) : kdT b k = if b.all (flatN 3) then .st else k := id rfl
@[simp] theorem jnA_nil : jnA [] = .fr := id rfl
@[simp] theorem jnA_cons (d : D) (k : Kd) (r : List (D × Kd)) : jnA ((d, k) :: r) = jn (if flatN 4 d then .fr else k) (jnA r) := id rfl
@[simp] theorem kdL_nil (k : Kd) : kdL [] k = .fr := id rfl
@[simp] theorem kdL_cons (d : D) (r : List D) (k : Kd) : kdL (d :: r) k = if (d :: r).all (flatN 4) then .fr else k := id rfl
@[simp] theorem kdL_app (xs ys : List D) (k : Kd) : kdL (xs ++ ys) k = if (xs ++ ys).all (flatN 4) then .fr else k := id rfl
/-- whose values are flat -/
class Flt {α : Type} (f : α → D) (n : Nat) : Prop where
  flt : ∀ a, flatN n (f a) = true
@[simp] theorem flt_at {α : Type} (f : α → D) (n : Nat) [h : Flt f n] (a : α) : flatN n (f a) = true := h.flt a
@[simp high] theorem flt_all {α : Type} (f : α → D) (n : Nat) [h : Flt f n] (xs : List α) : (xs.map f).all (flatN n) = true := by
  rw [List.all_map]; exact List.all_eq_true.mpr fun x _ => h.flt x
@[simp] theorem kd_flt {α : Type} (f : α → D) [h : Flt f 4] (a : α) (k : Kd) : kd (f a) k = .st := by unfold kd; rw [flat_eq, flt_at]; rfl
@[simp high] theorem kdL_flt {α : Type} (f : α → D) [h : Flt f 4] (xs : List α) (k : Kd) : kdL (xs.map f) k = .fr := by
  unfold kdL
  rw [show (xs.map f).all flat = true from flt_all f 4 xs]; rfl
@[simp] theorem kdL_fr (xs : List D) : kdL xs .fr = .fr := by unfold kdL; split <;> rfl
@[simp high] theorem jnA_fr {α : Type} (f : α → D) : ∀ xs : List α, jnA (xs.map fun a => (f a, .fr)) = .fr
  | [] => rfl
  | x :: xs => by rw [List.map_cons, jnA_cons, jnA_fr f xs]; split <;> rfl
instance (n : Nat) : Flt D.str n := ⟨fun a => by simp⟩
instance (n : Nat) : Flt D.int n := ⟨fun a => by simp⟩
instance (n : Nat) : Flt D.bl n := ⟨fun a => by simp⟩
instance {α : Type} (g : α → W) (n : Nat) : Flt (fun a => D.str (g a)) n := ⟨fun a => by simp⟩
instance {α : Type} (g : α → Int) (n : Nat) : Flt (fun a => D.int (g a)) n := ⟨fun a => by simp⟩
instance {α : Type} (g : α → Bool) (n : Nat) : Flt (fun a => D.bl (g a)) n := ⟨fun a => by simp⟩
instance {α : Type} (f g : α → D) (n : Nat) [Flt f n] [Flt g n] : Flt (fun a => D.tup [f a, g a]) (n + 1) := ⟨fun a => by simp⟩
instance {α : Type} (f g h : α → D) (n : Nat) [Flt f n] [Flt g n] [Flt h n] : Flt (fun a => D.tup [f a, g a, h a]) (n + 1) := ⟨fun a => by simp⟩
@[simp] theorem callKd_eq (d : D) (k : Kd) (as : List (D × Kd)) : callKd d k as = if flatN 4 d then .st else if k == .fr then .fr else jn (jnA as) .st := id rfl

/-! ### data that may be compared: by an encoding -/
class Enc {α : Type} [DecidableEq α] (f : α → D) (n : Nat) : Prop where
  pl : ∀ a, plainN n (f a) = true
  eq : ∀ a b, eqN n (f a) (f b) = decide (a = b)
@[simp] theorem plainN_non (n : Nat) : plainN n .non = true := by cases n <;> rfl
@[simp] theorem plainN_bl (n : Nat) (b : Bool) : plainN n (.bl b) = true := by cases n <;> rfl
@[simp] theorem plainN_int (n : Nat) (b : Int) : plainN n (.int b) = true := by cases n <;> rfl
@[simp] theorem plainN_str (n : Nat) (b : W) : plainN n (.str b) = true := by cases n <;> rfl
@[simp] theorem plainN_lst (n : Nat) (b : List D) : plainN (n + 1) (.lst b) = b.all (plainN n) := id rfl
@[simp] theorem plainN_tup (n : Nat) (b : List D) : plainN (n + 1) (.tup b) = b.all (plainN n) := id rfl
@[simp] theorem eqN_int (n : Nat) (a b : Int) : eqN n (.int a) (.int b) = decide (a = b) := by cases n <;> rfl
@[simp] theorem eqN_str (n : Nat) (a b : W) : eqN n (.str a) (.str b) = decide (a = b) := by
  have e : eqN n (.str a) (.str b) = (a == b) := by cases n <;> rfl
  rw [e]; by_cases h : a = b <;> simp [h]
@[simp] theorem eqN_bl (n : Nat) (a b : Bool) : eqN n (.bl a) (.bl b) = decide (a = b) := by cases n <;> cases a <;> cases b <;> rfl
@[simp] theorem eqN_non (n : Nat) : eqN n .non .non = true := by cases n <;> rfl
@[simp] theorem eqN_lst (n : Nat) (a b : List D) : eqN (n + 1) (.lst a) (.lst b) = eqL (eqN n) a b := id rfl
@[simp] theorem eqN_tup (n : Nat) (a b : List D) : eqN (n + 1) (.tup a) (.tup b) = eqL (eqN n) a b := id rfl
@[simp] theorem eqN_int_non (n : Nat) (a : Int) : eqN n (.int a) .non = false := by cases n <;> rfl
@[simp] theorem eqN_non_int (n : Nat) (a : Int) : eqN n .non (.int a) = false := by cases n <;> rfl
@[simp] theorem eqN_str_non (n : Nat) (a : W) : eqN n (.str a) .non = false := by cases n <;> rfl
@[simp] theorem eqN_non_str (n : Nat) (a : W) : eqN n .non (.str a) = false := by cases n <;> rfl
@[simp] theorem eqN_tup_non (n : Nat) (a : List D) : eqN n (.tup a) .non = false := by cases n <;> rfl
@[simp] theorem eqN_non_tup (n : Nat) (a : List D) : eqN n .non (.tup a) = false := by cases n <;> rfl
@[simp] theorem eqL_nil (e : D → D → Bool) : eqL e [] [] = true := id rfl
@[simp] theorem eqL_nc (e : D → D → Bool) (y : D) (ys : List D) : eqL e [] (y :: ys) = false := id rfl
@[simp] theorem eqL_cn (e : D → D → Bool) (y : D) (ys : List D) : eqL e (y :: ys) [] = false := id rfl
@[simp] theorem eqL_cons (e : D → D → Bool) (x y : D) (xs ys : List D) : eqL e (x :: xs) (y :: ys) = (e x y && eqL e xs ys) := id rfl
@[simp high] theorem eqL_map {α : Type} [DecidableEq α] (f : α → D) (n : Nat) [h : Enc f n] : ∀ xs ys : List α, eqL (eqN n) (xs.map f) (ys.map f) = decide (xs = ys)
  | [], [] => rfl
  | [], y :: ys => rfl
  | x :: xs, [] => rfl
  | x :: xs, y :: ys => by
    rw [List.map_cons, List.map_cons, eqL_cons, eqL_map f n xs ys, h.eq]
    by_cases h1 : x = y <;> by_cases h2 : xs = ys <;> simp [h1, h2]
@[simp] theorem eqL_map_nil {α : Type} (f : α → D) (e : D → D → Bool) (xs : List α) : eqL e (xs.map f) [] = xs.isEmpty := by cases xs <;> rfl
@[simp] theorem eqL_nil_map {α : Type} (f : α → D) (e : D → D → Bool) (xs : List α) : eqL e [] (xs.map f) = xs.isEmpty := by cases xs <;> rfl
@[simp high] theorem plain_all {α : Type} [DecidableEq α] (f : α → D) (n : Nat) [h : Enc f n] (xs : List α) : (xs.map f).all (plainN n) = true := by
  rw [List.all_map]; exact List.all_eq_true.mpr fun x _ => h.pl x
instance (n : Nat) : Enc D.str n := ⟨by simp, by simp⟩
instance (n : Nat) : Enc D.int n := ⟨by simp, by simp⟩
instance (n : Nat) : Enc D.bl n := ⟨by simp, by simp⟩
/-- lists -/
@[reducible] def eL {α : Type} (f : α → D) (xs : List α) : D := .lst (xs.map f)
instance {α : Type} [DecidableEq α] (f : α → D) (n : Nat) [h : Enc f n] : Enc (eL f) (n + 1) := ⟨fun a => plain_all f n a, fun a b => eqL_map f n a b⟩
@[simp] theorem plain_eq (d : D) : plain d = plainN 8 d := id rfl
@[simp] theorem eqD_eq (a b : D) : eqD a b = eqN 8 a b := id rfl
@[simp] theorem p_eq_eq (a b : D) (k l : Kd) : p_eq [(a, k), (b, l)] = if plain a && plain b then some (.bl (eqD a b), .st) else none := id rfl
@[simp] theorem p_ne_eq (a b : D) (k l : Kd) : p_ne [(a, k), (b, l)] = if plain a && plain b then some (.bl (!eqD a b), .st) else none := id rfl

@[simp] theorem isKS_int (i : Int) : isKS (.int i) = true := id rfl
@[simp] theorem isKS_str (i : W) : isKS (.str i) = true := id rfl
/-! ### operations -/
section
variable (k l m : Kd)
@[simp] theorem prD_add : prD .add = p_add := id rfl
@[simp] theorem prD_sub : prD .sub = p_sub := id rfl
@[simp] theorem prD_mul : prD .mul = p_mul := id rfl
@[simp] theorem prD_fdiv : prD .fdiv = p_fdiv := id rfl
@[simp] theorem prD_mod : prD .mod = p_mod := id rfl
@[simp] theorem prD_pow : prD .pow = p_pow := id rfl
@[simp] theorem prD_neg : prD .neg = p_neg := id rfl
@[simp] theorem prD_eq : prD .eq = p_eq := id rfl
@[simp] theorem prD_ne : prD .ne = p_ne := id rfl
@[simp] theorem prD_lt : prD .lt = p_lt := id rfl
@[simp] theorem prD_le : prD .le = p_le := id rfl
@[simp] theorem prD_gt : prD .gt = p_gt := id rfl
@[simp] theorem prD_ge : prD .ge = p_ge := id rfl
@[simp] theorem prD_isN : prD .isN = p_isN := id rfl
@[simp] theorem prD_notN : prD .notN = p_notN := id rfl
@[simp] theorem prD_isin : prD .isin = p_isin := id rfl
@[simp] theorem prD_notin : prD .notin = p_notin := id rfl
@[simp] theorem prD_len : prD .len = p_len := id rfl
@[simp] theorem prD_idx : prD .idx = p_idx := id rfl
@[simp] theorem prD_cut : prD .cut = p_cut := id rfl
@[simp] theorem prD_cutTo : prD .cutTo = p_cutTo := id rfl
@[simp] theorem prD_cutFrom : prD .cutFrom = p_cutFrom := id rfl
@[simp] theorem prD_rev : prD .rev = p_rev := id rfl
@[simp] theorem prD_every : prD .every = p_every := id rfl
@[simp] theorem prD_min2 : prD .min2 = p_min2 := id rfl
@[simp] theorem prD_max2 : prD .max2 = p_max2 := id rfl
@[simp] theorem prD_min1 : prD .min1 = p_min1 := id rfl
@[simp] theorem prD_max1 : prD .max1 = p_max1 := id rfl
@[simp] theorem prD_minN : prD .minN = p_minN := id rfl
@[simp] theorem prD_minZ : prD .minZ = p_minZ := id rfl
@[simp] theorem prD_maxZ : prD .maxZ = p_maxZ := id rfl
@[simp] theorem prD_sum : prD .sum = p_sum := id rfl
@[simp] theorem prD_all : prD .all = p_all := id rfl
@[simp] theorem prD_any : prD .any = p_any := id rfl
@[simp] theorem prD_sorted : prD .sorted = p_sorted := id rfl
@[simp] theorem prD_list : prD .list = p_list := id rfl
@[simp] theorem prD_tuple : prD .tuple = p_tuple := id rfl
@[simp] theorem prD_dict : prD .dict = p_dict := id rfl
@[simp] theorem prD_dictZip : prD .dictZip = p_dictZip := id rfl
@[simp] theorem prD_int1 : prD .int1 = p_int1 := id rfl
@[simp] theorem prD_str1 : prD .str1 = p_str1 := id rfl
@[simp] theorem prD_isi (T : Nat) : prD (.isi T) = p_isi T := id rfl
@[simp] theorem prD_join : prD .join = p_join := id rfl
@[simp] theorem prD_split : prD .split = p_split := id rfl
@[simp] theorem prD_get1 : prD .get1 = p_get1 := id rfl
@[simp] theorem prD_get2 : prD .get2 = p_get2 := id rfl
@[simp] theorem prD_index : prD .index = p_index := id rfl
@[simp] theorem prD_itemsL : prD .itemsL = p_itemsL := id rfl
@[simp] theorem prD_sortedSet : prD .sortedSet = p_sortedSet := id rfl
@[simp] theorem prD_lenSet : prD .lenSet = p_lenSet := id rfl
@[simp] theorem prD_range1 : prD .range1 = p_range1 := id rfl
@[simp] theorem prD_range2 : prD .range2 = p_range2 := id rfl

@[simp] theorem add_int (i j : Int) : p_add [(.int i, k), (.int j, l)] = some (.int (i + j), .st) := id rfl
@[simp] theorem add_str (v w : W) : p_add [(.str v, k), (.str w, l)] = if v.length + w.length ≤ 16777216 then some (.str (v ++ w), .st) else none := id rfl
@[simp] theorem add_lst (v w : List D) : p_add [(.lst v, k), (.lst w, l)] = if v.length + w.length ≤ 16777216 then some (.lst (v ++ w), kdL (v ++ w) (jn (jn k l) .st)) else none := id rfl
@[simp] theorem sub_int (i j : Int) : p_sub [(.int i, k), (.int j, l)] = some (.int (i - j), .st) := id rfl
@[simp] theorem mul_int (i j : Int) : p_mul [(.int i, k), (.int j, l)] = if (-18446744073709551616 < i ∧ i < 18446744073709551616) ∨ (-18446744073709551616 < j ∧ j < 18446744073709551616) then some (.int (i * j), .st) else none := id rfl
@[simp] theorem fdiv_int (i j : Int) : p_fdiv [(.int i, k), (.int j, l)] = if 0 < j ∧ j < 10 ^ 70 then some (.int (i / j), .st) else none := id rfl
@[simp] theorem mod_int (i j : Int) : p_mod [(.int i, k), (.int j, l)] = if 0 < j then some (.int (i % j), .st) else none := id rfl
@[simp] theorem neg_int (i : Int) : p_neg [(.int i, k)] = some (.int (-i), .st) := id rfl
@[simp] theorem lt_int (i j : Int) : p_lt [(.int i, k), (.int j, l)] = some (.bl (decide (i < j)), .st) := id rfl
@[simp] theorem lt_str (i j : W) : p_lt [(.str i, k), (.str j, l)] = some (.bl (decide (i < j)), .st) := id rfl
@[simp] theorem le_int (i j : Int) : p_le [(.int i, k), (.int j, l)] = some (.bl (decide (i ≤ j)), .st) := id rfl
@[simp] theorem le_str (i j : W) : p_le [(.str i, k), (.str j, l)] = some (.bl (!decide (j < i)), .st) := id rfl
@[simp] theorem gt_int (i j : Int) : p_gt [(.int i, k), (.int j, l)] = some (.bl (decide (j < i)), .st) := id rfl
@[simp] theorem gt_str (i j : W) : p_gt [(.str i, k), (.str j, l)] = some (.bl (decide (j < i)), .st) := id rfl
@[simp] theorem ge_int (i j : Int) : p_ge [(.int i, k), (.int j, l)] = some (.bl (decide (j ≤ i)), .st) := id rfl
@[simp] theorem ge_str (i j : W) : p_ge [(.str i, k), (.str j, l)] = some (.bl (!decide (i < j)), .st) := id rfl
@[simp] theorem isN_eq (d : D) : p_isN [(d, k)] = some (.bl (isNon d), .st) := id rfl
@[simp] theorem notN_eq (d : D) : p_notN [(d, k)] = some (.bl (!isNon d), .st) := id rfl
@[simp] theorem isNon_non : isNon .non = true := id rfl
@[simp] theorem isNon_int (i : Int) : isNon (.int i) = false := id rfl
@[simp] theorem isNon_str (i : W) : isNon (.str i) = false := id rfl
@[simp] theorem isNon_tup (i : List D) : isNon (.tup i) = false := id rfl
@[simp] theorem isNon_lst (i : List D) : isNon (.lst i) = false := id rfl
@[simp] theorem isin_str (v w : W) : p_isin [(.str v, k), (.str w, l)] = some (.bl (isIn v w), .st) := id rfl
@[simp] theorem notin_str (v w : W) : p_notin [(.str v, k), (.str w, l)] = some (.bl (!isIn v w), .st) := id rfl
@[simp] theorem isin_lst (a : D) (xs : List D) : p_isin [(a, k), (.lst xs, l)] = if plain a && xs.all plain then some (.bl (xs.any fun x => eqD x a), .st) else none := by cases a <;> rfl
@[simp] theorem notin_lst (a : D) (xs : List D) : p_notin [(a, k), (.lst xs, l)] = if plain a && xs.all plain then some (.bl (!xs.any fun x => eqD x a), .st) else none := by cases a <;> rfl
@[simp] theorem len_str (w : W) : p_len [(.str w, k)] = some (.int w.length, .st) := id rfl
@[simp] theorem len_lst (w : List D) : p_len [(.lst w, k)] = some (.int w.length, .st) := id rfl
@[simp] theorem len_tup (w : List D) : p_len [(.tup w, k)] = some (.int w.length, .st) := id rfl
@[simp] theorem len_dic (t : Bool) (w : List (D × D)) : p_len [(.dic t w, k)] = some (.int w.length, .st) := id rfl
@[simp] theorem len_scr (w : List Int) : p_len [(.scr w, k)] = some (.int w.length, .st) := id rfl
@[simp] theorem idx_lst (xs : List D) (i : Int) : p_idx [(.lst xs, k), (.int i, l)] = (atL xs i).map fun d => (d, kd d k) := id rfl
@[simp] theorem idx_tup (xs : List D) (i : Int) : p_idx [(.tup xs, k), (.int i, l)] = (atL xs i).map fun d => (d, kd d k) := id rfl
@[simp] theorem idx_scr (xs : List Int) (i : Int) : p_idx [(.scr xs, k), (.int i, l)] = (atL xs i).map fun d => (.int d, .st) := id rfl
@[simp] theorem idx_str (xs : W) (i : Int) : p_idx [(.str xs, k), (.int i, l)] = (atL xs i).map fun d => (.str [d], .st) := id rfl
@[simp] theorem cut_str (w : W) (i j : Int) (m : Kd) : p_cut [(.str w, k), (.int i, l), (.int j, m)] = some (.str (cutL w (some i) (some j)), .st) := id rfl
@[simp] theorem cut_lst (w : List D) (i j : Int) (m : Kd) : p_cut [(.lst w, k), (.int i, l), (.int j, m)] = some (.lst (cutL w (some i) (some j)), kdL (cutL w (some i) (some j)) (jn k .st)) := id rfl
@[simp] theorem cutTo_str (w : W) (j : Int) : p_cutTo [(.str w, k), (.int j, l)] = some (.str (cutL w none (some j)), .st) := id rfl
@[simp] theorem cutTo_lst (w : List D) (j : Int) : p_cutTo [(.lst w, k), (.int j, l)] = some (.lst (cutL w none (some j)), kdL (cutL w none (some j)) (jn k .st)) := id rfl
@[simp] theorem cutFrom_str (w : W) (j : Int) : p_cutFrom [(.str w, k), (.int j, l)] = some (.str (cutL w (some j) none), .st) := id rfl
@[simp] theorem cutFrom_lst (w : List D) (j : Int) : p_cutFrom [(.lst w, k), (.int j, l)] = some (.lst (cutL w (some j) none), kdL (cutL w (some j) none) (jn k .st)) := id rfl
@[simp] theorem rev_str (w : W) : p_rev [(.str w, k)] = some (.str w.reverse, .st) := id rfl
@[simp] theorem rev_lst (w : List D) : p_rev [(.lst w, k)] = some (.lst w.reverse, kdL w.reverse (jn k .st)) := id rfl
@[simp] theorem min2_int (i j : Int) : p_min2 [(.int i, k), (.int j, l)] = some (.int (if j < i then j else i), .st) := id rfl
@[simp] theorem max2_int (i j : Int) : p_max2 [(.int i, k), (.int j, l)] = some (.int (if j > i then j else i), .st) := id rfl
@[simp] theorem list_lst (w : List D) : p_list [(.lst w, k)] = some (.lst w, kdL w (jn k .st)) := id rfl
@[simp] theorem list_tup (w : List D) : p_list [(.tup w, k)] = some (.lst w, kdL w (jn k .st)) := id rfl
@[simp] theorem tuple_lst (w : List D) : p_tuple [(.lst w, k)] = some (.tup w, kdT w (jn k .st)) := id rfl
@[simp] theorem isi_eq (T : Nat) (d : D) : p_isi T [(d, k)] = (isiT T d).map fun b => (.bl b, .st) := id rfl
@[simp] theorem isiT_non (T : Nat) : isiT T .non = some false := id rfl
@[simp] theorem isiT_bl (T : Nat) (b : Bool) : isiT T (.bl b) = some (T == 2 || T == 3) := id rfl
@[simp] theorem isiT_int (T : Nat) (b : Int) : isiT T (.int b) = some (T == 2) := id rfl
@[simp] theorem isiT_str (T : Nat) (b : W) : isiT T (.str b) = some (T == 0) := id rfl
@[simp] theorem isiT_lst (T : Nat) (b : List D) : isiT T (.lst b) = some (T == 1) := id rfl
@[simp] theorem isiT_tup (T : Nat) (b : List D) : isiT T (.tup b) = some (T == 4) := id rfl
end
theorem asInts_map {α : Type} (f : α → Int) : ∀ xs : List α, asInts (xs.map fun a => .int (f a)) = some (xs.map f)
  | [] => rfl
  | x :: xs => by
    show (asInts (xs.map fun a => .int (f a))).map (f x :: ·) = _
    rw [asInts_map f xs]; rfl
theorem asBls_map {α : Type} (f : α → Bool) : ∀ xs : List α, asBls (xs.map fun a => .bl (f a)) = some (xs.map f)
  | [] => rfl
  | x :: xs => by
    show (asBls (xs.map fun a => .bl (f a))).map (f x :: ·) = _
    rw [asBls_map f xs]; rfl
theorem asStrs_map {α : Type} (f : α → W) : ∀ xs : List α, asStrs (xs.map fun a => .str (f a)) = some (xs.map f)
  | [] => rfl
  | x :: xs => by
    show (asStrs (xs.map fun a => .str (f a))).map (f x :: ·) = _
    rw [asStrs_map f xs]; rfl
@[simp] theorem sum_map {α : Type} (f : α → Int) (xs : List α) (k : Kd) : p_sum [(.lst (xs.map fun a => .int (f a)), k)] = some (.int (xs.map f).sum, .st) := by
  show (asInts _).map _ = _
  rw [asInts_map]; rfl
@[simp] theorem all_map {α : Type} (f : α → Bool) (xs : List α) (k : Kd) : p_all [(.lst (xs.map fun a => .bl (f a)), k)] = some (.bl (xs.all f), .st) := by
  show (asBls _).map _ = _
  rw [asBls_map]
  simp [List.all_map, Function.comp_def]
@[simp] theorem any_map {α : Type} (f : α → Bool) (xs : List α) (k : Kd) : p_any [(.lst (xs.map fun a => .bl (f a)), k)] = some (.bl (xs.any f), .st) := by
  show (asBls _).map _ = _
  rw [asBls_map]
  simp [List.any_map, Function.comp_def]
theorem join_eq (s : W) (ws : List W) (h : (ws.map List.length).sum + s.length * ws.length ≤ 16777216) (k l : Kd) : p_join [(.str s, k), (.lst (ws.map .str), l)] = some (.str (joinW s ws), .st) := by
  have e := asStrs_map (fun w : W => w) ws
  simp only [List.map_id'] at e
  have h' : (ws.map List.length).sum + s.length * ws.length ≤ LINE := h
  simp [p_join, e, h']

/-! ### places -/
section
variable {α : Type} (xs : List α)
@[simp] theorem atL_nat (n : Nat) : atL xs (n : Int) = xs[n]? := by
  unfold atL ixI
  rw [if_pos (by omega)]
  by_cases h : (n : Int) < xs.length
  · rw [if_pos h]; simp
  · rw [if_neg h]; simp [List.getElem?_eq_none (show xs.length ≤ n by omega)]
@[simp] theorem atL_ofNat (n : Nat) : atL xs (no_index (OfNat.ofNat n) : Int) = xs[n]? := atL_nat xs n
@[simp] theorem atL_neg1 : atL xs (-1) = xs.getLast? := by
  unfold atL ixI
  rw [if_neg (by omega)]
  by_cases h : xs = []
  · subst h; rfl
  · have hp := List.length_pos_iff.mpr h
    rw [if_pos (by omega)]
    rw [List.getLast?_eq_getElem?]
    simp
    congr 1
    omega
theorem cutL_gen (a b : Nat) : cutL xs (some (a : Int)) (some (b : Int)) = (xs.take b).drop a := by
  unfold cutL sIx
  simp only [show ¬ ((a : Int) < 0) by omega, show ¬ ((b : Int) < 0) by omega, if_false, Int.toNat_natCast]
  rw [List.drop_take, List.drop_eq_drop_iff.mpr (show min (min a xs.length) xs.length = min a xs.length by omega), List.take_eq_take_iff]
  simp
  omega
@[simp] theorem cutL_from (a : Nat) : cutL xs (some (a : Int)) none = xs.drop a := by
  unfold cutL sIx
  simp only [show ¬ ((a : Int) < 0) by omega, if_false, Int.toNat_natCast]
  rw [List.drop_eq_drop_iff.mpr (show min (min a xs.length) xs.length = min a xs.length by omega)]
  apply List.take_of_length_le
  simp
  omega
@[simp] theorem cutL_to (b : Nat) : cutL xs none (some (b : Int)) = xs.take b := by
  unfold cutL sIx
  simp only [show ¬ ((b : Int) < 0) by omega, if_false, Int.toNat_natCast, List.drop_zero, Nat.sub_zero]
  rw [List.take_eq_take_iff]
  omega
@[simp] theorem cutL_from_lit (a : Nat) : cutL xs (some (no_index (OfNat.ofNat a) : Int)) none = xs.drop a := cutL_from xs a
@[simp] theorem cutL_to_lit (a : Nat) : cutL xs none (some (no_index (OfNat.ofNat a) : Int)) = xs.take a := cutL_to xs a
@[simp] theorem cutL_to_neg1 : cutL xs none (some (-1)) = xs.dropLast := by
  unfold cutL sIx
  simp only [show ((-1 : Int) < 0) by omega, if_true, List.drop_zero, Nat.sub_zero]
  rw [List.dropLast_eq_take]
  congr 1
  omega
end

theorem take_mapD {α : Type} (f : α → D) (n : Nat) (xs : List α) : (xs.map f).take n = (xs.take n).map f := List.map_take.symm
theorem drop_mapD {α : Type} (f : α → D) (n : Nat) (xs : List α) : (xs.map f).drop n = (xs.drop n).map f := List.map_drop.symm
theorem rev_mapD {α : Type} (f : α → D) (xs : List α) : (xs.map f).reverse = xs.reverse.map f := List.map_reverse.symm

/-! ### what is walked -/
@[simp] theorem items_lst {α : Type} (f : α → D) (xs : List α) (k : Kd) : itemsOf (.lst (xs.map f)) k = some (xs.map fun a => (f a, kd (f a) (jn k .st))) := by simp [itemsOf]
@[simp] theorem items_tup {α : Type} (f : α → D) (xs : List α) (k : Kd) : itemsOf (.tup (xs.map f)) k = some (xs.map fun a => (f a, kd (f a) (jn k .st))) := by simp [itemsOf]
@[simp] theorem items_str (w : W) (k : Kd) : itemsOf (.str w) k = some (w.map fun c => (.str [c], .st)) := id rfl
@[simp] theorem rng_one (j : Int) (k : Kd) : rngOf [(.int j, k)] = if j ≤ (16777216 : Int) ∧ -1000000000 < j then some ((List.range j.toNat).map fun n => (.int (n : Nat), .st)) else none := id rfl
@[simp] theorem rng_two (i j : Int) (k l : Kd) : rngOf [(.int i, k), (.int j, l)] = if j - i ≤ (16777216 : Int) ∧ -1000000000 < i ∧ i < 1000000000 ∧ -1000000000 < j ∧ j < 1000000000 then some ((List.range (j - i).toNat).map fun n => (.int (i + (n : Nat)), .st)) else none := id rfl
def enumO (c : Bool) (d : D) (k : Kd) (ρ : Env) : Option OutL := match d with
  | .lst ds => if c && k == .bo then none else some (.ok (enumL 0 (ds.map fun x => (x, kd x (jn k .st)))) ρ)
  | _ => none
@[simp high] theorem i_enum' (Z : Far) (c : Bool) (e : E) (ρ : Env) : denI Z c (.enum e) ρ = itO (denE Z e ρ) fun d k ρ1 => enumO c d k ρ1 := by rw [i_enum]; rfl
@[simp high] theorem rng_nat (n : Nat) (k : Kd) : rngOf [(.int (n : Nat), k)] = if n ≤ 16777216 then some ((List.range n).map fun n => (.int (n : Nat), .st)) else none := by
  rw [rng_one]
  by_cases h : n ≤ 16777216
  · rw [if_pos h, if_pos ⟨by omega, by omega⟩, Int.toNat_natCast]
  · rw [if_neg h, if_neg (by omega)]
@[simp high] theorem rng_nat1 (n : Nat) (k : Kd) : rngOf [(.int ((n : Nat) + 1), k)] = if n < 16777216 then some ((List.range (n + 1)).map fun n => (.int (n : Nat), .st)) else none := by
  rw [show ((n : Int) + 1) = ((n + 1 : Nat) : Int) by omega, rng_nat]
  rfl
theorem enumL_map {α : Type} (f : α → D) (k : Kd) : ∀ (n : Nat) (xs : List α), enumL n ((xs.map f).map fun x => (x, kd x (jn k .st))) = (xs.zipIdx n).map fun p => (.tup [.int (p.2 : Nat), f p.1], kdT [.int (p.2 : Nat), f p.1] (jn (kd (f p.1) (jn k .st)) .st))
  | _, [] => rfl
  | n, x :: xs => by
    show _ :: enumL (n + 1) _ = _
    rw [enumL_map f k (n + 1) xs]
    rfl
@[simp] theorem enumO_lst {α : Type} (c : Bool) (f : α → D) (xs : List α) (k : Kd) (ρ : Env) : enumO c (.lst (xs.map f)) k ρ = if c && k == .bo then none else some (.ok (xs.zipIdx.map fun p => (.tup [.int (p.2 : Nat), f p.1], kdT [.int (p.2 : Nat), f p.1] (jn (kd (f p.1) (jn k .st)) .st))) ρ) := by
  rw [← enumL_map f k 0 xs]; rfl
end Al.B
/-! B1: the plain part: loops and comprehensions of the language. -/
namespace Al.B

section
variable {σ β : Type} {body : Env → Option Fl} {tg : Tg} {ks : List Nat}
/-- the end of a turn -/
def endT (ks : List Nat) (o : Option Fl) : Option (Fl ⊕ Env) := match o with
  | some (.nx ρ2) => some (.inr (kill ρ2 ks))
  | some (.ct ρ2) => some (.inr (kill ρ2 ks))
  | some (.bk ρ2) => some (.inl (.nx (kill ρ2 ks)))
  | some (.rt d k ρ2) => some (.inl (.rt d k ρ2))
  | some (.ex c p ρ2) => some (.inl (.ex c p ρ2))
  | none => none
@[simp] theorem endT_nx (ρ : Env) : endT ks (some (.nx ρ)) = some (.inr (kill ρ ks)) := id rfl
@[simp] theorem endT_ct (ρ : Env) : endT ks (some (.ct ρ)) = some (.inr (kill ρ ks)) := id rfl
@[simp] theorem endT_bk (ρ : Env) : endT ks (some (.bk ρ)) = some (.inl (.nx (kill ρ ks))) := id rfl
@[simp] theorem endT_rt (d : D) (k : Kd) (ρ : Env) : endT ks (some (.rt d k ρ)) = some (.inl (.rt d k ρ)) := id rfl
@[simp] theorem endT_ex (c : Nat) (p : D) (ρ : Env) : endT ks (some (.ex c p ρ)) = some (.inl (.ex c p ρ)) := id rfl
@[simp] theorem endT_ite (c : Prop) [Decidable c] (a b : Option Fl) : endT ks (if c then a else b) = if c then endT ks a else endT ks b := by split <;> rfl
/-- a turn -/
def turn (body : Env → Option Fl) (tg : Tg) (ks : List Nat) (x : D × Kd) (ρ : Env) : Option (Fl ⊕ Env) := match bindT tg x.1 x.2 ρ with
  | none => none
  | some ρ1 => endT ks (body ρ1)
@[simp] theorem turn_nm (i : Nat) (d : D) (k : Kd) (ρ : Env) : turn body (.nm i) ks (d, k) ρ = endT ks (body (ρ.set i (some (d, k)))) := id rfl
@[simp] theorem turn_tp1 (i j : Nat) (d e : D) (k : Kd) (ρ : Env) : turn body (.tp [i, j]) ks (.tup [d, e], k) ρ = endT ks (body ((ρ.set i (some (d, kd d (jn k .st)))).set j (some (e, kd e (jn k .st))))) := id rfl
@[simp] theorem turn_tp2 (i j l : Nat) (d e g : D) (k : Kd) (ρ : Env) : turn body (.tp [i, j, l]) ks (.tup [d, e, g], k) ρ = endT ks (body (((ρ.set i (some (d, kd d (jn k .st)))).set j (some (e, kd e (jn k .st)))).set l (some (g, kd g (jn k .st))))) := id rfl
@[simp] theorem turn_tp3 (i j l m : Nat) (d e g h : D) (k : Kd) (ρ : Env) : turn body (.tp [i, j, l, m]) ks (.tup [d, e, g, h], k) ρ = endT ks (body ((((ρ.set i (some (d, kd d (jn k .st)))).set j (some (e, kd e (jn k .st)))).set l (some (g, kd g (jn k .st)))).set m (some (h, kd h (jn k .st))))) := id rfl
theorem loopF_nil (ρ : Env) : loopF body tg ks [] ρ = some (.nx (kill ρ ks)) := rfl
theorem kill_kill (ρ : Env) : ∀ ks : List Nat, kill (kill ρ ks) ks = kill ρ ks := by
  intro ks
  have gen : ∀ (ks : List Nat) (ρ : Env), (kill ρ ks).length = ρ.length ∧ ∀ i, (kill ρ ks)[i]? = if i ∈ ks ∧ i < ρ.length then some none else ρ[i]? := by
    intro ks
    induction ks with
    | nil => intro ρ; simp [kill]
    | cons j r ih =>
      intro ρ
      obtain ⟨l, h⟩ := ih (ρ.set j none)
      refine ⟨by rw [kill, l]; simp, fun i => ?_⟩
      rw [kill, h]
      simp only [List.length_set, List.mem_cons, List.getElem?_set]
      by_cases h1 : i ∈ r <;> by_cases h2 : i < ρ.length <;> by_cases h3 : j = i <;> simp_all
      all_goals (intro hh; exact absurd hh.symm h3)
  apply List.ext_getElem?
  intro i
  obtain ⟨l1, h1⟩ := gen ks (kill ρ ks)
  obtain ⟨l2, h2⟩ := gen ks ρ
  rw [h1, l2]
  by_cases h : i ∈ ks ∧ i < ρ.length
  · rw [if_pos h, h2, if_pos h]
  · rw [if_neg h]
theorem loopF_cons (x : D × Kd) (xs : List (D × Kd)) (ρ : Env) : loopF body tg ks (x :: xs) ρ = (match turn body tg ks x (kill ρ ks) with
    | none => none
    | some (.inl f) => some f
    | some (.inr ρ2) => loopF body tg ks xs ρ2) := by
  have hk : ∀ (ρ : Env) xs, loopF body tg ks xs (kill ρ ks) = loopF body tg ks xs ρ := by
    intro ρ xs
    cases xs with
    | nil => show some (Fl.nx (kill (kill ρ ks) ks)) = some (Fl.nx (kill ρ ks)); rw [kill_kill]
    | cons y ys => simp only [loopF, kill_kill]
  unfold turn
  rw [loopF]
  cases bindT tg x.1 x.2 (kill ρ ks) with
  | none => rfl
  | some ρ1 =>
    simp only
    rcases body ρ1 with _ | ⟨_ | _ | _ | _ | _⟩ <;> simp [endT, hk]
/-- on, or an end -/
def goF (step : σ → β → Fl ⊕ σ) : List β → σ → Fl ⊕ σ
  | [], s => .inr s
  | b :: r, s => match step s b with
    | .inl f => .inl f
    | .inr s' => goF step r s'
/-- what a loop comes to -/
def outF (enc : σ → Env) : Fl ⊕ σ → Fl
  | .inl f => f
  | .inr s => .nx (enc s)
@[simp] theorem outF_inl (enc : σ → Env) (f : Fl) : outF enc (.inl f) = f := id rfl
@[simp] theorem outF_inr (enc : σ → Env) (s : σ) : outF enc (.inr s) = .nx (enc s) := id rfl
def encT (enc : σ → Env) : Fl ⊕ σ → Fl ⊕ Env
  | .inl f => .inl f
  | .inr s => .inr (enc s)
@[simp] theorem encT_inl (enc : σ → Env) (f : Fl) : encT enc (.inl f) = .inl f := id rfl
@[simp] theorem encT_inr (enc : σ → Env) (s : σ) : encT enc (.inr s) = .inr (enc s) := id rfl
theorem loopF_go (P : Nat → σ → Prop) (enc : σ → Env) (it : β → D × Kd) (step : σ → β → Fl ⊕ σ) : ∀ (xs : List β) (n : Nat) (s : σ) (ρ : Env), kill ρ ks = enc s → P n s →
    (∀ i s b, xs[i]? = some b → P (n + i) s → turn body tg ks (it b) (enc s) = some (encT enc (step s b)) ∧ (∀ s', step s b = .inr s' → P (n + i + 1) s' ∧ kill (enc s') ks = enc s')) →
    loopF body tg ks (xs.map it) ρ = some (outF enc (goF step xs s)) ∧ ∀ s', goF step xs s = .inr s' → P (n + xs.length) s'
  | [], n, s, ρ, hk, h0, _ => ⟨by rw [List.map_nil, loopF_nil, hk]; rfl, fun s' e => by cases e; exact h0⟩
  | b :: xs, n, s, ρ, hk, h0, h => by
    obtain ⟨h1, h2⟩ := h 0 s b rfl h0
    rw [List.map_cons, loopF_cons, hk, h1]
    cases e : step s b with
    | inl f => exact ⟨by simp [goF, e, encT, outF], fun s' e' => by simp [goF, e] at e'⟩
    | inr s1 =>
      obtain ⟨p1, k1⟩ := h2 s1 e
      obtain ⟨q1, q2⟩ := loopF_go P enc it step xs (n + 1) s1 (enc s1) k1 p1 fun i s' b' hb hp => by
        have := h (i + 1) s' b' (by simpa using hb) (by rw [show n + (i + 1) = n + 1 + i by omega]; exact hp)
        rw [show n + (i + 1) = n + 1 + i by omega] at this
        exact this
      refine ⟨by simpa [goF, e, encT] using q1, fun s' e' => ?_⟩
      have := q2 s' (by simpa [goF, e] using e')
      rw [List.length_cons, show n + (xs.length + 1) = n + 1 + xs.length by omega]
      exact this
theorem goF_fold (f : σ → β → σ) : ∀ (xs : List β) (s : σ), goF (fun s b => (.inr (f s b) : Fl ⊕ σ)) xs s = .inr (xs.foldl f s)
  | [], _ => rfl
  | b :: xs, s => goF_fold f xs (f s b)
/-- a loop that goes through to its end -/
theorem loopF_fold (P : Nat → σ → Prop) (enc : σ → Env) (it : β → D × Kd) (f : σ → β → σ) (xs : List β) (s : σ) {ρ : Env} (hk : kill ρ ks = enc s) (h0 : P 0 s)
    (h : ∀ i s b, xs[i]? = some b → P i s → turn body tg ks (it b) (enc s) = some (.inr (enc (f s b))) ∧ P (i + 1) (f s b) ∧ kill (enc (f s b)) ks = enc (f s b)) :
    loopF body tg ks (xs.map it) ρ = some (.nx (enc (xs.foldl f s))) ∧ P xs.length (xs.foldl f s) := by
  obtain ⟨q1, q2⟩ := loopF_go (body := body) (tg := tg) (ks := ks) P enc it (fun s b => .inr (f s b)) xs 0 s ρ hk h0 fun i s b hb hp => by
    obtain ⟨a, b, c⟩ := h i s b hb (by simpa using hp)
    exact ⟨a, fun s' e => by cases e; exact ⟨by simpa using b, c⟩⟩
  rw [goF_fold] at q1 q2
  exact ⟨q1, by simpa using q2 _ rfl⟩
/-- a loop that lays things one behind the other -/
theorem loopF_flat {γ : Type} (enc : List γ → Env) (it : β → D × Kd) (g : β → List γ) (c : Nat) (xs : List β) (s : List γ) {ρ : Env} (hk : kill ρ ks = enc s) (hc : ∀ b ∈ xs, (g b).length ≤ c)
    (h : ∀ b ∈ xs, ∀ s' : List γ, s'.length ≤ s.length + xs.length * c → turn body tg ks (it b) (enc s') = some (.inr (enc (s' ++ g b)))) (hk' : ∀ s, kill (enc s) ks = enc s := by intro _; rfl) :
    loopF body tg ks (xs.map it) ρ = some (.nx (enc (s ++ xs.flatMap g))) := by
  have := (loopF_fold (body := body) (tg := tg) (ks := ks) (fun i (s' : List γ) => s'.length ≤ s.length + i * c) enc it (fun s b => s ++ g b) xs s hk (by simp) fun i s' b hb hp => by
    have hm := List.mem_of_getElem? hb
    obtain ⟨hi, _⟩ := List.getElem?_eq_some_iff.mp hb
    have h2 : i * c ≤ xs.length * c := Nat.mul_le_mul_right c (by omega)
    have h3 := hc b hm
    exact ⟨h b hm s' (by omega), by simp [Nat.add_mul]; omega, hk' _⟩).1
  rw [this]
  congr 3
  have : ∀ (xs : List β) (s : List γ), xs.foldl (fun s b => s ++ g b) s = s ++ xs.flatMap g := by
    intro xs
    induction xs with
    | nil => simp
    | cons b r ih => intro s; rw [List.foldl_cons, ih]; simp
  exact this xs s
/-- a loop that takes up some things -/
theorem loopF_coll {γ : Type} (enc : List γ → Env) (it : β → D × Kd) (p : β → Bool) (g : β → γ) (xs : List β) (s : List γ) {ρ : Env} (hk : kill ρ ks = enc s)
    (h : ∀ b ∈ xs, ∀ s' : List γ, s'.length ≤ s.length + xs.length → turn body tg ks (it b) (enc s') = some (.inr (if p b then enc (s' ++ [g b]) else enc s'))) (hk' : ∀ s, kill (enc s) ks = enc s := by intro _; rfl) :
    loopF body tg ks (xs.map it) ρ = some (.nx (enc (s ++ (xs.filter p).map g))) := by
  rw [loopF_flat enc it (fun b => if p b then [g b] else []) 1 xs s hk (fun b _ => by split <;> simp) (fun b hb s' hs => by
    rw [h b hb s' (by omega)]
    split <;> simp) hk']
  congr 4
  clear h
  induction xs with
  | nil => rfl
  | cons b r ih => rw [List.flatMap_cons, ih, List.filter_cons]; split <;> simp
/-- a search: nothing is kept from turn to turn -/
theorem loopF_find (enc : Env) (it : β → D × Kd) (p : β → Bool) (r : β → Fl) (xs : List β) {ρ : Env} (hk : kill ρ ks = enc)
    (h : ∀ b ∈ xs, turn body tg ks (it b) enc = some (if p b then .inl (r b) else .inr enc)) (hk' : kill enc ks = enc := by rfl) :
    loopF body tg ks (xs.map it) ρ = some (match xs.find? p with | some b => r b | none => .nx enc) := by
  induction xs generalizing ρ with
  | nil => rw [List.map_nil, loopF_nil, hk]; rfl
  | cons b xs ih =>
    rw [List.map_cons, loopF_cons, hk, h b List.mem_cons_self]
    cases e : p b with
    | true => simp [e]
    | false =>
      simp only [e, Bool.false_eq_true, if_false, List.find?_cons]
      exact ih hk' fun b hb => h b (List.mem_cons_of_mem _ hb)
/-- a loop that leaves all as it was -/
theorem loopF_same (enc : Env) (it : β → D × Kd) (xs : List β) {ρ : Env} (hk : kill ρ ks = enc)
    (h : ∀ b ∈ xs, turn body tg ks (it b) enc = some (.inr enc)) (hk' : kill enc ks = enc := by rfl) :
    loopF body tg ks (xs.map it) ρ = some (.nx enc) := by
  induction xs generalizing ρ with
  | nil => rw [List.map_nil, loopF_nil, hk]
  | cons b xs ih =>
    rw [List.map_cons, loopF_cons, hk, h b List.mem_cons_self]
    exact ih hk' fun b hb => h b (List.mem_cons_of_mem _ hb)
end
/-! ### comprehensions -/
section
variable {β : Type} {f : D × Kd → Option (Option (D × Kd))} {it g : β → D × Kd} {p : β → Bool}
theorem lcF_map : ∀ {xs : List β}, (∀ x ∈ xs, f (it x) = some (some (g x))) → lcF f (xs.map it) = some (xs.map g)
  | [], _ => rfl
  | x :: xs, h => by
    rw [List.map_cons, lcF, h x List.mem_cons_self]
    simp only
    rw [lcF_map fun y hy => h y (List.mem_cons_of_mem _ hy)]
    rfl
theorem lcF_filt : ∀ {xs : List β}, (∀ x ∈ xs, f (it x) = some (if p x then some (g x) else none)) → lcF f (xs.map it) = some ((xs.filter p).map g)
  | [], _ => rfl
  | x :: xs, h => by
    rw [List.map_cons, lcF, h x List.mem_cons_self]
    cases e : p x with
    | true =>
      simp only [e, if_true, List.filter_cons]
      rw [lcF_filt fun y hy => h y (List.mem_cons_of_mem _ hy)]
      rfl
    | false =>
      simp only [e, Bool.false_eq_true, if_false, List.filter_cons]
      exact lcF_filt fun y hy => h y (List.mem_cons_of_mem _ hy)
end
@[simp high] theorem lcO_map {β : Type} (xs : List β) (f : β → D) (k : Kd) (ρ : Env) : lcO (some (xs.map fun a => (f a, k))) ρ = some (.ok (.lst (xs.map f)) (kdL (xs.map f) (jnA (xs.map fun a => (f a, k)))) ρ) := by
  simp [lcO, Function.comp_def]
/-! ### a comprehension's item -/
section
variable (Z : Far) (ρ : Env) (elt : E)
def lcE (o : Option Out) : Option (Option (D × Kd)) := match o with
  | some (.ok d k _) => some (some (d, k))
  | _ => none
@[simp] theorem lcE_ok (d : D) (k : Kd) : lcE (some (.ok d k ρ)) = some (some (d, k)) := id rfl
@[simp] theorem lcE_ite (c : Prop) [Decidable c] (a b : Option Out) : lcE (if c then a else b) = if c then lcE a else lcE b := by split <;> rfl
def lcC (o : Option OutL) (f : Env → Option (Option (D × Kd))) : Option (Option (D × Kd)) := match o with
  | some (.ok [(.bl c, _)] ρ) => if c then f ρ else some none
  | _ => none
@[simp] theorem lcC_ok (c : Bool) (k : Kd) (f : Env → Option (Option (D × Kd))) : lcC (some (.ok [(.bl c, k)] ρ)) f = if c then f ρ else some none := id rfl
theorem lcI_nm (i : Nat) (d : D) (k : Kd) : lcI Z elt (.nm i) .nil ρ (d, k) = lcE (denE Z elt (ρ.set i (some (d, k)))) := by
  simp only [lcI, bindT, denEs]
  rfl
theorem lcI_nmc (i : Nat) (e : E) (d : D) (k : Kd) : lcI Z elt (.nm i) (.cons e .nil) ρ (d, k) = lcC (denEs Z (.cons e .nil) (ρ.set i (some (d, k)))) fun ρ1 => lcE (denE Z elt ρ1) := by
  have hl : ∀ {ds : List (D × Kd)} {ρ ρ' : Env}, denEs Z (.cons e .nil) ρ = some (.ok ds ρ') → ds ≠ [] := by
    intro ds ρ ρ' h
    rw [vs_cons _ _ rfl] at h
    cases h1 : denE Z e ρ with
    | none => rw [h1] at h; cases h
    | some o =>
      rw [h1] at h
      cases o with
      | ok d k ρ1 => simp at h; intro z; rw [z] at h; simp at h
      | ex c p ρ1 => simp at h
  simp only [lcI, bindT]
  cases h : denEs Z (.cons e .nil) (ρ.set i (some (d, k))) with
  | none => rfl
  | some o =>
    cases o with
    | ex c p ρ1 => rfl
    | ok ds ρ1 =>
      rcases ds with _ | ⟨⟨d, k⟩, _ | ⟨y, ys⟩⟩
      · exact absurd rfl (hl h)
      · cases d <;> try rfl
        rename_i b
        cases b <;> rfl
      · cases d <;> try rfl
        rename_i b
        cases b <;> rfl
theorem lcI_tp (is : List Nat) (d : D) (k : Kd) {ρ1 : Env} (h : bindT (.tp is) d k ρ = some ρ1) : lcI Z elt (.tp is) .nil ρ (d, k) = lcE (denE Z elt ρ1) := by
  simp only [lcI, denEs, h]
  rfl
end
end Al.B
namespace Al.B
@[simp] theorem eff_c_SIGNS : c_SIGNS.eff = false := id rfl
@[simp] theorem eff_c_LONGEST_WORD : c_LONGEST_WORD.eff = false := id rfl
@[simp] theorem eff_c_MOST_TEXTS : c_MOST_TEXTS.eff = false := id rfl
@[simp] theorem eff_c_MOST_SIGNS : c_MOST_SIGNS.eff = false := id rfl
@[simp] theorem eff_f_is_signs_e1 : f_is_signs_e1.eff = false := id rfl
@[simp] theorem mu_f_is_signs : f_is_signs.isMut = false := id rfl
@[simp] theorem mu_f_is_word : f_is_word.isMut = false := id rfl
@[simp] theorem eff_f_signs_in_e1 : f_signs_in_e1.eff = false := id rfl
@[simp] theorem mu_f_signs_in : f_signs_in.isMut = false := id rfl
@[simp] theorem eff_f_is_book_e1 : f_is_book_e1.eff = false := id rfl
@[simp] theorem mu_f_is_book : f_is_book.isMut = false := id rfl
@[simp] theorem mu_f_l_cell_at : f_l_cell_at.isMut = false := id rfl
@[simp] theorem mu_f_l_mixed : f_l_mixed.isMut = false := id rfl
@[simp] theorem mu_f_l_text : f_l_text.isMut = false := id rfl
@[simp] theorem eff_f_l_book_e1 : f_l_book_e1.eff = false := id rfl
@[simp] theorem mu_f_l_book : f_l_book.isMut = false := id rfl
@[simp] theorem mu_f_places : f_places.isMut = false := id rfl
@[simp] theorem eff_f_l_book_k02_e1 : f_l_book_k02_e1.eff = false := id rfl
@[simp] theorem mu_f_l_book_k02 : f_l_book_k02.isMut = false := id rfl
@[simp] theorem mu_f_l_ends : f_l_ends.isMut = false := id rfl
@[simp] theorem mu_f_l_due : f_l_due.isMut = false := id rfl
@[simp] theorem mu_f_l_words : f_l_words.isMut = false := id rfl
@[simp] theorem mu_f_l_alike : f_l_alike.isMut = false := id rfl
@[simp] theorem mu_f_law_k02 : f_law_k02.isMut = false := id rfl
@[simp] theorem mu_f_parts_of : f_parts_of.isMut = false := id rfl
@[simp] theorem mu_f_l_due_k03 : f_l_due_k03.isMut = false := id rfl
@[simp] theorem eff_f_law_k03_e1 : f_law_k03_e1.eff = false := id rfl
@[simp] theorem eff_f_law_k03_e2 : f_law_k03_e2.eff = false := id rfl
@[simp] theorem mu_f_law_k03 : f_law_k03.isMut = false := id rfl
@[simp] theorem eff_f_l_right_e5 : f_l_right_e5.eff = false := id rfl
@[simp] theorem mu_f_l_right : f_l_right.isMut = false := id rfl
@[simp] theorem eff_f_law_k04_e1 : f_law_k04_e1.eff = false := id rfl
@[simp] theorem eff_f_law_k04_e3 : f_law_k04_e3.eff = false := id rfl
@[simp] theorem mu_f_law_k04 : f_law_k04.isMut = false := id rfl
@[simp] theorem mu_f_way_of : f_way_of.isMut = false := id rfl
@[simp] theorem mu_f_walk : f_walk.isMut = false := id rfl
@[simp] theorem mu_f_l_cell : f_l_cell.isMut = false := id rfl
@[simp] theorem mu_f_l_mixed_k13 : f_l_mixed_k13.isMut = false := id rfl
@[simp] theorem eff_f_l_signs_e1 : f_l_signs_e1.eff = false := id rfl
@[simp] theorem mu_f_l_signs : f_l_signs.isMut = false := id rfl
@[simp] theorem mu_f_l_by_digits : f_l_by_digits.isMut = false := id rfl
@[simp] theorem mu_f_l_by_mixing : f_l_by_mixing.isMut = false := id rfl
@[simp] theorem mu_f_l_great : f_l_great.isMut = false := id rfl
@[simp] theorem mu_f_l_book_k13 : f_l_book_k13.isMut = false := id rfl
@[simp] theorem mu_f_l_places : f_l_places.isMut = false := id rfl
@[simp] theorem mu_f_l_by_size : f_l_by_size.isMut = false := id rfl
@[simp] theorem eff_f_l_stands_e2 : f_l_stands_e2.eff = false := id rfl
@[simp] theorem mu_f_l_stands : f_l_stands.isMut = false := id rfl
@[simp] theorem mu_f_l_numbers : f_l_numbers.isMut = false := id rfl
@[simp] theorem mu_f_l_table : f_l_table.isMut = false := id rfl
@[simp] theorem mu_f_l_whole_k13 : f_l_whole_k13.isMut = false := id rfl
@[simp] theorem eff_f_l_same_k13_e1 : f_l_same_k13_e1.eff = false := id rfl
@[simp] theorem mu_f_l_same_k13 : f_l_same_k13.isMut = false := id rfl
@[simp] theorem mu_f_l_word : f_l_word.isMut = false := id rfl
@[simp] theorem mu_f_l_due_k13 : f_l_due_k13.isMut = false := id rfl
@[simp] theorem eff_f_law_k13_e1 : f_law_k13_e1.eff = false := id rfl
@[simp] theorem mu_f_law_k13 : f_law_k13.isMut = false := id rfl
@[simp] theorem mu_f_l_by_size_k14 : f_l_by_size_k14.isMut = false := id rfl
@[simp] theorem eff_f_l_stands_k14_e2 : f_l_stands_k14_e2.eff = false := id rfl
@[simp] theorem mu_f_l_stands_k14 : f_l_stands_k14.isMut = false := id rfl
@[simp] theorem mu_f_l_numbers_k14 : f_l_numbers_k14.isMut = false := id rfl
@[simp] theorem eff_f_unlike_e1 : f_unlike_e1.eff = false := id rfl
@[simp] theorem mu_f_unlike : f_unlike.isMut = false := id rfl
@[simp] theorem eff_f_counted_e1 : f_counted_e1.eff = false := id rfl
@[simp] theorem mu_f_counted : f_counted.isMut = false := id rfl
@[simp] theorem mu_f_l_is_k25 : f_l_is_k25.isMut = false := id rfl
@[simp] theorem eff_f_law_k25_e1 : f_law_k25_e1.eff = false := id rfl
@[simp] theorem eff_f_law_k25_e2 : f_law_k25_e2.eff = false := id rfl
@[simp] theorem mu_f_law_k25 : f_law_k25.isMut = false := id rfl
end Al.B
/-! B2: the books of the laws that are made by cells. -/
namespace Al.B
@[simp] theorem kd_beq_sb : (Kd.st == Kd.bo) = false := rfl
@[simp] theorem kd_beq_fb : (Kd.fr == Kd.bo) = false := rfl
@[simp] theorem kd_beq_bb : (Kd.bo == Kd.bo) = true := rfl
@[simp] theorem kd_beq_sf : (Kd.st == Kd.fr) = false := rfl
@[simp] theorem kd_beq_bf : (Kd.bo == Kd.fr) = false := rfl
@[simp] theorem kd_beq_ff : (Kd.fr == Kd.fr) = true := rfl
theorem LIM_eq : LIM = 18446744073709551616 := rfl
theorem LINE_eq' : LINE = 16777216 := rfl

def cellAt (ns : List Int) (k : Nat) : Int := ns.getD k 0
@[simp] theorem run_cell_at (Z : Far) (ns : List Int) (k : Nat) : run Z f_l_cell_at [.scr ns, .int k] = some (.ok (.int (cellAt ns k)) .st []) := by
  unfold f_l_cell_at
  by_cases h : (k : Int) < ns.length
  · have h' : k < ns.length := by omega
    simp [h, atL, ixI, cellAt, h', List.getD]
  · have h' : ¬ k < ns.length := by omega
    simp [h, cellAt, h', List.getD]
@[simp] theorem run_cell_0 (Z : Far) (ns : List Int) : run Z f_l_cell_at [.scr ns, .int 0] = some (.ok (.int (cellAt ns 0)) .st []) := run_cell_at Z ns 0
theorem run_cell_lit (Z : Far) (ns : List Int) (i : Int) (k : Nat) (h : i = k) : run Z f_l_cell_at [.scr ns, .int i] = some (.ok (.int (cellAt ns k)) .st []) := by rw [h]; exact run_cell_at Z ns k
def mixed1 (c : Int) (k : Int) : Int := (c % 2147483629 + 48271 * k + 11) % 2147483629
def mixed2 (c : Int) (k : Int) : Int := mixed1 c k * mixed1 c k % 2147483629 + 7919 * k
def mixed (c : Int) (k : Int) : Int := mixed2 c k * mixed2 c k % 2147483587
theorem run_mixed (Z : Far) (c : Int) (k : Int) (hk : 0 ≤ k ∧ k < 1000000) : run Z f_l_mixed [.int c, .int k] = some (.ok (.int (mixed c k)) .st []) := by
  unfold f_l_mixed
  have b1 : 0 ≤ mixed1 c k ∧ mixed1 c k < 2147483629 := ⟨Int.emod_nonneg _ (by decide), Int.emod_lt_of_pos _ (by decide)⟩
  have e1 : (c % 2147483629 + 48271 * k + 11) % 2147483629 = mixed1 c k := rfl
  have b2 : 0 ≤ mixed1 c k * mixed1 c k % 2147483629 ∧ mixed1 c k * mixed1 c k % 2147483629 < 2147483629 := ⟨Int.emod_nonneg _ (by decide), Int.emod_lt_of_pos _ (by decide)⟩
  have e2 : mixed1 c k * mixed1 c k % 2147483629 + 7919 * k = mixed2 c k := rfl
  have b3 : -18446744073709551616 < mixed2 c k ∧ mixed2 c k < 18446744073709551616 := by rw [← e2]; omega
  have b4 : -18446744073709551616 < mixed1 c k ∧ mixed1 c k < 18446744073709551616 := by omega
  simp [e1, b4, e2, b3, mixed]
theorem atL_mod {α : Type} (xs : List α) (d : α) (hx : xs ≠ []) (i : Int) : atL xs (i % (xs.length : Int)) = some (xs.getD (i % (xs.length : Int)).toNat d) := by
  have hp : 0 < (xs.length : Int) := by
    cases xs with
    | nil => exact absurd rfl hx
    | cons _ _ => simp
  have h1 := Int.emod_nonneg i (show (xs.length : Int) ≠ 0 by omega)
  have h2 := Int.emod_lt_of_pos i hp
  have h3 : (i % (xs.length : Int)).toNat < xs.length := by omega
  unfold atL ixI
  rw [if_pos h1, if_pos h2]
  simp [List.getElem?_eq_getElem h3, List.getD]
theorem getD_mod_mem {α : Type} (xs : List α) (d : α) (hx : xs ≠ []) (i : Int) : xs.getD (i % (xs.length : Int)).toNat d ∈ xs := by
  have := atL_mod xs d hx i
  unfold atL at this
  rw [Option.bind_eq_some_iff] at this
  obtain ⟨j, _, h⟩ := this
  exact List.mem_of_getElem? h
def chAt (ls : W) (i : Int) : Nat := ls.getD (i % (ls.length : Int)).toNat 0
/-- signs as texts of one sign -/
def ones (w : W) : List D := w.map fun c => .str [c]
@[simp] theorem ones_app (v w : W) : ones (v ++ w) = ones v ++ ones w := List.map_append
@[simp] theorem ones_one (c : Nat) : ones [c] = [.str [c]] := rfl
@[simp] theorem ones_len (w : W) : (ones w).length = w.length := List.length_map _
theorem join_ones' : ∀ w : W, joinW [] (w.map fun c => [c]) = w
  | [] => rfl
  | [c] => rfl
  | c :: d :: r => by
    have := join_ones' (d :: r)
    simp only [List.map_cons] at this ⊢
    rw [joinW, this]
    rfl
theorem sum_ones (w : W) : ((w.map fun c => ([c] : W)).map List.length).sum = w.length := by
  rw [List.map_map]
  induction w with
  | nil => rfl
  | cons c r ih => simp only [List.map_cons, List.sum_cons, ih, Function.comp]; simp; omega
theorem join_ones (w : W) (k l : Kd) (h : w.length ≤ 16777216) : p_join [(.str [], k), (.lst (ones w), l)] = some (.str w, .st) := by
  have e : ones w = (w.map fun c => [c]).map .str := by simp [ones]
  rw [e, join_eq _ _ (by rw [sum_ones]; simpa using h), join_ones']
theorem big_of {j : Int} (h : j < 1000000000) : j < 10000000000000000000000000000000000000000000000000000000000000000000000 := by omega
def textStep (m : Bool) (ls : W) (j : Int) (s : Int × W) (k : Nat) : Int × W :=
  if m then (s.1 / (ls.length : Int), s.2 ++ [chAt ls s.1]) else (s.1, s.2 ++ [chAt ls (mixed s.1 (30 * j + k) / 7)])
def textE (ns : List Int) (ls : W) (most j : Int) (size : Int) (s : Int × W) : Env := [some (.scr ns, .st), some (.str ls, .st), some (.int most, .st), some (.int j, .st), some (.int s.1, .st), some (.int size, .st), some (.lst (ones s.2), .fr), none]
/-- the text that a script makes -/
def textOf (ns : List Int) (ls : W) (most j : Nat) : W :=
  ((List.range (cellAt ns (1 + j) % ((most : Int) + 1)).toNat).foldl (textStep (cellAt ns 0 % 2 = 0) ls j) (cellAt ns (1 + j) / ((most : Int) + 1), [])).2
theorem text_turn (Z : Far) (ns : List Int) (ls : W) (hls : ls ≠ []) (hll : ls.length ≤ 26) (most : Int) (j : Nat) (hj : j ≤ 100) (size : Int) (s : Int × W) (hw : s.2.length ≤ 1000) (k : Nat) (hk : k ≤ 1000) :
    turn (denSs Z f_l_text_b1) (.nm 7) [7] (.int k, .st) (textE ns ls most j size s) = some (.inr (textE ns ls most j size (textStep (cellAt ns 0 % 2 = 0) ls j s k))) := by
  obtain ⟨cell, w⟩ := s
  have hp : 0 < ls.length := List.length_pos_iff.mpr hls
  have hp2 := big_of (j := ls.length) (by omega)
  have hL : w.length < 16777216 := by simp at hw; omega
  have h1 := atL_mod ls 0 hls
  unfold f_l_text_b1 textE
  by_cases hc : cellAt ns 0 % 2 = 0
  · simp [hc, hp, hp2, h1, hL, textStep, chAt]
  · have e1 := run_mixed Z cell (30 * (j : Int) + (k : Int)) (by omega)
    simp [e1, hc, hp, hp2, h1, hL, textStep, chAt]
theorem foldl_len {σ β : Type} (f : σ → β → σ) (m : σ → Nat) (h : ∀ s b, m (f s b) = m s + 1) : ∀ (xs : List β) (s : σ), m (xs.foldl f s) = m s + xs.length
  | [], s => rfl
  | b :: xs, s => by rw [List.foldl_cons, foldl_len f m h, h, List.length_cons]; omega
theorem foldl_all {σ β : Type} (f : σ → β → σ) (P : σ → Prop) (h : ∀ s b, P s → P (f s b)) : ∀ (xs : List β) (s : σ), P s → P (xs.foldl f s)
  | [], s, q => q
  | b :: xs, s, q => foldl_all f P h xs _ (h s b q)
theorem textOf_len (ns : List Int) (ls : W) (most j : Nat) : (textOf ns ls most j).length ≤ most := by
  unfold textOf
  rw [foldl_len (textStep _ ls j) (fun s => s.2.length) (by intro s b; unfold textStep; split <;> simp)]
  have s1 : 0 ≤ cellAt ns (1 + j) % ((most : Int) + 1) := Int.emod_nonneg _ (by omega)
  have s2 : cellAt ns (1 + j) % ((most : Int) + 1) < (most : Int) + 1 := Int.emod_lt_of_pos _ (by omega)
  simp
  omega
theorem textOf_mem (ns : List Int) (ls : W) (hls : ls ≠ []) (most j : Nat) : ∀ c ∈ textOf ns ls most j, c ∈ ls := by
  unfold textOf
  refine foldl_all (textStep _ ls j) (fun s => ∀ c ∈ s.2, c ∈ ls) ?_ _ _ (fun c hc => nomatch hc)
  intro s b h c hc
  unfold textStep at hc
  have hm := getD_mod_mem ls 0 hls
  split at hc <;> rcases List.mem_append.mp hc with hc | hc
  · exact h c hc
  · rw [List.mem_singleton.mp hc]; exact hm _
  · exact h c hc
  · rw [List.mem_singleton.mp hc]; exact hm _
theorem run_text (Z : Far) (ns : List Int) (ls : W) (hls : ls ≠ []) (hll : ls.length ≤ 26) (most : Nat) (hm : most ≤ 1000) (j : Nat) (hj : j ≤ 100) :
    run Z f_l_text [.scr ns, .str ls, .int most, .int j] = some (.ok (.str (textOf ns ls most j)) .st []) := by
  have e0 := run_cell_lit Z ns (1 + (j : Int)) (1 + j) (by omega)
  have s1 : 0 ≤ cellAt ns (1 + j) % ((most : Int) + 1) := Int.emod_nonneg _ (by omega)
  have s2 : cellAt ns (1 + j) % ((most : Int) + 1) < (most : Int) + 1 := Int.emod_lt_of_pos _ (by omega)
  have h1 : 0 < (most : Int) + 1 := by omega
  have h2 := big_of (j := most + 1) (by omega)
  have h3 : cellAt ns (1 + j) % ((most : Int) + 1) ≤ 16777216 ∧ -1000000000 < cellAt ns (1 + j) % ((most : Int) + 1) := by omega
  have hl := textOf_len ns ls most j
  have hj := join_ones (textOf ns ls most j) .st .bo (by omega)
  unfold f_l_text
  simp [e0, h1, h2, h3]
  rw [(loopF_fold (fun i s => s.2.length = i) (textE ns ls most j (cellAt ns (1 + j) % ((most : Int) + 1))) (fun k : Nat => (.int k, .st)) (textStep (cellAt ns 0 % 2 = 0) ls j) _ (cellAt ns (1 + j) / ((most : Int) + 1), []) rfl rfl fun i s k hk hp => by
      obtain ⟨h4, h5⟩ := List.getElem?_eq_some_iff.mp hk
      simp at h4 h5
      exact ⟨text_turn Z ns ls hls hll most j (by omega) _ s (by omega) k (by omega), by unfold textStep; split <;> simp [hp], rfl⟩).1]
  unfold f_l_text_r2 textE
  rw [show ((List.range (cellAt ns (1 + j) % ((most : Int) + 1)).toNat).foldl (textStep (cellAt ns 0 % 2 = 0) ls j) (cellAt ns (1 + j) / ((most : Int) + 1), [])).2 = textOf ns ls most j from rfl]
  simp [hj]

/-- a sign: a to z -/
def isSg (c : Nat) : Prop := 97 ≤ c ∧ c ≤ 122
/-- how many signs -/
def total (b : List W) : Nat := (b.map List.length).sum
/-- a book -/
structure Bk (b : List W) : Prop where
  n : b.length ≤ 8
  t : total b ≤ 120
  sg : ∀ w ∈ b, ∀ c ∈ w, isSg c
theorem total_le (m : Nat) : ∀ b : List W, (∀ w ∈ b, w.length ≤ m) → total b ≤ b.length * m
  | [], _ => by simp [total]
  | w :: b, h => by
    have h1 := h w List.mem_cons_self
    have h2 := total_le m b fun w hw => h w (List.mem_cons_of_mem _ hw)
    simp only [total, List.map_cons, List.sum_cons, List.length_cons, Nat.add_mul] at h2 ⊢
    omega
theorem len_le_total : ∀ (b : List W) (w : W), w ∈ b → w.length ≤ total b
  | w' :: b, w, h => by
    simp only [total, List.map_cons, List.sum_cons]
    rcases List.mem_cons.mp h with rfl | h
    · omega
    · have := len_le_total b w h
      simp only [total] at this
      omega
theorem Bk.len {b : List W} (h : Bk b) {w : W} (hw : w ∈ b) : w.length ≤ 120 := Nat.le_trans (len_le_total b w hw) h.t
theorem atL_in {α : Type} (xs : List α) (i : Int) (h0 : 0 ≤ i) (h : i < xs.length) : ∃ x ∈ xs, atL xs i = some x := by
  refine ⟨xs[i.toNat]'(by omega), List.getElem_mem _, ?_⟩
  unfold atL ixI
  rw [if_pos h0, if_pos h]
  simp [List.getElem?_eq_getElem (show i.toNat < xs.length by omega)]
def LETS : List W := [[97, 98], [97, 98, 99], [97, 98, 99, 100], [97, 122], [97], [97, 98, 99, 100, 101, 102, 103, 104, 105, 106, 107, 108, 109, 110, 111, 112, 113, 114, 115, 116, 117, 118, 119, 120, 121, 122]]
theorem LETS_ok : ∀ ls ∈ LETS, ls ≠ [] ∧ ls.length ≤ 26 ∧ ∀ c ∈ ls, 97 ≤ c ∧ c ≤ 122 := by decide
theorem book_ok (ns : List Int) (ls : W) (hl : ls ∈ LETS) (n m : Nat) (hn : n ≤ 8) (h : n * m ≤ 120) : Bk ((List.range n).map fun j => textOf ns ls m j) := by
  obtain ⟨h1, h2, h3⟩ := LETS_ok ls hl
  refine ⟨by simp; omega, ?_, fun w hw c hc => ?_⟩
  · have := total_le m ((List.range n).map fun j => textOf ns ls m j) fun w hw => by
      obtain ⟨j, _, rfl⟩ := List.mem_map.mp hw
      exact textOf_len ns ls m j
    simp at this
    omega
  · obtain ⟨j, _, rfl⟩ := List.mem_map.mp hw
    exact h3 c (textOf_mem ns ls h1 m j c hc)
theorem mod_in (c : Int) (m : Int) (h : 0 < m) : 0 ≤ c % m ∧ c % m < m := ⟨Int.emod_nonneg _ (by omega), Int.emod_lt_of_pos _ h⟩
theorem atL_map {α β : Type} (f : α → β) (xs : List α) (i : Int) : atL (xs.map f) i = (atL xs i).map f := by
  unfold atL
  rw [List.length_map]
  cases ixI xs.length i <;> simp
theorem run_book_k02 (Z : Far) (ns : List Int) : ∃ b, run Z f_l_book_k02 [.scr ns] = some (.ok (.lst (b.map .str)) .fr []) ∧ Bk b := by
  obtain ⟨ls, hl, e1⟩ := atL_in LETS (cellAt ns 0 / 2 % 6) (mod_in _ 6 (by decide)).1 (mod_in _ 6 (by decide)).2
  obtain ⟨n, hn, e2⟩ := atL_in [1, 2, 3, 4, 2, 1, 0, 8] (cellAt ns 0 / 12 % 8) (mod_in _ 8 (by decide)).1 (mod_in _ 8 (by decide)).2
  obtain ⟨q, hq, e3⟩ := atL_in [60, 120] (cellAt ns 0 / 768 % 2) (mod_in _ 2 (by decide)).1 (mod_in _ 2 (by decide)).2
  have e1' := atL_map D.str LETS (cellAt ns 0 / 2 % 6)
  have e2' := atL_map (fun n : Nat => D.int n) [1, 2, 3, 4, 2, 1, 0, 8] (cellAt ns 0 / 12 % 8)
  have e3' := atL_map (fun n : Nat => D.int n) [60, 120] (cellAt ns 0 / 768 % 2)
  rw [e1] at e1'; rw [e2] at e2'; rw [e3] at e3'
  simp [LETS] at e1' e2' e3'
  obtain ⟨hl1, hl2, hl3⟩ := LETS_ok ls hl
  have hn' : n = 0 ∨ n = 1 ∨ n = 2 ∨ n = 3 ∨ n = 4 ∨ n = 8 := by simp at hn; omega
  have key : ∀ m : Nat, n * m ≤ 120 → m ≤ 1000 → ∃ b : List W, lcF (lcI Z f_l_book_k02_e1 (.nm 5) .nil [some (.scr ns, .st), some (.int (cellAt ns 0), .st), some (.str ls, .st), some (.int n, .st), some (.int m, .st), none]) ((List.range n).map fun n => (.int (n : Nat), .st)) = some (b.map fun w => (.str w, .st)) ∧ Bk b := by
    intro m hm hm2
    refine ⟨_, ?_, book_ok ns ls hl n m (by omega) hm⟩
    rw [List.map_map]
    refine lcF_map fun j hj => ?_
    rw [lcI_nm]
    simp [f_l_book_k02_e1, run_text Z ns ls hl1 hl2 m hm2 j (by simp at hj; omega)]
  obtain ⟨m4, h4, h4'⟩ : ∃ m4 : Nat, atL [D.int 24, D.int 12, D.int 8, D.int 6] ((if (4 : Int) < (n : Int) then (4 : Int) else (n : Int)) - 1) = some (.int m4) ∧ (n ≠ 8 → n * m4 ≤ 120) ∧ m4 ≤ 1000 := by
    rcases hn' with rfl | rfl | rfl | rfl | rfl | rfl <;> first | exact ⟨24, rfl, by omega, by omega⟩ | exact ⟨12, rfl, by omega, by omega⟩ | exact ⟨8, rfl, by omega, by omega⟩ | exact ⟨6, rfl, by omega, by omega⟩
  obtain ⟨m5, h6, h6'⟩ : ∃ m5 : Nat, (q : Int) / (if (1 : Int) < (n : Int) then (n : Int) else (1 : Int)) = m5 ∧ n * m5 ≤ 120 ∧ m5 ≤ 1000 := by
    simp at hq
    rcases hq with rfl | rfl <;> rcases hn' with rfl | rfl | rfl | rfl | rfl | rfl <;> exact ⟨_, rfl, by decide, by decide⟩
  have hn8 : n ≤ 16777216 := by omega
  have h7 : (0 : Int) < (if (1 : Int) < (n : Int) then (n : Int) else (1 : Int)) := by split <;> omega
  have h8 := big_of (j := (if (1 : Int) < (n : Int) then (n : Int) else (1 : Int))) (by split <;> omega)
  unfold f_l_book_k02
  by_cases h5 : cellAt ns 0 / 96 % 8 = 5
  · obtain ⟨b, hb, hB⟩ := key m5 h6'.1 h6'.2
    exact ⟨b, by simp [e1', e2', e3', h5, h4, h6, h7, h8, hn8, hb], hB⟩
  · by_cases h9 : n = 8
    · subst h9
      obtain ⟨b, hb, hB⟩ := key 3 (by decide) (by decide)
      simp at hb
      exact ⟨b, by simp [e1', e2', e3', h5, hb], hB⟩
    · obtain ⟨b, hb, hB⟩ := key m4 (h4'.1 h9) h4'.2
      have h9' : ¬ (n : Int) = 8 := by omega
      exact ⟨b, by simp [e1', e2', e3', h5, h4, h9', hn8, hb], hB⟩
end Al.B
/-! B3: places. -/
namespace Al.B
/-- a text's number and an end -/
abbrev Pl := Nat × Nat
def eP (p : Pl) : D := .tup [.int p.1, .int p.2]
instance (n : Nat) : Flt eP (n + 1) := ⟨fun a => by simp [eP]⟩
instance (n : Nat) : Enc eP (n + 1) := ⟨fun a => by simp [eP], fun a b => by
  obtain ⟨a1, a2⟩ := a
  obtain ⟨b1, b2⟩ := b
  by_cases h1 : a1 = b1 <;> by_cases h2 : a2 = b2 <;> simp [eP, h1, h2] <;> omega⟩
/-- the ends of a word in a text -/
def endsIn (t w : W) : List Nat := ((List.range (t.length + 1 - w.length)).map (w.length + ·)).filter fun e => (t.take e).drop (e - w.length) = w
def places (b : List W) (w : W) : List Pl := b.zipIdx.flatMap fun p => (endsIn p.1 w).map fun e => (p.2, e)
theorem endsIn_len (t w : W) : (endsIn t w).length ≤ t.length + 1 := by
  unfold endsIn
  have := List.length_filter_le (fun e => decide ((t.take e).drop (e - w.length) = w)) ((List.range (t.length + 1 - w.length)).map (w.length + ·))
  simp at this
  omega
theorem cutL_mid (t : W) (a b : Nat) (x y : Int) (hx : x = a) (hy : y = b) : cutL t (some x) (some y) = (t.take b).drop a := by rw [hx, hy]; exact cutL_gen t a b
def placesE (b : List W) (w : W) (n : Option (D × Kd)) (t : Option (D × Kd)) (s : List Pl) : Env := [some (.lst (b.map .str), .st), some (.str w, .st), some (.lst (s.map eP), .fr), n, t, none]
theorem range_map_two (a m : Nat) : ((List.range m).map fun n => ((.int ((a : Int) + (n : Nat)), .st) : D × Kd)) = ((List.range m).map (a + ·)).map fun n => (.int (n : Nat), .st) := by
  rw [List.map_map]
  congr
theorem run_places (Z : Far) (b : List W) (w : W) (hb : ∀ t ∈ b, t.length ≤ 1000) (hl : b.length ≤ 100) (hw : w.length ≤ 1000) : run Z f_places [.lst (b.map .str), .str w] = some (.ok (.lst ((places b w).map eP)) .fr []) := by
  unfold f_places
  simp
  rw [loopF_flat (placesE b w none none) _ (fun p => (endsIn p.1 w).map fun e => (p.2, e)) 1001 b.zipIdx [] rfl ?_ ?_]
  · simp [placesE, f_places_r3, places]
  · intro p hp
    have := endsIn_len p.1 w
    have := hb _ (List.fst_mem_of_mem_zipIdx hp)
    simp
    omega
  · intro ⟨t, n⟩ hp s hs
    have ht := hb _ (List.fst_mem_of_mem_zipIdx hp)
    simp at ht hs
    simp [f_places_b2, placesE]
    rw [if_pos (by omega)]
    simp
    rw [range_map_two, loopF_coll (placesE b w (some (.int n, .st)) (some (.str t, .st))) _ (fun e => decide ((t.take e).drop (e - w.length) = w)) (fun e => (n, e)) _ s rfl ?_]
    · simp [placesE, endsIn]
    · intro e he s' hs'
      simp at he hs'
      have h1 := cutL_mid t (e - w.length) e (e - w.length) e (by omega) rfl
      have h2 : s'.length < 16777216 := by
        have : b.length * 1001 ≤ 100 * 1001 := Nat.mul_le_mul_right _ hl
        omega
      by_cases hc : (t.take e).drop (e - w.length) = w
      · simp [f_places_b1, placesE, h1, h2, hc, eP]
      · simp [f_places_b1, placesE, h1, h2, hc]
end Al.B
/-! B4: the law of places. -/
namespace Al.B
theorem drop_take_eq_iff (t w : W) (e : Nat) (he : e ≤ t.length) (hl : w.length ≤ e) : (t.take e).drop (e - w.length) = w ↔ ∀ k, k < w.length → t[e - w.length + k]? = w[k]? := by
  constructor
  · intro h k hk
    conv => rhs; rw [← h]
    rw [List.getElem?_drop, List.getElem?_take_of_lt (by omega)]
  · intro h
    apply List.ext_getElem?
    intro k
    by_cases hk : k < w.length
    · rw [← h k hk, List.getElem?_drop, List.getElem?_take_of_lt (by omega)]
    · rw [List.getElem?_eq_none (by simp; omega), List.getElem?_eq_none (by omega)]
def endsAt (t w : W) (e : Nat) : Bool := decide (w.length ≤ e ∧ (t.take e).drop (e - w.length) = w)
theorem find_none_iff {β : Type} (p : β → Bool) (xs : List β) : xs.find? p = none ↔ ∀ b ∈ xs, p b = false := by simp
theorem run_ends (Z : Far) (t w : W) (e : Nat) (he : e ≤ t.length) (hw : w.length ≤ 1000) (ht : t.length ≤ 1000) : run Z f_l_ends [.str t, .str w, .int e] = some (.ok (.bl (endsAt t w e)) .st []) := by
  unfold f_l_ends endsAt
  by_cases hl : w.length ≤ e
  · have h1 : ¬ e < w.length := by omega
    have h2 : w.length ≤ 16777216 := by omega
    simp [h1, hl, h2]
    rw [loopF_find [some (.str t, .st), some (.str w, .st), some (.int e, .st), none] _ (fun k => decide (t[e - w.length + k]? ≠ w[k]?)) (fun k => .rt (.bl false) .st [some (.str t, .st), some (.str w, .st), some (.int e, .st), some (.int k, .st)]) _ rfl ?_]
    · have hD := Classical.propDecidable (∀ k, k < w.length → t[e - w.length + k]? = w[k]?)
      rw [show decide ((t.take e).drop (e - w.length) = w) = decide (∀ k, k < w.length → t[e - w.length + k]? = w[k]?) from decide_eq_decide.mpr (drop_take_eq_iff t w e he hl)]
      cases hf : (List.range w.length).find? (fun k => decide (t[e - w.length + k]? ≠ w[k]?)) with
      | none =>
        have := (find_none_iff _ _).mp hf
        simp at this
        simp [f_l_ends_r2]
        exact this
      | some k =>
        have h3 := List.find?_some hf
        have h4 := List.mem_of_find?_eq_some hf
        simp at h3 h4
        simp
        exact ⟨k, h4, h3⟩
    · intro k hk
      simp at hk
      have h3 : ((e : Int) - (w.length : Int) + (k : Int)) = ((e - w.length + k : Nat) : Int) := by omega
      have h4 : e - w.length + k < t.length := by omega
      have h5 := atL_nat t (e - w.length + k)
      rw [← h3] at h5
      simp [f_l_ends_b1, h5, hk, h4]
      split <;> rfl
  · have h1 : e < w.length := by omega
    simp [h1, hl]
def due (b : List W) (w : W) : List Pl := (List.range b.length).flatMap fun n => ((List.range ((b.getD n []).length + 1)).filter (endsAt (b.getD n []) w)).map fun e => (n, e)
theorem flatMap_zipIdx {α γ : Type} (d : α) (f : α → Nat → List γ) : ∀ (b : List α) (k : Nat), (b.zipIdx k).flatMap (fun p => f p.1 p.2) = (List.range b.length).flatMap fun n => f (b.getD n d) (k + n)
  | [], k => rfl
  | x :: b, k => by
    rw [List.zipIdx_cons, List.flatMap_cons, flatMap_zipIdx d f b (k + 1), List.length_cons, List.range_succ_eq_map, List.flatMap_cons, List.flatMap_map]
    simp [Nat.add_assoc, Nat.add_comm, Nat.add_left_comm]
theorem filter_range_add (p : Nat → Bool) (m n : Nat) (h : ∀ k, k < m → p k = false) : (List.range (m + n)).filter p = ((List.range n).map (m + ·)).filter p := by
  rw [List.range_add, List.filter_append]
  rw [List.filter_eq_nil_iff.mpr (by intro k hk; simp at hk; simp [h k hk])]
  rfl
theorem endsIn_eq (t w : W) : endsIn t w = (List.range (t.length + 1)).filter (endsAt t w) := by
  unfold endsIn
  by_cases h : w.length ≤ t.length + 1
  · rw [show t.length + 1 = w.length + (t.length + 1 - w.length) by omega, filter_range_add (endsAt t w) w.length _ (by intro k hk; simp [endsAt]; omega), Nat.add_sub_cancel_left]
    apply List.filter_congr
    intro e he
    simp at he
    have : w.length ≤ e := by omega
    simp [endsAt, this]
  · rw [show t.length + 1 - w.length = 0 by omega]
    symm
    simp [endsAt]
    intro a ha
    omega
theorem due_eq (b : List W) (w : W) : due b w = places b w := by
  unfold due places
  rw [flatMap_zipIdx [] (fun t n => (endsIn t w).map fun e => (n, e))]
  simp [endsIn_eq]
def dueE (b : List W) (w : W) (n : Option (D × Kd)) (s : List Pl) : Env := [some (.lst (b.map .str), .st), some (.str w, .st), some (.lst (s.map eP), .fr), n, none]
theorem run_due (Z : Far) (b : List W) (w : W) (hb : ∀ t ∈ b, t.length ≤ 1000) (hl : b.length ≤ 100) (hw : w.length ≤ 1000) : run Z f_l_due [.lst (b.map .str), .str w] = some (.ok (.lst ((places b w).map eP)) .fr []) := by
  rw [← due_eq]
  unfold f_l_due
  have hl' : b.length ≤ 16777216 := by omega
  simp [hl']
  have hbd : ∀ n, n < b.length → (b.getD n []).length ≤ 1000 := fun n hn => hb _ (by rw [List.getD_eq_getElem?_getD, List.getElem?_eq_getElem hn]; exact List.getElem_mem hn)
  rw [loopF_flat (dueE b w none) _ (fun n => ((List.range ((b.getD n []).length + 1)).filter (endsAt (b.getD n []) w)).map fun e => (n, e)) 1001 _ [] rfl ?_ ?_]
  · simp [dueE, f_l_due_r3, due]
  · intro n hn
    simp at hn
    have := hbd n hn
    have h2 := List.length_filter_le (endsAt (b.getD n []) w) (List.range ((b.getD n []).length + 1))
    simp at h2 this ⊢
    omega
  · intro n hn s hs
    simp at hn hs
    have ht := hbd n hn
    have h1 : b[n]? = some (b.getD n []) := by simp [List.getD_eq_getElem?_getD, List.getElem?_eq_getElem hn]
    generalize b.getD n [] = t at *
    have h3 : t.length < 16777216 := by omega
    simp [f_l_due_b2, dueE, h1, h3]
    rw [loopF_coll (dueE b w (some (.int n, .st))) _ (endsAt t w) (fun e => (n, e)) _ s rfl ?_]
    · simp [dueE]
    · intro e he s' hs'
      simp at he hs'
      have h2 : s'.length < 16777216 := by
        have : b.length * 1001 ≤ 100 * 1001 := Nat.mul_le_mul_right _ hl
        omega
      have h4 := run_ends Z t w e (by omega) hw ht
      by_cases hc : endsAt t w e = true
      · simp [f_l_due_b1, dueE, h1, h2, h4, hc, eP]
      · simp at hc
        simp [f_l_due_b1, dueE, h1, h2, h4, hc, eP]
end Al.B
/-! B5: the law of places, to its end. -/
namespace Al.B
theorem cutL_len {α : Type} (xs : List α) (a b : Option Int) : (cutL xs a b).length ≤ xs.length := by
  unfold cutL
  simp
  omega
theorem pos_mod (c m : Int) (h : 0 < m) : 0 ≤ c % m ∧ c % m < m := mod_in c m h
theorem run_words (Z : Far) (b : List W) (hB : Bk b) (c : Int) : ∃ ws : List W, run Z f_l_words [.lst (b.map .str), .int c] = some (.ok (.lst (ws.map .str)) .fr []) ∧ ∀ w ∈ ws, w.length ≤ 300 := by
  unfold f_l_words
  by_cases hb : b = []
  · subst hb
    exact ⟨[[], [97], [98, 97]], by simp, by simp⟩
  · have hbl : 0 < (b.length : Int) := by have := List.length_pos_iff.mpr hb; omega
    have e1 := atL_mod b [] hb c
    have ht := hB.len (getD_mod_mem b [] hb c)
    generalize b.getD (c % (b.length : Int)).toNat [] = t at e1 ht
    have e1' : atL (b.map D.str) (c % (b.length : Int)) = some (.str t) := by rw [atL_map, e1]; rfl
    have hs := pos_mod (c / 8) (t.length + 1) (by omega)
    have hw := cutL_len t (some (c / 8 % (t.length + 1))) (some (c / 8 % (t.length + 1) + c / 512 % (t.length - c / 8 % (t.length + 1) + 1)))
    generalize hst : c / 8 % ((t.length : Int) + 1) = st at *
    have h1 : 0 < (t.length : Int) - st + 1 := by omega
    generalize hwd : cutL t (some st) (some (st + c / 512 % (t.length - st + 1))) = w at *
    have ha := pos_mod (c / 32768) (w.length + 1) (by omega)
    generalize hat : c / 32768 % ((w.length : Int) + 1) = a at *
    obtain ⟨z, hz, e2⟩ := atL_in [97, 98, 99, 122] (c / 7 % 4) (mod_in _ 4 (by decide)).1 (mod_in _ 4 (by decide)).2
    have e2' := e2
    simp at hz
    have h2 := cutL_len w none (some a)
    have h3 := cutL_len w (some a) none
    have h4 := cutL_len w (some (a + 1)) none
    have hb' : ¬ b.isEmpty = true := by simpa using hb
    have g1 : 0 < (t.length : Int) + 1 := by omega
    have g2 : 0 < (w.length : Int) + 1 := by omega
    have g3 : 0 < b.length := by omega
    have g4 : (cutL w none (some a)).length + 1 ≤ 16777216 := by omega
    have g5 : (cutL w none (some a)).length + 1 + (cutL w (some a) none).length ≤ 16777216 := by omega
    have g6 : (cutL w none (some a)).length + 1 + (cutL w (some (a + 1)) none).length ≤ 16777216 := by omega
    have g7 : (cutL w none (some a)).length + (cutL w (some (a + 1)) none).length ≤ 16777216 := by omega
    have g8 : t.length + 1 ≤ 16777216 := by omega
    refine ⟨[[], w, cutL w none (some a) ++ [z] ++ cutL w (some (a + 1)) none, cutL w none (some a) ++ [z] ++ cutL w (some a) none, cutL w none (some a) ++ cutL w (some (a + 1)) none, t ++ [z]], ?_, ?_⟩
    · simp [hb, hbl, e1', hst, h1, hwd, hat, e2', g1, g2, g3, g4, g5, g6, g7, g8]
    · simp
      omega
theorem run_alike (Z : Far) (ps qs : List Pl) : run Z f_l_alike [.lst (ps.map eP), .lst (qs.map eP)] = some (.ok (.bl (decide (ps = qs))) .st []) := by
  unfold f_l_alike
  by_cases h : ps = qs
  · subst h
    simp
    rw [loopF_same [some (.lst (ps.map eP), .st), some (.lst (ps.map eP), .st), none] _ _ rfl ?_]
    · simp [f_l_alike_r2]
    · intro p hp
      simp [f_l_alike_b1, eP]
  · simp [h]
def lawE (ns : List Int) (b : List W) (k : Option (D × Kd)) : Env := [some (.scr ns, .st), some (.lst (b.map .str), .st), some (.lst (b.map .str), .st), k, none, none, none]
theorem range_lit (n : Nat) (f : Nat → D × Kd) : (List.range n).map f = (List.range n).map f := rfl
theorem places_len (b : List W) (w : W) (hB : Bk b) : (places b w).length ≤ 1000 := by
  unfold places
  have : ∀ (b : List W) (k : Nat), (∀ t ∈ b, t.length ≤ 120) → ((b.zipIdx k).flatMap fun p => (endsIn p.1 w).map fun e => (p.2, e)).length ≤ b.length * 121 := by
    intro b
    induction b with
    | nil => intro k _; simp
    | cons t r ih =>
      intro k h
      have h1 := ih (k + 1) fun t ht => h t (List.mem_cons_of_mem _ ht)
      have h2 := endsIn_len t w
      have h3 := h t List.mem_cons_self
      rw [List.zipIdx_cons, List.flatMap_cons, List.length_append, List.length_map, List.length_cons, Nat.add_mul]
      simp only at h2 ⊢
      omega
  have h1 := this b 0 fun t ht => hB.len ht
  have h2 : b.length * 121 ≤ 8 * 121 := Nat.mul_le_mul_right _ hB.n
  omega
def Z_k02 : Far := fun _ _ => none
theorem run_k02 (ns : List Int) (hns : ns.length ≤ 63) : ∃ k out, run Z_k02 f_law_k02 [.scr ns] = some (.ok (.bl true) k out) := by
  obtain ⟨b, e1, hB⟩ := run_book_k02 Z_k02 ns
  have hb : ∀ t ∈ b, t.length ≤ 1000 := fun t ht => by have := hB.len ht; omega
  have hn := hB.n
  refine ⟨.st, [], ?_⟩
  unfold f_law_k02
  simp [e1]
  rw [loopF_same (lawE ns b none) (fun n : Nat => (.int n, .st)) (List.range 6) rfl ?_]
  · simp [f_law_k02_r3]
  · intro k hk
    simp at hk
    have e2 := run_cell_lit Z_k02 ns (12 + (k : Int)) (12 + k) (by omega)
    have e3 : ∃ ws : List W, run Z_k02 f_l_words [.lst (b.map .str), .int (cellAt ns (12 + k) + 524309 * (k : Int))] = some (.ok (.lst (ws.map .str)) .fr []) ∧ ∀ w ∈ ws, w.length ≤ 300 := run_words Z_k02 b hB _
    obtain ⟨ws, e3, hw⟩ := e3
    simp [f_law_k02_b2, lawE, e2, e3]
    rw [loopF_same (lawE ns b (some (.int k, .st))) _ ws rfl ?_]
    · simp [lawE]
    · intro w hws
      have hwl := hw w hws
      have e4 := run_due Z_k02 b w hb (by omega) (by omega)
      have e5 := run_places Z_k02 b w hb (by omega) (by omega)
      have e6 := run_alike Z_k02 (places b w) (places b w)
      have h7 := places_len b w hB
      have h8 : (places b w).length < 16777216 := by omega
      simp [f_law_k02_b1, lawE, e4, e5, e6, h8]
end Al.B
/-! B6: what is a word, what is a book; the books of most laws by cells. -/
namespace Al.B
theorem run_book (Z : Far) (ns : List Int) : ∃ b, run Z f_l_book [.scr ns] = some (.ok (.lst (b.map .str)) .fr []) ∧ Bk b ∧ total b ≤ 60 := by
  obtain ⟨ls, hl, e1⟩ := atL_in LETS (cellAt ns 0 / 2 % 6) (mod_in _ 6 (by decide)).1 (mod_in _ 6 (by decide)).2
  obtain ⟨n, hn, e2⟩ := atL_in [1, 2, 3, 4, 2, 1, 0, 8] (cellAt ns 0 / 12 % 8) (mod_in _ 8 (by decide)).1 (mod_in _ 8 (by decide)).2
  have e1' := atL_map D.str LETS (cellAt ns 0 / 2 % 6)
  have e2' := atL_map (fun n : Nat => D.int n) [1, 2, 3, 4, 2, 1, 0, 8] (cellAt ns 0 / 12 % 8)
  rw [e1] at e1'; rw [e2] at e2'
  simp [LETS] at e1' e2'
  obtain ⟨hl1, hl2, hl3⟩ := LETS_ok ls hl
  have hn' : n = 0 ∨ n = 1 ∨ n = 2 ∨ n = 3 ∨ n = 4 ∨ n = 8 := by simp at hn; omega
  have key : ∀ m : Nat, n * m ≤ 60 → m ≤ 1000 → ∃ b : List W, lcF (lcI Z f_l_book_e1 (.nm 5) .nil [some (.scr ns, .st), some (.int (cellAt ns 0), .st), some (.str ls, .st), some (.int n, .st), some (.int m, .st), none]) ((List.range n).map fun n => (.int (n : Nat), .st)) = some (b.map fun w => (.str w, .st)) ∧ Bk b ∧ total b ≤ 60 := by
    intro m hm hm2
    refine ⟨_, ?_, book_ok ns ls hl n m (by omega) (by omega), ?_⟩
    · rw [List.map_map]
      refine lcF_map fun j hj => ?_
      rw [lcI_nm]
      simp [f_l_book_e1, run_text Z ns ls hl1 hl2 m hm2 j (by simp at hj; omega)]
    · have := total_le m ((List.range n).map fun j => textOf ns ls m j) fun w hw => by
        obtain ⟨j, _, rfl⟩ := List.mem_map.mp hw
        exact textOf_len ns ls m j
      simp at this
      omega
  obtain ⟨m4, h4, h4'⟩ : ∃ m4 : Nat, atL [D.int 24, D.int 12, D.int 8, D.int 6] ((if (4 : Int) < (n : Int) then (4 : Int) else (n : Int)) - 1) = some (.int m4) ∧ (n ≠ 8 → n * m4 ≤ 60) ∧ m4 ≤ 1000 := by
    rcases hn' with rfl | rfl | rfl | rfl | rfl | rfl <;> first | exact ⟨24, rfl, by omega, by omega⟩ | exact ⟨12, rfl, by omega, by omega⟩ | exact ⟨8, rfl, by omega, by omega⟩ | exact ⟨6, rfl, by omega, by omega⟩
  obtain ⟨m5, h6, h6'⟩ : ∃ m5 : Nat, (60 : Int) / (if (1 : Int) < (n : Int) then (n : Int) else (1 : Int)) = m5 ∧ n * m5 ≤ 60 ∧ m5 ≤ 1000 := by
    rcases hn' with rfl | rfl | rfl | rfl | rfl | rfl <;> exact ⟨_, rfl, by decide, by decide⟩
  have hn8 : n ≤ 16777216 := by omega
  have h7 : (0 : Int) < (if (1 : Int) < (n : Int) then (n : Int) else (1 : Int)) := by split <;> omega
  have h8 := big_of (j := (if (1 : Int) < (n : Int) then (n : Int) else (1 : Int))) (by split <;> omega)
  unfold f_l_book
  by_cases h5 : cellAt ns 0 / 96 % 8 = 5
  · obtain ⟨b, hb, hB⟩ := key m5 h6'.1 h6'.2
    exact ⟨b, by simp [e1', e2', h5, h4, h6, h7, h8, hn8, hb], hB⟩
  · by_cases h9 : n = 8
    · subst h9
      obtain ⟨b, hb, hB⟩ := key 3 (by decide) (by decide)
      simp at hb
      exact ⟨b, by simp [e1', e2', h5, hb], hB⟩
    · obtain ⟨b, hb, hB⟩ := key m4 (h4'.1 h9) h4'.2
      have h9' : ¬ (n : Int) = 8 := by omega
      exact ⟨b, by simp [e1', e2', h5, h4, h9', hn8, hb], hB⟩

/-! ### signs, words, books -/
def sgB (c : Nat) : Bool := decide (97 ≤ c ∧ c ≤ 122)
def SIGNS : W := [97, 98, 99, 100, 101, 102, 103, 104, 105, 106, 107, 108, 109, 110, 111, 112, 113, 114, 115, 116, 117, 118, 119, 120, 121, 122]
theorem isIn_one (c : Nat) : ∀ w : W, isIn [c] w = decide (c ∈ w)
  | [] => by simp [isIn, isPre]
  | x :: r => by
    rw [isIn, isIn_one c r]
    by_cases h : c = x <;> simp [isPre, h]
theorem isIn_SIGNS (c : Nat) : isIn [c] SIGNS = sgB c := by
  rw [isIn_one]
  unfold sgB SIGNS
  congr 1
  simp
  omega
theorem isIn_SIGNS' (c : Nat) : isIn [c] [97, 98, 99, 100, 101, 102, 103, 104, 105, 106, 107, 108, 109, 110, 111, 112, 113, 114, 115, 116, 117, 118, 119, 120, 121, 122] = sgB c := isIn_SIGNS c
def sgsB (w : W) : Bool := w.all sgB
theorem run_is_signs (Z : Far) (w : W) : run Z f_is_signs [.str w] = some (.ok (.bl (sgsB w)) .st []) := by
  unfold f_is_signs
  simp
  rw [lcF_map (g := fun c => (.bl (sgB c), .st)) (by
    intro c _
    rw [lcI_nm]
    simp [f_is_signs_e1, c_SIGNS, isIn_SIGNS'])]
  simp [sgsB]
/-- is it no text at all? -/
def noStr (d : D) : Prop := isiT 0 d = some false
theorem run_is_signs_no (Z : Far) (d : D) (h : noStr d) : run Z f_is_signs [d] = some (.ok (.bl false) .st []) := by
  unfold f_is_signs
  unfold noStr at h
  simp [h]
theorem run_is_word (Z : Far) (w : W) : run Z f_is_word [.str w] = some (.ok (.bl (sgsB w && decide (w.length ≤ 200))) .st []) := by
  unfold f_is_word
  simp [run_is_signs, c_LONGEST_WORD]
  by_cases h : sgsB w = true
  · simp [h]; omega
  · simp [h]
theorem run_is_word_no (Z : Far) (d : D) (h : noStr d) : run Z f_is_word [d] = some (.ok (.bl false) .st []) := by
  unfold f_is_word
  simp [run_is_signs_no Z d h]
theorem sum_cast : ∀ b : List W, (b.map fun w => (w.length : Int)).sum = (total b : Int)
  | [] => rfl
  | w :: b => by
    have := sum_cast b
    simp only [total, List.map_cons, List.sum_cons] at this ⊢
    omega
theorem run_signs_in (Z : Far) (b : List W) : run Z f_signs_in [.lst (b.map .str)] = some (.ok (.int (total b)) .st []) := by
  unfold f_signs_in
  simp
  rw [lcF_map (g := fun w => (.int (w.length : Int), .st)) (by
    intro w _
    rw [lcI_nm]
    simp [f_signs_in_e1])]
  simp [sum_cast]
/-- of any thing in a list: a text of signs -/
def sgD : D → Bool
  | .str w => sgsB w
  | _ => false
def strOr (d : D) : Prop := (∃ w, d = .str w) ∨ noStr d
theorem run_is_signs_D (Z : Far) (d : D) (h : strOr d) : run Z f_is_signs [d] = some (.ok (.bl (sgD d)) .st []) := by
  rcases h with ⟨w, rfl⟩ | h
  · exact run_is_signs Z w
  · rw [run_is_signs_no Z d h]
    cases d <;> try rfl
    cases h
def isBook (b : List W) : Bool := decide (b.length ≤ 8) && (b.all sgsB && decide (total b ≤ 120))
theorem run_is_book_D (Z : Far) (xs : List D) (h : ∀ x ∈ xs, strOr x) (hb : 8 < xs.length ∨ ∃ x ∈ xs, sgD x = false) : run Z f_is_book [.lst xs] = some (.ok (.bl false) .st []) := by
  unfold f_is_book
  by_cases hl : 8 < xs.length
  · have : (8 : Int) < xs.length := by omega
    simp [c_MOST_TEXTS, this]
  · have h1 : ¬ (8 : Int) < xs.length := by omega
    have h2 : xs.all sgD = false := by
      rcases hb with hb | ⟨x, hx, hb⟩
      · exact absurd hb hl
      · rw [List.all_eq_false]; exact ⟨x, hx, by simp [hb]⟩
    have e := items_lst (fun d : D => d) xs .st
    rw [List.map_id'] at e
    simp [c_MOST_TEXTS, h1, e]
    rw [lcF_map (g := fun d => (.bl (sgD d), .st)) (by
      intro d hd
      rw [lcI_nm]
      have := run_is_signs_D Z d (h d hd)
      have hk : kd d .st = .st := by unfold kd; split <;> rfl
      simp [f_is_book_e1, this, hk])]
    simp [h2]
theorem run_is_book (Z : Far) (b : List W) : run Z f_is_book [.lst (b.map .str)] = some (.ok (.bl (isBook b)) .st []) := by
  by_cases hc : b.length ≤ 8 ∧ b.all sgsB = true
  · unfold f_is_book
    have h1 : ¬ (8 : Int) < b.length := by omega
    simp [c_MOST_TEXTS, h1]
    rw [lcF_map (g := fun w => (.bl (sgsB w), .st)) (by
      intro w hw
      rw [lcI_nm]
      simp [f_is_book_e1, run_is_signs Z w])]
    have h2 : ∀ w ∈ b, sgsB w = true := by simpa using hc.2
    simp [c_MOST_SIGNS, run_signs_in, isBook, hc.1]
    rw [if_neg (by simpa using h2)]
    simp [List.all_eq_true.mpr h2]
    omega
  · rw [run_is_book_D Z _ (by
      intro x hx
      obtain ⟨w, _, rfl⟩ := List.mem_map.mp hx
      exact .inl ⟨w, rfl⟩) (by
      by_cases h : b.length ≤ 8
      · have h2 : b.all sgsB = false := by simpa [h] using hc
        rw [List.all_eq_false] at h2
        obtain ⟨w, hw, h2⟩ := h2
        exact .inr ⟨.str w, List.mem_map.mpr ⟨w, hw, rfl⟩, by simpa [sgD] using h2⟩
      · exact .inl (by simp; omega))]
    have : isBook b = false := by
      unfold isBook
      by_cases h : b.length ≤ 8
      · have h2 : b.all sgsB = false := by simpa [h] using hc
        simp [h2]
      · simp [h]
    rw [this]
theorem run_is_book_no (Z : Far) (d : D) (h : isiT 1 d = some false) : run Z f_is_book [d] = some (.ok (.bl false) .st []) := by
  unfold f_is_book
  simp [h]
theorem isBook_of {b : List W} (h : Bk b) : isBook b = true := by
  have h2 : b.all sgsB = true := List.all_eq_true.mpr fun w hw => List.all_eq_true.mpr fun c hc => by
    have := h.sg w hw c hc
    unfold isSg at this
    simpa [sgB] using this
  simp [isBook, h.n, h2, h.t]
end Al.B
/-! B1b: the plain part: dicts, sorted, turns of while. -/
namespace Al.B
/-! ### while -/
theorem loopW_n {c : Env → Option Out} {body : Env → Option Fl} {ks : List Nat} (enc ent : Nat → Env) (kc : Nat → Kd) {e : Env} {ke : Kd} : ∀ (m i N : Nat), m < N →
    (∀ j, i ≤ j → j < i + m → c (kill (enc j) ks) = some (.ok (.bl true) (kc j) (ent j)) ∧ body (ent j) = some (.nx (enc (j + 1)))) →
    c (kill (enc (i + m)) ks) = some (.ok (.bl false) ke e) → loopW c body ks N (enc i) = some (.nx (kill e ks))
  | 0, i, N + 1, _, _, h => by
    rw [Nat.add_zero] at h
    rw [loopW, h]
  | m + 1, i, N + 1, hN, ht, h => by
    obtain ⟨h1, h2⟩ := ht i (Nat.le_refl _) (by omega)
    rw [loopW, h1]
    simp only
    rw [h2]
    exact loopW_n enc ent kc m (i + 1) N (by omega) (fun j a b => ht j (by omega) (by omega)) (by rw [show i + 1 + m = i + (m + 1) by omega]; exact h)

/-! ### dicts -/
section
variable {α β : Type} [DecidableEq α]
/-- keys as data -/
def KE (ek : α → D) : Prop := ∀ a b, keq (ek a) (ek b) = decide (a = b)
def dput (kvs : List (α × β)) (k : α) (v : β) : List (α × β) := if (kvs.any fun p => decide (p.1 = k)) then kvs.map (fun p => if p.1 = k then (p.1, v) else p) else kvs ++ [(k, v)]
def dget (kvs : List (α × β)) (k : α) : Option β := (kvs.find? fun p => decide (p.1 = k)).map (·.2)
def addK (ks : List α) (k : α) : List α := if k ∈ ks then ks else ks ++ [k]
theorem putK_enc {ek : α → D} (h : KE ek) (ev : β → D) (kvs : List (α × β)) (k : α) (v : β) :
    putK (kvs.map fun p => (ek p.1, ev p.2)) (ek k) (ev v) = (dput kvs k v).map fun p => (ek p.1, ev p.2) := by
  have h : ∀ a b, keq (ek a) (ek b) = decide (a = b) := h
  unfold putK dput
  have e : ((kvs.map fun p => (ek p.1, ev p.2)).any fun p => keq p.1 (ek k)) = kvs.any fun p => decide (p.1 = k) := by
    rw [List.any_map]
    simp only [Function.comp_def, h]
  rw [e]
  split
  · rw [List.map_map, List.map_map]
    apply List.map_congr_left
    intro p _
    simp only [Function.comp_def, h, decide_eq_true_eq]
    split <;> rfl
  · simp
theorem getK_enc {ek : α → D} (h : KE ek) (ev : β → D) (kvs : List (α × β)) (k : α) :
    getK (kvs.map fun p => (ek p.1, ev p.2)) (ek k) = (dget kvs k).map ev := by
  have h : ∀ a b, keq (ek a) (ek b) = decide (a = b) := h
  unfold getK dget
  rw [List.find?_map]
  simp only [Function.comp_def, h]
  cases kvs.find? fun p => decide (p.1 = k) <;> rfl
theorem putK_set {ek : α → D} (h : KE ek) (ks : List α) (k : α) (d : D) :
    putK (ks.map fun k => (ek k, d)) (ek k) d = (addK ks k).map fun k => (ek k, d) := by
  have h : ∀ a b, keq (ek a) (ek b) = decide (a = b) := h
  unfold putK addK
  have e : ((ks.map fun k => (ek k, d)).any fun p => keq p.1 (ek k)) = decide (k ∈ ks) := by
    rw [List.any_map]
    simp only [Function.comp_def, h]
    rw [Bool.eq_iff_iff]
    simp
  rw [e]
  by_cases hk : k ∈ ks
  · simp only [hk, decide_true, if_true]
    rw [List.map_map]
    apply List.map_congr_left
    intro a _
    simp only [Function.comp_def, ite_self]
  · simp [hk]
theorem addK_len (ks : List α) (k : α) : (addK ks k).length ≤ ks.length + 1 := by unfold addK; split <;> simp
theorem mem_addK {ks : List α} {k x : α} : x ∈ addK ks k ↔ x ∈ ks ∨ x = k := by
  unfold addK
  split
  · constructor
    · exact .inl
    · rintro (h | rfl)
      · exact h
      · assumption
  · simp
theorem nodup_addK {ks : List α} {k : α} (h : ks.Nodup) : (addK ks k).Nodup := by
  unfold addK
  split
  · exact h
  · rw [List.nodup_append]
    exact ⟨h, by simp, fun a ha b hb => by simp at hb; subst hb; rintro rfl; contradiction⟩
/-- keys put in one behind the other -/
def addKs (ks : List α) (xs : List α) : List α := xs.foldl addK ks
theorem addKs_len (xs ks : List α) : (addKs ks xs).length ≤ ks.length + xs.length := by
  unfold addKs
  induction xs generalizing ks with
  | nil => simp
  | cons x r ih => rw [List.foldl_cons, List.length_cons]; have := ih (addK ks x); have := addK_len ks x; omega
theorem mem_addKs {xs ks : List α} {x : α} : x ∈ addKs ks xs ↔ x ∈ ks ∨ x ∈ xs := by
  unfold addKs
  induction xs generalizing ks with
  | nil => simp
  | cons y r ih => rw [List.foldl_cons, ih, mem_addK, List.mem_cons, or_assoc]
theorem nodup_addKs {xs ks : List α} (h : ks.Nodup) : (addKs ks xs).Nodup := by
  unfold addKs
  induction xs generalizing ks with
  | nil => exact h
  | cons y r ih => rw [List.foldl_cons]; exact ih (nodup_addK h)
theorem addKs_app (ks xs ys : List α) : addKs ks (xs ++ ys) = addKs (addKs ks xs) ys := List.foldl_append
theorem addKs_old {xs ks : List α} (h : ∀ x ∈ xs, x ∈ ks) : addKs ks xs = ks := by
  unfold addKs
  induction xs with
  | nil => rfl
  | cons y r ih =>
    rw [List.foldl_cons]
    rw [show addK ks y = ks by unfold addK; rw [if_pos (h y List.mem_cons_self)]]
    exact ih fun x hx => h x (List.mem_cons_of_mem _ hx)
end
theorem ke_str : KE (fun w : W => D.str w) := fun a b => by
  show (a == b) = _
  by_cases h : a = b <;> simp [h]
theorem ke_int : KE (fun i : Int => D.int i) := fun a b => by
  show (a == b) = _
  rfl
theorem putK_strs (ks : List W) (k : W) (d : D) : putK (ks.map fun k => (.str k, d)) (.str k) d = (addK ks k).map fun k => (.str k, d) := putK_set ke_str ks k d
@[simp] theorem keyOk_str (w : W) : keyOk false (.str w) = true := rfl
@[simp] theorem keyOk_int (w : Int) : keyOk false (.int w) = true := rfl
/-! ### stores -/
section
variable (Z : Far) (ρ : Env)
def sixO (i : Nat) (o : Option (D × Kd)) (x : Option Out) (d : D) (k : Kd) (ρ : Env) : Option Fl := if !(flat d) && !(k == .fr) then none else match o with
  | some (.lst xs, .fr) => (match x with
      | some (.ok (.int n) _ _) => (ixI xs.length n).map fun j => .nx (killBo (ρ.set i (some (.lst (xs.set j d), .fr))))
      | _ => none)
  | some (.dic t kvs, .fr) => (match x with
      | some (.ok x _ _) => if keyOk t x && decide (kvs.length < LINE) then some (.nx (killBo (ρ.set i (some (.dic t (putK kvs x d), .fr))))) else none
      | _ => none)
  | _ => none
@[simp] theorem s_setIx (i : Nat) (e : E) {ie : E} (h : ie.eff = false) : denS Z (.setIx (.var i) ie e) ρ = bndS (denE Z e ρ) fun d k ρ1 => sixO i (look ρ1 i) (denE Z ie ρ1) d k ρ1 := by
  simp only [denS, E.eff, lensE, h, Bool.false_or, Bool.false_eq_true, if_false]
  congr
  funext d k ρ1
  unfold sixO
  split
  · rfl
  · rcases look ρ1 i with _ | ⟨x, kx⟩
    · rfl
    · cases kx <;> cases x <;> rfl
@[simp] theorem sixO_dic (i : Nat) (t : Bool) (kvs : List (D × D)) (x : D) (kk : Kd) (ρ' : Env) (d : D) (k : Kd) (h : flat d = true) :
    sixO i (some (.dic t kvs, .fr)) (some (.ok x kk ρ')) d k ρ = if keyOk t x = true ∧ kvs.length < 16777216 then some (.nx (killBo (ρ.set i (some (.dic t (putK kvs x d), .fr))))) else none := by
  unfold sixO
  simp only [h, Bool.not_true, Bool.false_and, Bool.false_eq_true, if_false, Bool.and_eq_true, decide_eq_true_eq]
  rfl
@[simp] theorem sixO_dicF (i : Nat) (t : Bool) (kvs : List (D × D)) (x : D) (kk : Kd) (ρ' : Env) (d : D) :
    sixO i (some (.dic t kvs, .fr)) (some (.ok x kk ρ')) d .fr ρ = if keyOk t x = true ∧ kvs.length < 16777216 then some (.nx (killBo (ρ.set i (some (.dic t (putK kvs x d), .fr))))) else none := by
  unfold sixO
  rw [if_neg (by cases flat d <;> simp [show (Kd.fr == Kd.fr) = true from rfl])]
  simp only [Bool.and_eq_true, decide_eq_true_eq]
  rfl
def popO (i : Nat) (o : Option (D × Kd)) (d : D) (ρ : Env) : Option Out := match o, d with
    | some (.lst xs, .fr), .int n => (ixI xs.length n).bind fun j => match xs[j]? with
      | some x => if flat x then some (.ok x .st (killBo (ρ.set i (some (.lst (xs.eraseIdx j), .fr))))) else none
      | none => none
    | _, _ => none
@[simp] theorem v_pop (s : Nat) (i : E) : denE Z (.pop s i) ρ = lstO (look ρ s) (bnd (denE Z i ρ) fun d _ ρ1 => popO s (look ρ1 s) d ρ1) := by
  simp only [denE]
  rcases look ρ s with _ | ⟨d, k⟩
  · rfl
  · cases k <;> cases d <;> rfl
@[simp] theorem popO_0 (i : Nat) (x : D) (xs : List D) (h : flat x = true) : popO i (some (.lst (x :: xs), .fr)) (.int 0) ρ = some (.ok x .st (killBo (ρ.set i (some (.lst xs, .fr))))) := by
  have h' : flatN 4 x = true := h
  unfold popO ixI
  simp [h, h']
end
/-! ### sorted -/
/-- texts in order -/
def leW (v w : W) : Bool := match cmpW w v with | .lt => false | _ => true
def sortW (ws : List W) : List W := ws.mergeSort leW
theorem leD_str (v w : W) : leD (.str v) (.str w) = leW v w := rfl
theorem sortD_strs (ws : List W) : sortD (ws.map .str) = (sortW ws).map .str := by
  unfold sortD sortW
  rw [List.map_mergeSort]
  intro a _ b _
  rfl
theorem sortable_strs (ws : List W) : sortable (ws.map .str) = true := by
  unfold sortable
  simp only [Bool.and_eq_true, Bool.or_eq_true, List.all_eq_true]
  refine ⟨fun a ha b hb => ?_, .inr fun a ha => ?_⟩
  · obtain ⟨v, _, rfl⟩ := List.mem_map.mp ha
    obtain ⟨w, _, rfl⟩ := List.mem_map.mp hb
    rfl
  · obtain ⟨v, _, rfl⟩ := List.mem_map.mp ha
    rfl
@[simp] theorem sorted_keys (ks : List W) (d : D) (k : Kd) : p_sorted [(.dic false (ks.map fun w => (.str w, d)), k)] = some (.lst ((sortW ks).map .str), .fr) := by
  have e : (ks.map fun w => ((.str w : D), d)).map (·.1) = ks.map .str := by rw [List.map_map]; rfl
  unfold p_sorted
  simp only [e, sortable_strs, sortD_strs]
  rfl
theorem cmpW_refl : ∀ w : W, cmpW w w = .eq
  | [] => rfl
  | x :: xs => by simp [cmpW, cmpW_refl xs]
theorem cmpW_eq : ∀ {v w : W}, cmpW v w = .eq → v = w
  | [], [], _ => rfl
  | [], _ :: _, h => by cases h
  | _ :: _, [], h => by cases h
  | x :: xs, y :: ys, h => by
    rw [cmpW] at h
    split at h
    · cases h
    · split at h
      · cases h
      · rw [cmpW_eq h, show x = y by omega]
theorem cmpW_swap : ∀ v w : W, cmpW w v = (cmpW v w).swap
  | [], [] => rfl
  | [], _ :: _ => rfl
  | _ :: _, [] => rfl
  | x :: xs, y :: ys => by
    rw [cmpW, cmpW]
    by_cases h1 : x < y
    · rw [if_pos h1, if_neg (by omega), if_pos h1]; rfl
    · by_cases h2 : y < x
      · rw [if_pos h2, if_neg h1, if_pos h2]; rfl
      · rw [if_neg h1, if_neg h2, if_neg h2, if_neg h1, cmpW_swap xs ys]
theorem cmpW_tr : ∀ {u v w : W}, cmpW u v = .lt → cmpW v w ≠ .gt → cmpW u w = .lt
  | [], [], _, h, _ => by cases h
  | [], _ :: _, [], _, h => by simp [cmpW] at h
  | [], _ :: _, _ :: _, _, _ => rfl
  | _ :: _, [], _, h, _ => by cases h
  | x :: xs, y :: ys, [], _, h => by simp [cmpW] at h
  | x :: xs, y :: ys, z :: zs, h, h' => by
    rw [cmpW] at h h' ⊢
    by_cases h1 : x < y
    · by_cases h2 : y < z
      · rw [if_pos (by omega)]
      · rw [if_neg h2] at h'
        by_cases h3 : z < y
        · rw [if_pos h3] at h'; exact absurd rfl h'
        · rw [if_pos (by omega)]
    · rw [if_neg h1] at h
      by_cases h2 : y < x
      · rw [if_pos h2] at h; cases h
      · rw [if_neg h2] at h
        by_cases h3 : y < z
        · rw [if_pos (by omega)]
        · rw [if_neg h3] at h'
          by_cases h4 : z < y
          · rw [if_pos h4] at h'; exact absurd rfl h'
          · rw [if_neg h4] at h'
            rw [if_neg (by omega), if_neg (by omega)]
            exact cmpW_tr h h'
theorem leW_total (v w : W) : (leW v w || leW w v) = true := by
  unfold leW
  rw [cmpW_swap v w]
  cases cmpW v w <;> rfl
theorem leW_trans (u v w : W) (h1 : leW u v = true) (h2 : leW v w = true) : leW u w = true := by
  unfold leW at *
  cases h : cmpW w u with
  | lt =>
    have e1 : cmpW v u ≠ .lt := by intro z; rw [z] at h1; cases h1
    have e2 : cmpW u v ≠ .gt := by rw [cmpW_swap v u]; intro z; cases z' : cmpW v u <;> simp_all [Ordering.swap]
    have := cmpW_tr h e2
    rw [this] at h2
    cases h2
  | eq => rfl
  | gt => rfl
theorem leW_anti {v w : W} (h1 : leW v w = true) (h2 : leW w v = true) : v = w := by
  unfold leW at *
  rw [cmpW_swap v w] at h1
  cases h : cmpW v w with
  | lt => rw [h] at h2; cases h2
  | eq => exact cmpW_eq h
  | gt => rw [h] at h1; cases h1
theorem sortW_sorted (ws : List W) : (sortW ws).Pairwise (fun a b => leW a b = true) := List.pairwise_mergeSort leW_trans leW_total ws
theorem sortW_perm (ws : List W) : (sortW ws).Perm ws := List.mergeSort_perm ws leW
theorem mem_sortW {ws : List W} {w : W} : w ∈ sortW ws ↔ w ∈ ws := (sortW_perm ws).mem_iff
theorem sortW_nodup {ws : List W} (h : ws.Nodup) : (sortW ws).Nodup := (sortW_perm ws).nodup_iff.mpr h
@[simp] theorem sortW_len (ws : List W) : (sortW ws).length = ws.length := (sortW_perm ws).length_eq
/-- two lists in order, of the same unlike things, are one -/
theorem sorted_unique {α : Type} (le : α → α → Bool) (anti : ∀ a b, le a b = true → le b a = true → a = b) {xs ys : List α} (hx : xs.Pairwise (fun a b => le a b = true)) (hy : ys.Pairwise (fun a b => le a b = true)) (h : xs.Perm ys) : xs = ys := by
  exact h.eq_of_pairwise (fun a b _ _ => anti a b) hx hy
/-! ### in a list -/
theorem any_enc {α : Type} [DecidableEq α] (f : α → D) [h : Enc f 8] (x : α) (xs : List α) : ((xs.map f).any fun y => eqD y (f x)) = decide (x ∈ xs) := by
  rw [List.any_map]
  have : ((fun y => eqD y (f x)) ∘ f) = fun y => decide (y = x) := by
    funext y
    exact h.eq y x
  rw [this, Bool.eq_iff_iff]
  simp
theorem isin_map {α : Type} [DecidableEq α] (f : α → D) [h : Enc f 8] (x : α) (k l : Kd) (xs : List α) : p_isin [(f x, k), (.lst (xs.map f), l)] = some (.bl (decide (x ∈ xs)), .st) := by
  have h1 : plain (f x) = true := h.pl x
  have h2 : (xs.map f).all plain = true := plain_all f 8 xs
  rw [isin_lst, h1, h2, any_enc]
  rfl
theorem getK_set {α : Type} [DecidableEq α] {ek : α → D} (h : KE ek) (ks : List α) (k : α) (d : D) : (getK (ks.map fun k => (ek k, d)) (ek k)).isSome = decide (k ∈ ks) := by
  have h : ∀ a b, keq (ek a) (ek b) = decide (a = b) := h
  have e : ∀ ks : List α, ((ks.map fun k => (ek k, d)).find? fun p => keq p.1 (ek k)).isSome = decide (k ∈ ks) := by
    intro ks
    induction ks with
    | nil => rfl
    | cons x r ih =>
      rw [List.map_cons, List.find?_cons, h x k]
      by_cases hx : x = k
      · subst hx; simp
      · simp only [hx, decide_false, ih]
        simp [Ne.symm hx]
  unfold getK
  rw [Option.isSome_map]
  exact e ks
end Al.B
/-! B11: the parts of a length, and law k03. -/
namespace Al.B
@[simp] theorem list_strD (w : W) (k : Kd) : p_list [(.str w, k)] = some (.lst (w.map fun c => .str [c]), .fr) := id rfl
/-- the parts of so many signs of a text, as they come -/
def subs (n : Nat) (t : W) : List W := (List.range (t.length + 1 - n)).map fun i => (t.drop i).take n
def subsB (n : Nat) (b : List W) : List W := (if n = 0 then [[]] else []) ++ b.flatMap (subs n)
/-- the unlike ones, as they come -/
def keysB (n : Nat) (b : List W) : List W := addKs [] (subsB n b)
/-- the unlike ones, in order -/
def parts (n : Nat) (b : List W) : List W := sortW (keysB n b)
/-- texts as keys -/
def sK (ks : List W) : List (D × D) := ks.map fun w => (.str w, .bl true)
theorem sK_put (ks : List W) (k : W) : putK (sK ks) (.str k) (.bl true) = sK (addK ks k) := putK_strs ks k (.bl true)
@[simp] theorem sK_len (ks : List W) : (sK ks).length = ks.length := List.length_map _
@[simp] theorem sK_nil : sK [] = [] := rfl
theorem sK_sorted (ks : List W) (k : Kd) : p_sorted [(.dic false (sK ks), k)] = some (.lst ((sortW ks).map .str), .fr) := sorted_keys ks (.bl true) k
def partE (b : List W) (n : Nat) (t i : Option (D × Kd)) (ks : List W) : Env := [some (.lst (b.map .str), .st), some (.int n, .st), some (.dic false (sK ks), .fr), t, i]
theorem subs_len (n : Nat) (t : W) : (subs n t).length ≤ t.length + 1 := by unfold subs; simp
/-- a loop that puts keys in -/
theorem loopF_keys {β : Type} {body : Env → Option Fl} {tg : Tg} {ks : List Nat} (enc : List W → Env) (it : β → D × Kd) (g : β → List W) (c : Nat) (xs : List β) (s : List W) {ρ : Env} (hk : kill ρ ks = enc s) (hc : ∀ b ∈ xs, (g b).length ≤ c)
    (h : ∀ b ∈ xs, ∀ s' : List W, s'.length ≤ s.length + xs.length * c → turn body tg ks (it b) (enc s') = some (.inr (enc (addKs s' (g b))))) (hk' : ∀ s, kill (enc s) ks = enc s := by intro _; rfl) :
    loopF body tg ks (xs.map it) ρ = some (.nx (enc (addKs s (xs.flatMap g)))) := by
  have := (loopF_fold (body := body) (tg := tg) (ks := ks) (fun i (s' : List W) => s'.length ≤ s.length + i * c) enc it (fun s b => addKs s (g b)) xs s hk (by simp) fun i s' b hb hp => by
    have hm := List.mem_of_getElem? hb
    obtain ⟨hi, _⟩ := List.getElem?_eq_some_iff.mp hb
    have h2 : i * c ≤ xs.length * c := Nat.mul_le_mul_right c (by omega)
    have h3 := hc b hm
    have h4 := addKs_len (g b) s'
    exact ⟨h b hm s' (by omega), by simp [Nat.add_mul]; omega, hk' _⟩).1
  rw [this]
  congr 3
  have : ∀ (xs : List β) (s : List W), xs.foldl (fun s b => addKs s (g b)) s = addKs s (xs.flatMap g) := by
    intro xs
    induction xs with
    | nil => intro s; rfl
    | cons b r ih => intro s; rw [List.foldl_cons, ih, List.flatMap_cons, addKs_app]
  exact this xs s
theorem flatMap_one {α β : Type} (f : α → β) (xs : List α) : (xs.flatMap fun x => [f x]) = xs.map f := by
  induction xs with
  | nil => rfl
  | cons x r ih => rw [List.flatMap_cons, ih]; rfl
theorem cutL_at (t : W) (i n : Nat) : cutL t (some (i : Int)) (some ((i : Int) + (n : Int))) = (t.drop i).take n := by
  rw [show (i : Int) + (n : Int) = ((i + n : Nat) : Int) by omega, cutL_gen, List.drop_take]
  congr 1
  omega
theorem run_parts_of (Z : Far) (b : List W) (n : Nat) (hb : ∀ t ∈ b, t.length ≤ 1000) (hl : b.length ≤ 100) (hn : n ≤ 1000) :
    run Z f_parts_of [.lst (b.map .str), .int n] = some (.ok (.lst ((parts n b).map .str)) .fr []) := by
  unfold f_parts_of
  have go : ∀ s : List W, s.length ≤ 1 → loopF (denSs Z f_parts_of_b2) (.nm 3) [3, 4] (b.map fun t => (.str t, .st)) (partE b n none none s) = some (.nx (partE b n none none (addKs s (b.flatMap (subs n))))) := by
    intro s hs
    refine loopF_keys (partE b n none none) (fun t => (.str t, .st)) (subs n) 1001 b s rfl (fun t ht => ?_) (fun t ht s' hs' => ?_)
    · have := hb t ht; have := subs_len n t; omega
    · have h1 := hb t ht
      have h2 : b.length * 1001 ≤ 100 * 1001 := Nat.mul_le_mul_right _ hl
      have h3 : ((t.length : Int) + 1 - n ≤ 16777216) ∧ -1000000000 < (t.length : Int) + 1 - n := by omega
      have h4 : ((t.length : Int) + 1 - n).toNat = t.length + 1 - n := by omega
      simp [f_parts_of_b2, partE, h3, h4]
      rw [show (some (D.dic false (sK s'), Kd.fr)) = some (D.dic false (sK s'), Kd.fr) from rfl]
      rw [loopF_keys (partE b n (some (.str t, .st)) none) (fun i : Nat => (.int i, .st)) (fun i => [(t.drop i).take n]) 1 (List.range (t.length + 1 - n)) s' rfl (fun _ _ => by simp) (fun i hi s2 hs2 => ?_)]
      · simp [flatMap_one, partE, subs]
      · simp at hi hs2
        have h5 : s2.length < 16777216 := by omega
        simp [f_parts_of_b1, partE, cutL_at, h5, sK_put]
        rfl
  by_cases h0 : n = 0
  · subst h0
    simp
    have := go [[]] (by simp)
    unfold partE at this
    simp [sK] at this
    rw [show putK [] (.str []) (.bl true) = [(D.str [], D.bl true)] from rfl, this]
    simp [f_parts_of_r3]
    simp [parts, keysB, subsB]
    rfl
  · have h0' : ¬ ((n : Int) = 0) := by omega
    simp [h0']
    have := go [] (by simp)
    unfold partE at this
    simp only [sK_nil] at this
    rw [this]
    simp [f_parts_of_r3, sK_sorted, parts, keysB, subsB, h0]

/-! ### law k03 -/
def duE (b : List W) (n : Nat) (t : Option (D × Kd)) (r : Option W) (ks : List W) : Env := [some (.lst (b.map .str), .st), some (.int n, .st), some (.dic false (sK ks), .fr), t, r.map fun w => (.lst (ones w), .fr)]
theorem addKs_snoc (ks xs : List W) (x : W) : addKs ks (xs ++ [x]) = addK (addKs ks xs) x := by rw [addKs_app]; rfl
theorem due_whl (Z : Far) (b : List W) (n : Nat) (t : W) (s : List W) (ht : t.length ≤ 1000) (hs : s.length ≤ 1000000) (h0 : 0 < n) :
    denS Z (.whl (.andE (.prim .ge (.cons (.prim .len (.cons (.var 4) .nil)) (.cons (.var 1) .nil))) (.prim .gt (.cons (.var 1) (.cons (.int 0) .nil)))) f_l_due_k03_b1 []) (duE b n (some (.str t, .st)) (some t) s) =
    some (.nx (duE b n (some (.str t, .st)) (some (t.drop (t.length + 1 - n))) (addKs s (subs n t)))) := by
  rw [s_whl]
  refine (loopW_n (ks := []) (c := fun ρ => denE Z (.andE (.prim .ge (.cons (.prim .len (.cons (.var 4) .nil)) (.cons (.var 1) .nil))) (.prim .gt (.cons (.var 1) (.cons (.int 0) .nil)))) ρ) (body := fun ρ => denSs Z f_l_due_k03_b1 ρ)
      (fun i => duE b n (some (.str t, .st)) (some (t.drop i)) (addKs s ((List.range i).map fun i => (t.drop i).take n)))
      (fun i => duE b n (some (.str t, .st)) (some (t.drop i)) (addKs s ((List.range i).map fun i => (t.drop i).take n))) (fun _ => .st)
      (e := duE b n (some (.str t, .st)) (some (t.drop (t.length + 1 - n))) (addKs s (subs n t))) (ke := .st) (t.length + 1 - n) 0 TURNS (by unfold TURNS; omega) (fun j _ hj => ?_) ?_).trans ?_
  · have h3 : n ≤ t.length - j := by omega
    have h4 : (n : Int) ≤ ((t.length - j : Nat) : Int) := by omega
    obtain ⟨c, r, e⟩ : ∃ c r, t.drop j = c :: r := by
      cases h : t.drop j with
      | nil => have := congrArg List.length h; simp at this; omega
      | cons c r => exact ⟨c, r, rfl⟩
    have e1 : t.drop (j + 1) = r := by rw [← List.drop_drop, e]; rfl
    have hsz := addKs_len ((List.range j).map fun i => (t.drop i).take n) s
    have h6 : (addKs s ((List.range j).map fun i => (t.drop i).take n)).length < 16777216 := by simp at hsz; omega
    have h7 : ∀ k l, p_join [(.str [], k), (.lst (ones ((c :: r).take n)), l)] = some (.str ((c :: r).take n), .st) := fun k l => join_ones _ k l (by simp; omega)
    have h8 : (c :: r).length = t.length - j := by rw [← e]; simp
    have h9 : (n : Int) ≤ (r.length : Int) + 1 := by simp at h8; omega
    refine ⟨?_, ?_⟩
    · simp [kill, duE, e, h9, h0]
    · simp only [e, e1, List.range_succ, List.map_append, List.map_cons, List.map_nil, addKs_snoc]
      generalize addKs s ((List.range j).map fun i => (t.drop i).take n) = ks at *
      have e9 : (ones (c :: r)).take n = ones ((c :: r).take n) := by simp only [ones, List.map_take]
      have e8 : ones (c :: r) = .str [c] :: ones r := rfl
      simp [-List.map_take, f_l_due_k03_b1, duE, e9, h7, h6, sK_put]
      simp [e8]
  · have h3 : ¬ (n : Int) ≤ ((t.length - (t.length + 1 - n) : Nat) : Int) := by omega
    simp [kill, duE, h3, subs]
  · rfl
theorem due_whl0 (Z : Far) (b : List W) (t : W) (s : List W) :
    denS Z (.whl (.andE (.prim .ge (.cons (.prim .len (.cons (.var 4) .nil)) (.cons (.var 1) .nil))) (.prim .gt (.cons (.var 1) (.cons (.int 0) .nil)))) f_l_due_k03_b1 []) (duE b 0 (some (.str t, .st)) (some t) s) =
    some (.nx (duE b 0 (some (.str t, .st)) (some t) s)) := by
  rw [s_whl]
  refine (loopW_n (ks := []) (c := fun ρ => denE Z (.andE (.prim .ge (.cons (.prim .len (.cons (.var 4) .nil)) (.cons (.var 1) .nil))) (.prim .gt (.cons (.var 1) (.cons (.int 0) .nil)))) ρ) (body := fun ρ => denSs Z f_l_due_k03_b1 ρ)
      (fun i => duE b 0 (some (.str t, .st)) (some t) s)
      (fun i => duE b 0 (some (.str t, .st)) (some t) s) (fun _ => .st)
      (e := duE b 0 (some (.str t, .st)) (some t) s) (ke := .st) 0 0 TURNS (by unfold TURNS; omega) (fun j _ hj => by omega) ?_).trans rfl
  simp [kill, duE]
theorem run_due_k03 (Z : Far) (b : List W) (n : Nat) (hb : ∀ t ∈ b, t.length ≤ 1000) (hl : b.length ≤ 100) (hn : n ≤ 1000) :
    run Z f_l_due_k03 [.lst (b.map .str), .int n] = some (.ok (.lst ((parts n b).map .str)) .fr []) := by
  unfold f_l_due_k03
  have go : ∀ s : List W, s.length ≤ 1 → loopF (denSs Z f_l_due_k03_b2) (.nm 3) [3, 4] (b.map fun t => (.str t, .st)) (duE b n none none s) = some (.nx (duE b n none none (addKs s (b.flatMap fun t => if n = 0 then [] else subs n t)))) := by
    intro s hs
    refine loopF_keys (duE b n none none) (fun t => (.str t, .st)) (fun t => if n = 0 then [] else subs n t) 1001 b s rfl (fun t ht => ?_) (fun t ht s' hs' => ?_)
    · have := hb t ht; have := subs_len n t; split <;> simp <;> omega
    · have h1 := hb t ht
      have h2 : b.length * 1001 ≤ 100 * 1001 := Nat.mul_le_mul_right _ hl
      have en : [some (D.lst (b.map D.str), Kd.st), some (D.int n, Kd.st), some (D.dic false (sK s'), Kd.fr), some (D.str t, Kd.st), some (D.lst (t.map fun c => D.str [c]), Kd.fr)] = duE b n (some (.str t, .st)) (some t) s' := rfl
      by_cases h0 : n = 0
      · subst h0
        simp [-s_whl, f_l_due_k03_b2, duE]
        show endT [3, 4] (seqF (denS Z _ (duE b 0 (some (.str t, .st)) (some t) s')) _) = _
        rw [due_whl0]
        rfl
      · simp [-s_whl, f_l_due_k03_b2, h0]
        show endT [3, 4] (seqF (denS Z _ (duE b n (some (.str t, .st)) (some t) s')) _) = _
        rw [due_whl Z b n t s' h1 (by omega) (by omega)]
        rfl
  by_cases h0 : n = 0
  · subst h0
    simp
    have := go [[]] (by simp)
    unfold duE at this
    simp [sK] at this
    rw [show putK [] (.str []) (.bl true) = [(D.str [], D.bl true)] from rfl, this]
    simp [f_l_due_k03_r3]
    have e : keysB 0 b = [[]] := by
      unfold keysB subsB
      rw [addKs_app, if_pos rfl]
      refine addKs_old fun x hx => ?_
      obtain ⟨t, _, hx⟩ := List.mem_flatMap.mp hx
      unfold subs at hx
      obtain ⟨i, _, rfl⟩ := List.mem_map.mp hx
      simp [addKs, addK]
    rw [addKs_old (by simp)]
    simp [parts, e]
  · have h0' : ¬ ((n : Int) = 0) := by omega
    simp [h0']
    have := go [] (by simp)
    unfold duE at this
    simp only [sK_nil] at this
    simp [h0] at this
    rw [this]
    simp [f_l_due_k03_r3, sK_sorted, parts, keysB, subsB, h0]
/-- the most signs of a text -/
def longest (b : List W) : Nat := b.foldl (fun m w => max m w.length) 0
theorem longest_le (b : List W) (w : W) (h : w ∈ b) : w.length ≤ longest b := by
  have gen : ∀ (b : List W) (m : Nat), m ≤ b.foldl (fun m w => max m w.length) m ∧ ∀ w ∈ b, w.length ≤ b.foldl (fun m w => max m w.length) m := by
    intro b
    induction b with
    | nil => intro m; simp
    | cons x r ih =>
      intro m
      obtain ⟨h1, h2⟩ := ih (max m x.length)
      refine ⟨by rw [List.foldl_cons]; omega, fun w hw => ?_⟩
      rw [List.foldl_cons]
      rcases List.mem_cons.mp hw with rfl | hw
      · omega
      · exact h2 w hw
  exact (gen b 0).2 w h
theorem longest_max (b : List W) (m : Nat) (h : ∀ w ∈ b, w.length ≤ m) : longest b ≤ m := by
  have gen : ∀ (b : List W) (k : Nat), k ≤ m → (∀ w ∈ b, w.length ≤ m) → b.foldl (fun m w => max m w.length) k ≤ m := by
    intro b
    induction b with
    | nil => intro k hk _; exact hk
    | cons x r ih =>
      intro k hk h
      rw [List.foldl_cons]
      have := h x List.mem_cons_self
      exact ih _ (by omega) fun w hw => h w (List.mem_cons_of_mem _ hw)
  exact gen b 0 (by omega) h
theorem max1_nats (xs : List Nat) (m : Nat) (k : Kd) : p_max1 [(.lst (.int (m : Nat) :: xs.map fun n : Nat => .int (n : Nat)), k)] = some (.int ((xs.foldl max m : Nat)), .st) := by
  have e : asInts (.int (m : Nat) :: xs.map fun n : Nat => .int (n : Nat)) = some ((m : Int) :: xs.map fun n : Nat => (n : Int)) := by
    show (asInts (xs.map fun n : Nat => D.int (n : Nat))).map _ = _
    rw [asInts_map]; rfl
  unfold p_max1
  simp only [e]
  congr 3
  clear e
  induction xs generalizing m with
  | nil => rfl
  | cons x r ih =>
    rw [List.map_cons, List.foldl_cons, List.foldl_cons, ← ih]
    congr 1
    omega
@[simp] theorem max1_lens (b : List W) (k : Kd) : p_max1 [(.lst (.int 0 :: b.map fun w => .int (w.length : Nat)), k)] = some (.int (longest b : Nat), .st) := by
  have := max1_nats (b.map List.length) 0 k
  rw [List.map_map, List.foldl_map] at this
  exact this
def law3E (ns : List Int) (b : List W) : Env := [some (.scr ns, .st), some (.lst (b.map .str), .st), some (.lst (b.map .str), .st), none, none, none, none, none]
def Z_k03 : Far := fun _ _ => none
theorem parts_len (n : Nat) (b : List W) (hb : ∀ t ∈ b, t.length ≤ 1000) (hl : b.length ≤ 100) : (parts n b).length ≤ 200000 := by
  unfold parts keysB subsB
  rw [sortW_len]
  have h1 := addKs_len ((if n = 0 then [[]] else []) ++ b.flatMap (subs n)) ([] : List W)
  have h2 : (b.flatMap (subs n)).length ≤ b.length * 1001 := by
    clear h1 hl
    induction b with
    | nil => simp
    | cons t r ih =>
      have := ih fun t ht => hb t (List.mem_cons_of_mem _ ht)
      have h3 := subs_len n t
      have h4 := hb t List.mem_cons_self
      rw [List.flatMap_cons, List.length_append, List.length_cons, Nat.add_mul]
      omega
  have h3 : b.length * 1001 ≤ 100 * 1001 := Nat.mul_le_mul_right _ hl
  have h4 : (if n = 0 then [([] : W)] else []).length ≤ 1 := by split <;> simp
  simp only [List.length_append, List.length_nil] at h1
  omega
theorem run_k03 (ns : List Int) (hns : ns.length ≤ 63) : ∃ k out, run Z_k03 f_law_k03 [.scr ns] = some (.ok (.bl true) k out) := by
  obtain ⟨b, e1, hB⟩ := run_book_k02 Z_k03 ns
  have hb : ∀ t ∈ b, t.length ≤ 1000 := fun t ht => by have := hB.len ht; omega
  have hn := hB.n
  have hm := longest_max b 120 fun w hw => hB.len hw
  have h3 : (longest b : Int) + 3 ≤ 16777216 ∧ -1000000000 < (longest b : Int) + 3 := by omega
  have h4 : ((longest b : Int) + 3).toNat = longest b + 3 := by omega
  have h5 : b.length ≤ 16777216 := by omega
  have h6 : b.length + 1 ≤ 16777216 := by omega
  have h6' : 1 + b.length ≤ 16777216 := by omega
  refine ⟨.st, [], ?_⟩
  unfold f_law_k03
  simp [e1]
  rw [lcF_map (g := fun w : W => (.int (w.length : Nat), .st)) (fun w hw => by simp [f_law_k03_e1, lcI_nm])]
  simp [h5, h6, h6', h3, h4]
  rw [loopF_same (law3E ns b) (fun n : Nat => (.int n, .st)) (List.range (longest b + 3)) rfl ?_]
  · simp [f_law_k03_r4]
  · intro n hk
    simp at hk
    have e2 := run_due_k03 Z_k03 b n hb (by omega) (by omega)
    have e3 := run_parts_of Z_k03 b n hb (by omega) (by omega)
    have h7 := parts_len n b hb (by omega)
    have h8 : (parts n b).length < 16777216 := by omega
    simp [f_law_k03_b3, law3E, e2, e3]
    rw [lcF_map (g := fun w : W => (.bl true, .st)) (fun w hw => by simp [f_law_k03_e2, lcI_nm])]
    simp [h8, e3]
end Al.B
/-! B12: parts and places, and law k04. -/
namespace Al.B
/-! ### what parts and places are -/
/-- the n signs before an end -/
def wordAt (b : List W) (p : Pl) (n : Nat) : W := ((b.getD p.1 []).take p.2).drop (p.2 - n)
theorem mem_endsIn {t w : W} {e : Nat} : e ∈ endsIn t w ↔ e ≤ t.length ∧ w.length ≤ e ∧ (t.take e).drop (e - w.length) = w := by
  rw [endsIn_eq, List.mem_filter, List.mem_range]
  unfold endsAt
  rw [decide_eq_true_eq]
  exact ⟨fun ⟨a, b, c⟩ => ⟨by omega, b, c⟩, fun ⟨a, b, c⟩ => ⟨by omega, b, c⟩⟩
theorem places_range (b : List W) (w : W) : places b w = (List.range b.length).flatMap fun n => (endsIn (b.getD n []) w).map fun e => (n, e) := by
  unfold places
  rw [flatMap_zipIdx [] (fun t n => (endsIn t w).map fun e => (n, e))]
  simp
theorem mem_places {b : List W} {w : W} {p : Pl} : p ∈ places b w ↔ p.1 < b.length ∧ p.2 ≤ (b.getD p.1 []).length ∧ w.length ≤ p.2 ∧ wordAt b p w.length = w := by
  obtain ⟨i, e⟩ := p
  rw [places_range]
  simp only [List.mem_flatMap, List.mem_range, List.mem_map, mem_endsIn, Prod.mk.injEq, wordAt]
  constructor
  · rintro ⟨n, hn, e', he, rfl, rfl⟩
    exact ⟨hn, he⟩
  · rintro ⟨h1, h2⟩
    exact ⟨i, h1, e, h2, rfl, rfl⟩
theorem places_nodup (b : List W) (w : W) : (places b w).Nodup := by
  rw [places_range]
  unfold List.Nodup
  rw [List.pairwise_flatMap]
  constructor
  · intro n _
    rw [List.pairwise_map]
    have : (endsIn (b.getD n []) w).Nodup := by
      rw [endsIn_eq]
      exact List.nodup_range.filter _
    exact this.imp fun {a b} h z => h (by cases z; rfl)
  · exact List.nodup_range.imp fun {a b} h x hx y hy => by
      obtain ⟨e, _, rfl⟩ := List.mem_map.mp hx
      obtain ⟨e', _, rfl⟩ := List.mem_map.mp hy
      rintro z
      cases z
      exact h rfl
/-- all ends from n on, of each text -/
def ends (b : List W) (n : Nat) : List Pl := (List.range b.length).flatMap fun i => ((List.range ((b.getD i []).length + 1 - n)).map (n + ·)).map fun e => (i, e)
theorem mem_ends {b : List W} {n : Nat} {p : Pl} : p ∈ ends b n ↔ p.1 < b.length ∧ n ≤ p.2 ∧ p.2 ≤ (b.getD p.1 []).length := by
  obtain ⟨i, e⟩ := p
  unfold ends
  simp only [List.mem_flatMap, List.mem_range, List.mem_map, Prod.mk.injEq]
  constructor
  · rintro ⟨i', h1, e', ⟨k, h2, rfl⟩, rfl, rfl⟩
    exact ⟨h1, by omega, by omega⟩
  · rintro ⟨h1, h2, h3⟩
    exact ⟨i, h1, e, ⟨e - n, by omega, by omega⟩, rfl, rfl⟩
theorem mem_subs {n : Nat} {t w : W} : w ∈ subs n t ↔ w.length = n ∧ ∃ e, n ≤ e ∧ e ≤ t.length ∧ (t.take e).drop (e - n) = w := by
  unfold subs
  rw [List.mem_map]
  constructor
  · rintro ⟨i, hi, rfl⟩
    rw [List.mem_range] at hi
    refine ⟨by simp; omega, i + n, by omega, by omega, ?_⟩
    rw [List.drop_take, show i + n - n = i by omega, show i + n - i = n by omega]
  · rintro ⟨hl, e, h1, h2, rfl⟩
    refine ⟨e - n, by rw [List.mem_range]; omega, ?_⟩
    rw [List.drop_take, show e - (e - n) = n by omega]
theorem mem_keysB {n : Nat} {b : List W} {w : W} : w ∈ keysB n b ↔ w.length = n ∧ (n = 0 ∨ ∃ p ∈ ends b n, wordAt b p n = w) := by
  unfold keysB subsB
  rw [mem_addKs, List.mem_append, List.mem_flatMap]
  simp only [List.not_mem_nil, false_or]
  constructor
  · rintro (h | ⟨t, ht, h⟩)
    · split at h
      · rw [List.mem_singleton.mp h]
        exact ⟨by simp; omega, .inl (by assumption)⟩
      · cases h
    · obtain ⟨hl, e, h1, h2, h3⟩ := mem_subs.mp h
      obtain ⟨i, hi, rfl⟩ := List.mem_iff_getElem.mp ht
      have e1 : b.getD i [] = b[i] := by simp [List.getD, List.getElem?_eq_getElem hi]
      exact ⟨hl, .inr ⟨(i, e), mem_ends.mpr ⟨hi, h1, by rw [e1]; exact h2⟩, by unfold wordAt; rw [e1]; exact h3⟩⟩
  · rintro ⟨hl, h⟩
    by_cases h0 : n = 0
    · left
      rw [if_pos h0, List.mem_singleton]
      exact List.length_eq_zero_iff.mp (by omega)
    · right
      rcases h with h | ⟨p, hp, h⟩
      · exact absurd h h0
      · obtain ⟨h1, h2, h3⟩ := mem_ends.mp hp
        have e1 : b.getD p.1 [] = b[p.1] := by simp [List.getD, List.getElem?_eq_getElem h1]
        refine ⟨b[p.1], List.getElem_mem h1, mem_subs.mpr ⟨hl, p.2, h2, by rw [← e1]; exact h3, ?_⟩⟩
        unfold wordAt at h
        rw [e1] at h
        exact h
theorem mem_parts {n : Nat} {b : List W} {w : W} : w ∈ parts n b ↔ w.length = n ∧ (n = 0 ∨ ∃ p ∈ ends b n, wordAt b p n = w) := mem_sortW.trans mem_keysB
theorem parts_nodup (n : Nat) (b : List W) : (parts n b).Nodup := sortW_nodup (nodup_addKs .nil)
theorem mem_places' {b : List W} {w : W} {p : Pl} : p ∈ places b w ↔ p ∈ ends b w.length ∧ wordAt b p w.length = w := by
  rw [mem_places, mem_ends]
  constructor
  · rintro ⟨a, b, c, d⟩; exact ⟨⟨a, c, b⟩, d⟩
  · rintro ⟨⟨a, c, b⟩, d⟩; exact ⟨a, b, c, d⟩
theorem wordAt_len {b : List W} {p : Pl} {n : Nat} (h : p ∈ ends b n) : (wordAt b p n).length = n := by
  obtain ⟨h1, h2, h3⟩ := mem_ends.mp h
  unfold wordAt
  simp only [List.length_drop, List.length_take]
  omega
theorem parts_iff {n : Nat} {b : List W} {w : W} (h0 : 0 < n) : w ∈ parts n b ↔ w.length = n ∧ places b w ≠ [] := by
  rw [mem_parts]
  constructor
  · rintro ⟨hl, h | ⟨p, hp, h⟩⟩
    · omega
    · exact ⟨hl, List.ne_nil_of_mem (mem_places'.mpr ⟨by rw [hl]; exact hp, by rw [hl]; exact h⟩)⟩
  · rintro ⟨hl, h⟩
    obtain ⟨p, hp⟩ := List.exists_mem_of_ne_nil _ h
    obtain ⟨h1, h2⟩ := mem_places'.mp hp
    exact ⟨hl, .inr ⟨p, by rw [← hl]; exact h1, by rw [← hl]; exact h2⟩⟩
/-! ### places in order -/
def leP (a b : Pl) : Bool := decide (a.1 < b.1 ∨ a.1 = b.1 ∧ a.2 ≤ b.2)
theorem leD_P (a b : Pl) : leD (eP a) (eP b) = leP a b := by
  obtain ⟨a1, a2⟩ := a
  obtain ⟨b1, b2⟩ := b
  have cI : ∀ i j : Nat, cmpN 7 (.int i) (.int j) = if j < i then .gt else if i < j then .lt else .eq := by
    intro i j
    show (if (i : Int) < j then Ordering.lt else if (j : Int) < i then .gt else .eq) = _
    by_cases h1 : (i : Int) < j
    · rw [if_pos h1, if_neg (by omega), if_pos (by omega)]
    · by_cases h2 : (j : Int) < i
      · rw [if_neg h1, if_pos h2, if_pos (by omega)]
      · rw [if_neg h1, if_neg h2, if_neg (by omega), if_neg (by omega)]
  have e : cmpD (eP (b1, b2)) (eP (a1, a2)) = (match cmpN 7 (.int (b1 : Nat)) (.int (a1 : Nat)) with
    | .eq => (match cmpN 7 (.int (b2 : Nat)) (.int (a2 : Nat)) with
      | .eq => .eq
      | o => o)
    | o => o) := rfl
  unfold leD leP
  rw [e, cI, cI]
  by_cases h1 : a1 < b1
  · rw [if_pos h1]; simp [h1]
  · by_cases h2 : b1 < a1
    · rw [if_neg h1, if_pos h2]; simp; omega
    · rw [if_neg h1, if_neg h2]
      by_cases h3 : a2 < b2
      · rw [if_pos h3]; simp; omega
      · by_cases h4 : b2 < a2
        · rw [if_neg h3, if_pos h4]; simp; omega
        · rw [if_neg h3, if_neg h4]; simp; omega
theorem sortD_P (ps : List Pl) : sortD (ps.map eP) = (ps.mergeSort leP).map eP := by
  unfold sortD
  rw [List.map_mergeSort]
  intro a _ b _
  exact (leD_P a b).symm
theorem sortable_P (ps : List Pl) : sortable (ps.map eP) = true := by
  unfold sortable
  simp only [Bool.and_eq_true, Bool.or_eq_true, List.all_eq_true]
  refine ⟨fun a ha b hb => ?_, .inl fun a ha => ?_⟩
  · obtain ⟨v, _, rfl⟩ := List.mem_map.mp ha
    obtain ⟨w, _, rfl⟩ := List.mem_map.mp hb
    rfl
  · obtain ⟨v, _, rfl⟩ := List.mem_map.mp ha
    rfl
def pK (ks : List Pl) : List (D × D) := ks.map fun p => (eP p, .bl true)
@[simp] theorem pK_len (ks : List Pl) : (pK ks).length = ks.length := List.length_map _
@[simp] theorem pK_nil : pK [] = [] := rfl
theorem ke_P : KE eP := fun a b => by
  obtain ⟨a1, a2⟩ := a
  obtain ⟨b1, b2⟩ := b
  show (((a1 : Int) == (b1 : Int)) && (((a2 : Int) == (b2 : Int)) && true)) = _
  rw [Bool.eq_iff_iff]
  simp
  omega
theorem pK_put (ks : List Pl) (p : Pl) : putK (pK ks) (eP p) (.bl true) = pK (addK ks p) := putK_set ke_P ks p (.bl true)
theorem pK_in (ks : List Pl) (p : Pl) (k l : Kd) : p_isin [(eP p, k), (.dic true (pK ks), l)] = some (.bl (decide (p ∈ ks)), .st) := by
  have := getK_set ke_P ks p (.bl true)
  show (if keyOk true (eP p) then some (D.bl (getK (pK ks) (eP p)).isSome, Kd.st) else none) = _
  rw [if_pos (show keyOk true (eP p) = true from rfl)]
  unfold pK
  rw [this]
  all_goals (simp only [Option.some.injEq, Prod.mk.injEq, and_true, D.bl.injEq]; exact decide_eq_decide.mpr Iff.rfl)
theorem pK_sorted (ks : List Pl) (k : Kd) : p_sorted [(.dic true (pK ks), k)] = some (.lst ((ks.mergeSort leP).map eP), .fr) := by
  have e : (pK ks).map (·.1) = ks.map eP := by unfold pK; rw [List.map_map]; rfl
  have e2 : ((pK ks).all fun p => flat p.1) = true := by
    unfold pK
    rw [List.all_map, List.all_eq_true]
    intro p _
    rfl
  show (if (!true || (pK ks).all fun p => flat p.1) && sortable ((pK ks).map (·.1)) then some (D.lst (sortD ((pK ks).map (·.1))), Kd.fr) else none) = _
  rw [e, e2, sortable_P, sortD_P]
  rfl
theorem leP_trans (a b c : Pl) (h1 : leP a b = true) (h2 : leP b c = true) : leP a c = true := by unfold leP at *; simp only [decide_eq_true_eq] at *; omega
theorem leP_total (a b : Pl) : (leP a b || leP b a) = true := by unfold leP; rw [Bool.or_eq_true]; simp only [decide_eq_true_eq]; omega
theorem leP_anti (a b : Pl) (h1 : leP a b = true) (h2 : leP b a = true) : a = b := by
  obtain ⟨a1, a2⟩ := a
  obtain ⟨b1, b2⟩ := b
  unfold leP at *
  simp only [decide_eq_true_eq] at *
  rw [Prod.mk.injEq]
  omega
theorem ends_sorted (b : List W) (n : Nat) : (ends b n).Pairwise fun a b => leP a b = true := by
  unfold ends
  rw [List.pairwise_flatMap]
  constructor
  · intro i _
    rw [List.pairwise_map, List.pairwise_map]
    exact List.pairwise_lt_range.imp fun {a b} h => by unfold leP; simp; omega
  · exact List.pairwise_lt_range.imp fun {a b} h x hx y hy => by
      obtain ⟨e, _, rfl⟩ := List.mem_map.mp hx
      obtain ⟨e', _, rfl⟩ := List.mem_map.mp hy
      unfold leP
      simp
      omega
theorem ends_nodup (b : List W) (n : Nat) : (ends b n).Nodup := by
  unfold ends List.Nodup
  rw [List.pairwise_flatMap]
  constructor
  · intro i _
    rw [List.pairwise_map, List.pairwise_map]
    exact List.pairwise_lt_range.imp fun {a b} h z => by have := (Prod.mk.inj z).2; omega
  · exact List.pairwise_lt_range.imp fun {a b} h x hx y hy => by
      obtain ⟨e, _, rfl⟩ := List.mem_map.mp hx
      obtain ⟨e', _, rfl⟩ := List.mem_map.mp hy
      intro z
      cases z
      omega
/-- all places of all parts of a length -/
def allP (n : Nat) (b : List W) : List Pl := (parts n b).flatMap (places b)
theorem allP_nodup (n : Nat) (b : List W) : (allP n b).Nodup := by
  unfold allP List.Nodup
  rw [List.pairwise_flatMap]
  constructor
  · intro w _
    exact places_nodup b w
  · refine ((parts_nodup n b).imp_of_mem ?_)
    intro v w hv hw h x hx y hy z
    subst z
    have hv := (mem_parts.mp hv).1
    have hw := (mem_parts.mp hw).1
    have h1 := (mem_places'.mp hx).2
    have h2 := (mem_places'.mp hy).2
    rw [hv] at h1
    rw [hw] at h2
    exact h (h1.symm.trans h2)
theorem allP_perm (n : Nat) (b : List W) : (allP n b).Perm (ends b n) := by
  rw [List.perm_ext_iff_of_nodup (allP_nodup n b) (ends_nodup b n)]
  intro p
  unfold allP
  rw [List.mem_flatMap]
  constructor
  · rintro ⟨w, hw, hp⟩
    have hl := (mem_parts.mp hw).1
    rw [← hl]
    exact (mem_places'.mp hp).1
  · intro hp
    have hl := wordAt_len hp
    exact ⟨wordAt b p n, mem_parts.mpr ⟨hl, .inr ⟨p, hp, rfl⟩⟩, mem_places'.mpr ⟨by rw [hl]; exact hp, by rw [hl]⟩⟩
theorem allP_sorted (n : Nat) (b : List W) : (allP n b).mergeSort leP = ends b n :=
  sorted_unique leP leP_anti (List.pairwise_mergeSort leP_trans leP_total _) (ends_sorted b n) ((List.mergeSort_perm _ _).trans (allP_perm n b))
/-! ### law k04 -/
theorem pK_in' (ks : List Pl) (i e : Nat) (k l : Kd) : p_isin [(.tup [.int (i : Nat), .int (e : Nat)], k), (.dic true (pK ks), l)] = some (.bl (decide ((i, e) ∈ ks)), .st) := pK_in ks (i, e) k l
theorem pK_put' (ks : List Pl) (i e : Nat) : putK (pK ks) (.tup [.int (i : Nat), .int (e : Nat)]) (.bl true) = pK (addK ks (i, e)) := pK_put ks (i, e)
theorem isin_P (ps : List Pl) (i e : Nat) (k l : Kd) : p_isin [(.tup [.int (i : Nat), .int (e : Nat)], k), (.lst (ps.map eP), l)] = some (.bl (decide ((i, e) ∈ ps)), .st) := (isin_map eP (i, e) k l ps).trans (by simp only [Option.some.injEq, Prod.mk.injEq, and_true, D.bl.injEq]; exact decide_eq_decide.mpr Iff.rfl)
theorem notin_P (ps : List Pl) (i e : Nat) (k l : Kd) : p_notin [(.tup [.int (i : Nat), .int (e : Nat)], k), (.lst (ps.map eP), l)] = some (.bl (!decide ((i, e) ∈ ps)), .st) := by
  have := any_enc eP (i, e) ps
  have h1 : plain (eP (i, e)) = true := rfl
  have h2 : (ps.map eP).all plain = true := plain_all eP 8 ps
  show p_notin [(eP (i, e), k), (.lst (ps.map eP), l)] = _
  rw [notin_lst, h1, h2, this]
  simp only [Bool.and_self, if_true, Option.some.injEq, Prod.mk.injEq, and_true, D.bl.injEq]
  congr 1
  exact decide_eq_decide.mpr Iff.rfl
@[simp] theorem keyOk_P (i e : Int) : keyOk true (.tup [.int i, .int e]) = true := rfl
def rE (b : List W) (n : Nat) (met : List Pl) (w fo tl ah : Option (D × Kd)) : Env := [some (.lst (b.map .str), .st), some (.int n, .st), some (.dic true (pK met), .fr), w, none, none, fo, none, tl, ah]
theorem wordAt_cut {b : List W} {n : Nat} {p : Pl} (h : p ∈ ends b n) : atL (b.map D.str) (p.1 : Int) = some (.str (b.getD p.1 [])) ∧ cutL (b.getD p.1 []) (some ((p.2 : Int) - n)) (some (p.2 : Int)) = wordAt b p n := by
  obtain ⟨h1, h2, h3⟩ := mem_ends.mp h
  refine ⟨?_, ?_⟩
  · rw [atL_nat, List.getElem?_map, List.getElem?_eq_getElem h1]
    simp [List.getD, List.getElem?_eq_getElem h1]
  · exact cutL_mid _ (p.2 - n) p.2 _ _ (by omega) rfl
theorem ends_len (b : List W) (n : Nat) (hb : ∀ t ∈ b, t.length ≤ 1000) (hl : b.length ≤ 100) : (ends b n).length ≤ 100100 := by
  unfold ends
  have gen : ∀ (is : List Nat), (∀ i ∈ is, i < b.length) → (is.flatMap fun i => ((List.range ((b.getD i []).length + 1 - n)).map (n + ·)).map fun e => (i, e)).length ≤ is.length * 1001 := by
    intro is
    induction is with
    | nil => simp
    | cons x r ih =>
      intro h
      have h1 := ih fun i hi => h i (List.mem_cons_of_mem _ hi)
      have h2 := hb (b.getD x []) (by
        have := h x List.mem_cons_self
        simp [List.getD, List.getElem?_eq_getElem this])
      rw [List.flatMap_cons, List.length_append, List.length_cons, Nat.add_mul, List.length_map, List.length_map, List.length_range]
      omega
  have h1 := gen (List.range b.length) (fun i hi => List.mem_range.mp hi)
  rw [List.length_range] at h1
  have h2 : b.length * 1001 ≤ 100 * 1001 := Nat.mul_le_mul_right _ hl
  omega
theorem places_tail {b : List W} {w : W} {p : Pl} (h0 : 0 < w.length) (h : p ∈ places b w) : p ∈ places b w.tail := by
  obtain ⟨h1, h2, h3, h4⟩ := mem_places.mp h
  refine mem_places.mpr ⟨h1, h2, by simp; omega, ?_⟩
  unfold wordAt at *
  conv => rhs; rw [← h4]
  rw [List.length_tail, ← List.drop_one, List.drop_drop]
  congr 1
  omega
theorem places_last {b : List W} {w : W} {i e : Nat} (h0 : 0 < w.length) (h : (i, e) ∈ places b w) : 1 ≤ e ∧ (i, e - 1) ∈ places b w.dropLast := by
  obtain ⟨h1, h2, h3, h4⟩ := mem_places.mp h
  simp only at h1 h2 h3
  refine ⟨by omega, mem_places.mpr ⟨h1, by simp only; omega, by simp; omega, ?_⟩⟩
  unfold wordAt at *
  conv => rhs; rw [← h4]
  simp only [List.length_dropLast]
  rw [List.dropLast_eq_take, List.drop_take, List.drop_take, List.take_take]
  have : e - 1 - (w.length - 1) = e - w.length := by omega
  rw [this]
  congr 1
  simp only [List.length_take, List.length_drop]
  omega
theorem run_right (Z : Far) (b : List W) (n : Nat) (hb : ∀ t ∈ b, t.length ≤ 1000) (hl : b.length ≤ 100) (hn : n ≤ 1000) (hB : Bk b) :
    run Z f_l_right [.lst (b.map .str), .int n] = some (.ok (.bl true) .st []) := by
  have e1 := run_parts_of Z b n hb hl hn
  unfold f_l_right
  simp [e1]
  have hpl := parts_len n b hb hl
  have hcap : ∀ (ws : List W), (ws.flatMap (places b)).length ≤ ws.length * 1000 := by
    intro ws
    induction ws with
    | nil => simp
    | cons w r ih =>
      have := places_len b w hB
      rw [List.flatMap_cons, List.length_append, List.length_cons, Nat.add_mul]
      omega
  rw [(loopF_fold (fun i (s : List Pl) => s = ((parts n b).take i).flatMap (places b)) (fun s => rE b n s none none none none) (fun w : W => (.str w, .st)) (fun s w => s ++ places b w) (parts n b) [] rfl (by simp) ?_).1]
  · rw [show (parts n b).foldl (fun s w => s ++ places b w) [] = allP n b by
      unfold allP
      have : ∀ (xs : List W) (s : List Pl), xs.foldl (fun s w => s ++ places b w) s = s ++ xs.flatMap (places b) := by
        intro xs
        induction xs with
        | nil => simp
        | cons b r ih => intro s; rw [List.foldl_cons, ih]; simp
      exact this _ []]
    have h1 := ends_len b n hb hl
    have h5 : b.length ≤ 16777216 := by omega
    simp [f_l_right_r8, rE, h5]
    rw [loopF_flat (fun s : List Pl => ([some (.lst (b.map .str), .st), some (.int n, .st), some (.dic true (pK (allP n b)), .st), none, some (.lst (s.map eP), .fr), none, none, none, none, none] : Env)) (fun i : Nat => (.int i, .st)) (fun i => ((List.range ((b.getD i []).length + 1 - n)).map (n + ·)).map fun e => (i, e)) 1001 (List.range b.length) [] rfl (fun i hi => ?_) (fun i hi s hs => ?_)]
    · have : (List.range b.length).flatMap (fun i => ((List.range ((b.getD i []).length + 1 - n)).map (n + ·)).map fun e => (i, e)) = ends b n := rfl
      rw [List.nil_append, this]
      simp [f_l_right_r7, pK_sorted, allP_sorted]
    · simp at hi
      have := hb (b.getD i []) (by simp [List.getD, List.getElem?_eq_getElem hi])
      simp only [List.length_map, List.length_range]
      omega
    · simp at hi hs
      have h3 := hb (b.getD i []) (by simp [List.getD, List.getElem?_eq_getElem hi])
      have h4 : (b.map D.str)[i]? = some (.str (b.getD i [])) := by simp [List.getD, List.getElem?_eq_getElem hi]
      generalize b.getD i [] = t at *
      have h6 : (t.length : Int) + 1 - n ≤ 16777216 ∧ -1000000000 < (n : Int) ∧ (n : Int) < 1000000000 ∧ -1000000000 < (t.length : Int) + 1 ∧ (t.length : Int) + 1 < 1000000000 := by omega
      have h7 : ((t.length : Int) + 1 - n).toNat = t.length + 1 - n := by omega
      simp only [List.getElem?_map] at h4
      simp [f_l_right_b6, h4, h6, h7]
      rw [lcF_map (g := fun k : Nat => (eP (i, n + k), .st)) (fun k hk => by simp [f_l_right_e5, lcI_nm, eP])]
      have h8 : b.length * 1001 ≤ 100 * 1001 := Nat.mul_le_mul_right _ hl
      have h9 : s.length + (t.length + 1 - n) ≤ 16777216 := by omega
      have h10 : List.map eP s ++ List.map (fun a => eP (i, n + a)) (List.range (t.length + 1 - n)) = (s ++ (List.range (t.length + 1 - n)).map fun a => (i, n + a)).map eP := by simp
      simp [h9]
  · intro i s w hw hs
    obtain ⟨hi, hwe⟩ := List.getElem?_eq_some_iff.mp hw
    have hm : w ∈ parts n b := List.mem_of_getElem? hw
    have hwl := (mem_parts.mp hm).1
    have e2 := run_places Z b w hb hl (by omega)
    have hsl := hcap ((parts n b).take i)
    rw [← hs] at hsl
    have hsl' : s.length + (places b w).length ≤ 100100 := by
      have h1 := (allP_perm n b).length_eq
      have h2 := ends_len b n hb hl
      unfold allP at h1
      rw [← List.take_append_drop (i + 1) (parts n b), List.flatMap_append, List.take_add_one, hw, List.flatMap_append, ← hs] at h1
      simp at h1
      omega
    refine ⟨?_, ?_, rfl⟩
    · simp [f_l_right_b4, rE, e2, hwl]
      have hne : ¬ (places b w = [] ∧ (0 < n ∨ ¬ b = [])) := by
        rintro ⟨h1, h2⟩
        by_cases h0 : 0 < n
        · exact ((parts_iff h0).mp hm).2 h1
        · have hb0 : b ≠ [] := by rcases h2 with h2 | h2; exact absurd h2 h0; exact h2
          have : (0, 0) ∈ places b w := mem_places.mpr ⟨List.length_pos_iff.mpr hb0, by simp, by omega, by
            have : w = [] := List.length_eq_zero_iff.mp (by omega)
            subst this
            simp [wordAt]⟩
          rw [h1] at this
          cases this
      rw [if_neg hne]
      have hnd : (s ++ places b w).Nodup := by
        have h1 := allP_nodup n b
        unfold allP at h1
        rw [← List.take_append_drop (i + 1) (parts n b), List.flatMap_append, List.take_add_one, hw, List.flatMap_append, ← hs] at h1
        have := (List.nodup_append.mp h1).1
        simpa using this
      have hpw := places_len b w hB
      rw [show [some (D.lst (List.map D.str b), Kd.st), some (D.int ↑n, Kd.st), some (D.dic true (pK s), Kd.fr), some (D.str w, Kd.st), none, none, some (D.lst (List.map eP (places b w)), Kd.st), none, none, none] = rE b n s (some (.str w, .st)) (some (.lst ((places b w).map eP), .st)) none none from rfl]
      rw [(loopF_fold (fun j (s' : List Pl) => s' = s ++ (places b w).take j) (fun s' => rE b n s' (some (.str w, .st)) (some (.lst ((places b w).map eP), .st)) none none) (fun p : Pl => (eP p, .st)) (fun s' p => s' ++ [p]) (places b w) s rfl (by simp) ?_).1]
      · have e3 := fun w' (h : w'.length ≤ 1000) => run_places Z b w' hb hl h
        have hfold : ∀ (xs s : List Pl), xs.foldl (fun s' p => s' ++ [p]) s = s ++ xs := by
          intro xs
          induction xs with
          | nil => simp
          | cons x r ih => intro s; rw [List.foldl_cons, ih]; simp
        rw [hfold]
        by_cases h0 : n = 0
        · subst h0
          simp [f_l_right_r3, rE]
        · have hn0 : 0 < n := by omega
          have e4 := e3 w.tail (by simp; omega)
          have e5 := e3 w.dropLast (by simp; omega)
          simp [f_l_right_r3, rE, hn0, e4, e5]
          rw [loopF_same (rE b n (s ++ places b w) (some (.str w, .st)) (some (.lst ((places b w).map eP), .st)) (some (.lst ((places b w.tail).map eP), .fr)) (some (.lst ((places b w.dropLast).map eP), .fr))) (fun p : Pl => (eP p, .st)) (places b w) rfl ?_]
          · simp [rE]
          · rintro ⟨i, e⟩ hp
            have h5 := places_tail (by omega) hp
            obtain ⟨h6, h7⟩ := places_last (by omega) hp
            have h8 : (e : Int) - 1 = ((e - 1 : Nat) : Int) := by omega
            simp [f_l_right_b2, rE, eP, h8, -Int.natCast_sub]
            exact ⟨⟨i, e, h5, rfl, rfl⟩, ⟨i, e - 1, h7, rfl, rfl⟩⟩
      · rintro j s' ⟨i', e⟩ hp hs'
        obtain ⟨hj, hpe⟩ := List.getElem?_eq_some_iff.mp hp
        have hpm : (i', e) ∈ places b w := List.mem_of_getElem? hp
        have h9 := (mem_places'.mp hpm).1
        rw [hwl] at h9
        obtain ⟨h10, h11⟩ := wordAt_cut h9
        simp only [List.getD_eq_getElem?_getD] at h10 h11
        have h12 := (mem_places'.mp hpm).2
        rw [hwl] at h12
        rw [h12] at h11
        have hni : (i', e) ∉ s' := by
          rw [← List.take_append_drop (j + 1) (places b w), List.take_add_one, hp, ← List.append_assoc, ← List.append_assoc, ← hs'] at hnd
          have := (List.nodup_append.mp (List.nodup_append.mp hnd).1).2.2
          intro z
          exact this _ z _ (by simp) rfl
        have hcp : s'.length < 16777216 := by
          have := congrArg List.length hs'
          simp at this
          omega
        refine ⟨?_, ?_, rfl⟩
        · simp [f_l_right_b1, rE, eP, pK_in', hni, h10, h11, hcp, pK_put']
          rw [show addK s' (i', e) = s' ++ [(i', e)] by unfold addK; rw [if_neg hni]]
        · rw [List.take_add_one, hp, ← List.append_assoc, ← hs']
          rfl
    · rw [List.take_add_one, hw, List.flatMap_append, ← hs]
      simp
def Z_k04 : Far := fun _ _ => none
def law4E (ns : List Int) (b : List W) (n : Option (D × Kd)) : Env := [some (.scr ns, .st), some (.lst (b.map .str), .st), some (.int (longest b : Nat), .st), n, none, none, none, none, none]
theorem div5 (j : Nat) (hj : j < 5) : ∃ d : Nat, ([.int 1, .int 4, .int 16, .int 64, .int 256] : List D)[j]? = some (.int (d : Nat)) ∧ 0 < d ∧ d ≤ 256 := by
  match j, hj with
  | 0, _ => exact ⟨1, rfl, by omega, by omega⟩
  | 1, _ => exact ⟨4, rfl, by omega, by omega⟩
  | 2, _ => exact ⟨16, rfl, by omega, by omega⟩
  | 3, _ => exact ⟨64, rfl, by omega, by omega⟩
  | 4, _ => exact ⟨256, rfl, by omega, by omega⟩
theorem run_k04 (ns : List Int) (hns : ns.length ≤ 63) : ∃ k out, run Z_k04 f_law_k04 [.scr ns] = some (.ok (.bl true) k out) := by
  obtain ⟨b, e1, hB, _⟩ := run_book Z_k04 ns
  have hb : ∀ t ∈ b, t.length ≤ 1000 := fun t ht => by have := hB.len ht; omega
  have hn := hB.n
  have hm := longest_max b 120 fun w hw => hB.len hw
  have h3 : (longest b : Int) + 1 ≤ 16777216 ∧ -1000000000 < (longest b : Int) + 1 := by omega
  have h4 : ((longest b : Int) + 1).toNat = longest b + 1 := by omega
  have h5 : b.length ≤ 16777216 := by omega
  have h6' : 1 + b.length ≤ 16777216 := by omega
  have h6 : longest b < 16777216 := by omega
  refine ⟨.st, [], ?_⟩
  unfold f_law_k04
  simp [e1]
  rw [lcF_map (g := fun w : W => (.int (w.length : Nat), .st)) (fun w hw => by simp [f_law_k04_e1, lcI_nm])]
  simp [h5, h6, h6', h3, h4]
  rw [loopF_same (law4E ns b none) (fun n : Nat => (.int n, .st)) (List.range (longest b + 1)) rfl ?_]
  · simp [f_law_k04_r6, law4E]
    rw [loopF_same (law4E ns b none) (fun n : Nat => (.int n, .st)) (List.range 6) rfl ?_]
    · simp [f_law_k04_r5]
    · intro k hk
      simp at hk
      have e2 := run_cell_lit Z_k04 ns (12 + (k : Int)) (12 + k) (by omega)
      simp [f_law_k04_b4, law4E, e2]
      generalize hc : cellAt ns (12 + k) + 1000003 * (k : Int) = c
      have c1 : 0 ≤ c % 5 := Int.emod_nonneg _ (by decide)
      have c2 : c % 5 < 5 := Int.emod_lt_of_pos _ (by decide)
      have c3 : 1 + c % 5 ≤ 16777216 ∧ -1000000000 < 1 + c % 5 := by omega
      have c4 : (1 + c % 5).toNat ≤ 5 := by omega
      generalize hm5 : (1 + c % 5).toNat = m at *
      have hg : ∃ g : Nat → Nat, ∀ j, j < 5 → ∃ d : Nat, ([.int 1, .int 4, .int 16, .int 64, .int 256] : List D)[j]? = some (.int (d : Nat)) ∧ 0 < d ∧ d ≤ 256 ∧ atL ([97, 98, 99, 122] : W) (c / (d : Int) % 4) = some (g j) := by
        refine ⟨fun j => ([97, 98, 99, 122] : W).getD (c / ((([1, 4, 16, 64, 256] : List Nat).getD j 1 : Nat) : Int) % 4).toNat 0, fun j hj => ?_⟩
        have key : ∀ d : Nat, atL ([97, 98, 99, 122] : W) (c / (d : Int) % 4) = some (([97, 98, 99, 122] : W).getD (c / (d : Int) % 4).toNat 0) := fun d => atL_mod [97, 98, 99, 122] 0 (by simp) (c / d)
        match j, hj with
        | 0, _ => exact ⟨1, rfl, by omega, by omega, key 1⟩
        | 1, _ => exact ⟨4, rfl, by omega, by omega, key 4⟩
        | 2, _ => exact ⟨16, rfl, by omega, by omega, key 16⟩
        | 3, _ => exact ⟨64, rfl, by omega, by omega, key 64⟩
        | 4, _ => exact ⟨256, rfl, by omega, by omega, key 256⟩
      obtain ⟨g, hg⟩ := hg
      rw [lcF_map (g := fun j : Nat => (.str [g j], .st)) (fun j hj => by
        simp at hj
        obtain ⟨d, q1, q2, q3, q4⟩ := hg j (by omega)
        have q5 := big_of (j := (d : Int)) (by omega)
        simp [f_law_k04_e3, lcI_nm, q1, q2, q4, q5])]
      have hw : ∀ k l, p_join [(.str [], k), (.lst ((List.range m).map fun j => .str [g j]), l)] = some (.str ((List.range m).map g), .st) := by
        intro k l
        have := join_ones ((List.range m).map g) k l (by simp; omega)
        unfold ones at this
        rw [List.map_map] at this
        exact this
      have hwl : ((List.range m).map g).length = m := by simp
      simp [c3, hw]
      generalize (List.range m).map g = w at *
      have e3 := run_places Z_k04 b w hb (by omega) (by omega)
      have e4 := run_parts_of Z_k04 b w.length hb (by omega) (by omega)
      have h0 : 0 < w.length := by omega
      have h7 := parts_iff (b := b) (w := w) h0
      simp [e3, e4]
      have h8 := any_enc D.str w (parts w.length b)
      rw [List.any_map] at h8
      have h9 : ((parts w.length b).any ((fun x => eqN 8 x (D.str w)) ∘ D.str)) = decide (w ∈ parts w.length b) := h8.trans (decide_eq_decide.mpr Iff.rfl)
      rw [h9]
      intro z
      by_cases hp : places b w = []
      · rw [hp] at z
        have := of_decide_eq_true z.symm
        exact (h7.mp this).2 hp
      · have := decide_eq_true (h7.mpr ⟨rfl, hp⟩)
        rw [this] at z
        simp at z
        exact hp z
  · intro n hk
    simp at hk
    have e2 := run_right Z_k04 b n hb (by omega) (by omega) hB
    simp [f_law_k04_b2, law4E, e2]
end Al.B
/-! B13: the books of the laws over tables (k13 ..). -/
namespace Al.B
@[simp] theorem run_cell13 (Z : Far) (ns : List Int) (k : Nat) : run Z f_l_cell [.scr ns, .int k] = some (.ok (.int (cellAt ns k)) .st []) := by
  unfold f_l_cell
  by_cases h : (k : Int) < ns.length
  · have h' : k < ns.length := by omega
    simp [h, atL, ixI, cellAt, h', List.getD]
  · have h' : ¬ k < ns.length := by omega
    simp [h, cellAt, h', List.getD]
@[simp] theorem run_cell13_0 (Z : Far) (ns : List Int) : run Z f_l_cell [.scr ns, .int 0] = some (.ok (.int (cellAt ns 0)) .st []) := run_cell13 Z ns 0
/-- the cell that is mixed -/
def cell13 (ns : List Int) (k : Int) : Int := if 0 < ns.length then ns.getD (k % (ns.length : Int)).toNat 0 else 7
def m13a (c k : Int) : Int := (c % 2147483629 + 40503 * k + 1) * 48271 % 2147483647
def m13b (c k : Int) : Int := m13a c k * m13a c k % 2147483629
def m13c (c k : Int) : Int := (m13b c k + k) * 69621 % 2147483587
def mixed13 (ns : List Int) (k : Int) : Int := m13c (cell13 ns k) k * m13c (cell13 ns k) k % 2147483563 / 3
theorem mixed13_nn (ns : List Int) (k : Int) : 0 ≤ mixed13 ns k := by
  unfold mixed13
  have := Int.emod_nonneg (m13c (cell13 ns k) k * m13c (cell13 ns k) k) (show (2147483563 : Int) ≠ 0 by decide)
  omega
theorem run_mixed13 (Z : Far) (ns : List Int) (k : Int) (hk : 0 ≤ k ∧ k < 1000000) : run Z f_l_mixed_k13 [.scr ns, .int k] = some (.ok (.int (mixed13 ns k)) .st []) := by
  unfold f_l_mixed_k13
  have b1 : ∀ c : Int, 0 ≤ m13a c k ∧ m13a c k < 2147483647 := fun c => ⟨Int.emod_nonneg _ (by decide), Int.emod_lt_of_pos _ (by decide)⟩
  have b2 : ∀ c : Int, 0 ≤ m13b c k ∧ m13b c k < 2147483629 := fun c => ⟨Int.emod_nonneg _ (by decide), Int.emod_lt_of_pos _ (by decide)⟩
  have b3 : ∀ c : Int, 0 ≤ m13c c k ∧ m13c c k < 2147483587 := fun c => ⟨Int.emod_nonneg _ (by decide), Int.emod_lt_of_pos _ (by decide)⟩
  have e1 : ∀ c : Int, (c % 2147483629 + 40503 * k + 1) * 48271 % 2147483647 = m13a c k := fun _ => rfl
  have e2 : ∀ c : Int, m13a c k * m13a c k % 2147483629 = m13b c k := fun _ => rfl
  have e3 : ∀ c : Int, (m13b c k + k) * 69621 % 2147483587 = m13c c k := fun _ => rfl
  have c1 : ∀ c : Int, -18446744073709551616 < m13a c k ∧ m13a c k < 18446744073709551616 := fun c => by have := b1 c; omega
  have c3 : ∀ c : Int, -18446744073709551616 < m13c c k ∧ m13c c k < 18446744073709551616 := fun c => by have := b3 c; omega
  by_cases h : 0 < ns.length
  · have h1 := atL_mod ns 0 (List.length_pos_iff.mp h) k
    have h2 := big_of (j := (ns.length : Int))
    have h3 : (0 : Int) < ns.length := by omega
    have h4 : (ns.length : Int) < 10 ^ 70 ∨ ¬ (ns.length : Int) < 10 ^ 70 := Classical.em _
    simp [h, h1, e1, e2, e3, c1, c3, mixed13, cell13]
  · have e7 : (7 + 40503 * k + 1) * 48271 % 2147483647 = m13a 7 k := by unfold m13a; simp
    simp [h, e7, e2, e3, c1, c3, mixed13, cell13]
/-- a loop that goes through to its end, what it does told by an invariant alone -/
theorem loopF_inv {σ β : Type} {body : Env → Option Fl} {tg : Tg} {ks : List Nat} (P : Nat → σ → Prop) (enc : σ → Env) (it : β → D × Kd) : ∀ (xs : List β) (n : Nat) (s : σ) {ρ : Env}, kill ρ ks = enc s → P n s →
    (∀ i s b, xs[i]? = some b → P (n + i) s → ∃ s', turn body tg ks (it b) (enc s) = some (.inr (enc s')) ∧ P (n + i + 1) s' ∧ kill (enc s') ks = enc s') →
    ∃ s', loopF body tg ks (xs.map it) ρ = some (.nx (enc s')) ∧ P (n + xs.length) s'
  | [], n, s, ρ, hk, h0, _ => ⟨s, by rw [List.map_nil, loopF_nil, hk], h0⟩
  | b :: xs, n, s, ρ, hk, h0, h => by
    obtain ⟨s1, h1, p1, k1⟩ := h 0 s b rfl h0
    obtain ⟨s2, h2, p2⟩ := loopF_inv P enc it xs (n + 1) s1 (ρ := enc s1) k1 p1 fun i s' b' hb hp => by
      have := h (i + 1) s' b' (by simpa using hb) (by rw [show n + (i + 1) = n + 1 + i by omega]; exact hp)
      rw [show n + (i + 1) = n + 1 + i by omega] at this
      exact this
    refine ⟨s2, ?_, by rw [List.length_cons, show n + (xs.length + 1) = n + 1 + xs.length by omega]; exact p2⟩
    rw [List.map_cons, loopF_cons, hk, h1]
    exact h2
/-- 26 signs -/
structure Sg26 (w : W) : Prop where
  len : w.length = 26
  sg : ∀ c ∈ w, isSg c
theorem run_signs13 (Z : Far) (c : Int) : ∃ w, run Z f_l_signs [.int c] = some (.ok (.lst (ones w)) .fr []) ∧ Sg26 w := by
  obtain ⟨st, hst, e1⟩ := atL_in [1, 3, 5, 7, 9] (c / 26 % 5) (mod_in _ 5 (by decide)).1 (mod_in _ 5 (by decide)).2
  have e1' := atL_map (fun n : Nat => D.int n) [1, 3, 5, 7, 9] (c / 26 % 5)
  rw [e1] at e1'
  simp at e1'
  have hc : ∀ i : Int, atL ([97, 98, 99, 100, 101, 102, 103, 104, 105, 106, 107, 108, 109, 110, 111, 112, 113, 114, 115, 116, 117, 118, 119, 120, 121, 122] : W) (i % 26) = some (chAt [97, 98, 99, 100, 101, 102, 103, 104, 105, 106, 107, 108, 109, 110, 111, 112, 113, 114, 115, 116, 117, 118, 119, 120, 121, 122] i) := fun i => atL_mod _ 0 (by simp) i
  have hg : ∀ i : Int, isSg (chAt [97, 98, 99, 100, 101, 102, 103, 104, 105, 106, 107, 108, 109, 110, 111, 112, 113, 114, 115, 116, 117, 118, 119, 120, 121, 122] i) := fun i => (LETS_ok _ (by decide)).2.2 _ (getD_mod_mem _ 0 (by simp) i)
  have hs : -18446744073709551616 < (st : Int) ∧ (st : Int) < 18446744073709551616 := by simp at hst; omega
  refine ⟨(List.range 26).map fun k : Nat => chAt [97, 98, 99, 100, 101, 102, 103, 104, 105, 106, 107, 108, 109, 110, 111, 112, 113, 114, 115, 116, 117, 118, 119, 120, 121, 122] (c + st * k), ?_, by simp, fun x hx => ?_⟩
  · unfold f_l_signs
    simp [e1']
    rw [lcF_map (g := fun k : Nat => (.str [chAt [97, 98, 99, 100, 101, 102, 103, 104, 105, 106, 107, 108, 109, 110, 111, 112, 113, 114, 115, 116, 117, 118, 119, 120, 121, 122] (c + st * k)], .st)) (fun k hk => by simp [f_l_signs_e1, lcI_nm, hs, hc])]
    simp [ones, Function.comp_def]
  · obtain ⟨k, _, rfl⟩ := List.mem_map.mp hx
    exact hg _
end Al.B
/-! B13b: books by digits. -/
namespace Al.B
def digE (w : W) (sm : Nat) (many : Int) (k sz : Option (D × Kd)) (s : Int × Nat × List W) (t : Option (D × Kd)) : Env := [some (.int s.1, .st), some (.lst (ones w), .st), some (.int sm, .st), some (.int many, .st), some (.int s.2.1, .st), some (.lst (s.2.2.map .str), .fr), k, sz, t, none]
theorem ones_get (w : W) (i : Nat) (h : i < w.length) : (ones w)[i]? = some (.str [w[i]]) := by unfold ones; rw [List.getElem?_map, List.getElem?_eq_getElem h]; rfl
theorem run_digits (Z : Far) (c : Int) : ∃ b, run Z f_l_by_digits [.int c] = some (.ok (.lst (b.map .str)) .fr []) ∧ Bk b ∧ total b ≤ 24 ∧ b.length ≤ 4 := by
  obtain ⟨w, e1, hw⟩ := run_signs13 Z c
  obtain ⟨sm, hsm, e2⟩ := atL_in [1, 2, 3, 4, 2, 3, 4, 26] (c / 130 % 8) (mod_in _ 8 (by decide)).1 (mod_in _ 8 (by decide)).2
  have e2' := atL_map (fun n : Nat => D.int n) [1, 2, 3, 4, 2, 3, 4, 26] (c / 130 % 8)
  rw [e2] at e2'
  simp at e2'
  have hs : 0 < sm ∧ sm ≤ 26 := by simp at hsm; omega
  have m1 := mod_in (c / 1040) 5 (by decide)
  have h3 : c / 1040 % 5 ≤ 16777216 ∧ -1000000000 < c / 1040 % 5 := by omega
  unfold f_l_by_digits
  obtain ⟨s', h1, h2⟩ := loopF_inv (body := denSs Z f_l_by_digits_b3) (tg := .nm 6) (ks := [6, 7, 8, 9]) (fun i (s : Int × Nat × List W) => s.2.2.length = i ∧ total s.2.2 + s.2.1 = 24 ∧ ∀ t ∈ s.2.2, ∀ x ∈ t, isSg x) (fun s => digE w sm (c / 1040 % 5) none none s none) (fun k : Nat => (.int k, .st)) (List.range (c / 1040 % 5).toNat) 0 (c / 5200, 24, []) (ρ := digE w sm (c / 1040 % 5) none none (c / 5200, 24, []) none) rfl ⟨rfl, rfl, fun _ z => nomatch z⟩ (by
      rintro i ⟨cell, room, b⟩ k hk ⟨p1, p2, p3⟩
      simp only at p1 p2 p3
      have m2 := mod_in cell 25 (by decide)
      obtain ⟨z, hz, hz2⟩ : ∃ z : Nat, (if cell % 25 < (room : Int) then cell % 25 else (room : Int)) = z ∧ z ≤ room := by
        split
        · exact ⟨(cell % 25).toNat, by omega, by omega⟩
        · exact ⟨room, rfl, by omega⟩
      have hk4 : i < 5 := by have := (List.getElem?_eq_some_iff.mp hk).1; simp at this; omega
      obtain ⟨⟨c2, t⟩, h1, q1, q2⟩ := loopF_inv (body := denSs Z f_l_by_digits_b1) (tg := .nm 9) (ks := [9]) (fun j (s : Int × W) => s.2.length = j ∧ ∀ x ∈ s.2, isSg x) (fun s => digE w sm (c / 1040 % 5) (some (.int k, .st)) (some (.int z, .st)) (s.1, room - z, b) (some (.str s.2, .st))) (fun k : Nat => (.int k, .st)) (List.range z) 0 (cell / 25, []) (ρ := digE w sm (c / 1040 % 5) (some (.int k, .st)) (some (.int z, .st)) (cell / 25, room - z, b) (some (.str [], .st))) rfl ⟨rfl, fun _ z => nomatch z⟩ (by
        rintro j ⟨cc, t⟩ k2 hk2 ⟨r1, r2⟩
        simp only at r1 r2
        have m3 := mod_in cc sm (by omega)
        have hlw := hw.len
        obtain ⟨x, hx, a1⟩ := atL_in w (cc % (sm : Int)) m3.1 (by omega)
        have a2 := atL_map (fun c : Nat => D.str [c]) w (cc % (sm : Int))
        rw [a1] at a2
        have a3 : atL (ones w) (cc % (sm : Int)) = some (.str [x]) := a2
        have hj : j < z := by have := (List.getElem?_eq_some_iff.mp hk2).1; simpa using this
        have hb : (sm : Int) < 10 ^ 70 := by have := big_of (j := (sm : Int)) (by omega); omega
        have hL : t.length + 1 ≤ 16777216 := by omega
        refine ⟨(cc / sm, t ++ [x]), ?_, ⟨by simp [r1], fun y hy => ?_⟩, rfl⟩
        · simp [f_l_by_digits_b1, digE, a3, hs.1, hb, hL, big_of (j := (sm : Int)) (by omega)]
        · rcases List.mem_append.mp hy with hy | hy
          · exact r2 y hy
          · rw [List.mem_singleton.mp hy]; exact hw.sg x hx)
      refine ⟨(c2, room - z, b ++ [t]), ?_, ⟨by simp; omega, ?_, ?_⟩, rfl⟩
      · simp only [digE] at h1
        have h5 : (room : Int) - z = ((room - z : Nat) : Int) := by omega
        have h6 : z ≤ 16777216 := by omega
        have h7 : b.length < 16777216 := by omega
        simp [-Int.natCast_sub, f_l_by_digits_b3, digE, hz, h5, h6]
        rw [h1]
        simp [f_l_by_digits_r2, h7]
      · simp at q1
        simp [total] at p2 ⊢
        omega
      · intro x hx
        rcases List.mem_append.mp hx with hx | hx
        · exact p3 x hx
        · rw [List.mem_singleton.mp hx]; exact q2)
  · refine ⟨s'.2.2, ?_, ⟨by have := h2.1; simp at this; omega, by have := h2.2.1; omega, h2.2.2⟩, by have := h2.2.1; omega, by have := h2.1; simp at this; omega⟩
    simp only [digE, List.map_nil] at h1
    simp [e1, e2', h3]
    rw [show (24 : Int) = ((24 : Nat) : Int) from rfl, h1]
    simp [f_l_by_digits_r4]
end Al.B
/-! B13c: books by mixing. -/
namespace Al.B
def mixE (ns : List Int) (most : Nat) (w : W) (sm : Nat) (k sz bk : Option (D × Kd)) (s : Nat × List W) (t : Option (D × Kd)) : Env :=
  [some (.scr ns, .st), some (.int most, .st), some (.lst (ones w), .st), some (.int sm, .st), some (.int s.1, .st), some (.lst (s.2.map .str), .fr), k, sz, bk, t, none, none]
/-- one sign more -/
theorem mix_turn (Z : Far) (ns : List Int) (most : Nat) (w : W) (hw : Sg26 w) (sm : Nat) (hs : 0 < sm ∧ sm ≤ 26) (k : Nat) (hk : k ≤ 100) (z : Nat) (bk : Nat) (hb : 1 ≤ bk ∧ bk ≤ 5) (s : Nat × List W) (t : W) (ht : t.length ≤ 200) (hsg : ∀ x ∈ t, isSg x) (j : Nat) (hj : j ≤ 200) :
    ∃ x, isSg x ∧ turn (denSs Z f_l_by_mixing_b1) (.nm 10) [10, 11] (.int j, .st) (mixE ns most w sm (some (.int k, .st)) (some (.int z, .st)) (some (.int bk, .st)) s (some (.str t, .st))) =
      some (.inr (mixE ns most w sm (some (.int k, .st)) (some (.int z, .st)) (some (.int bk, .st)) s (some (.str (t ++ [x]), .st)))) := by
  have e1 := run_mixed13 Z ns (20 * (k : Int) + 6 + j) (by omega)
  generalize mixed13 ns (20 * (k : Int) + 6 + j) = n at e1
  have hL : t.length + 1 ≤ 16777216 := by omega
  have m3 := mod_in (n / 4) sm (by omega)
  have hlw := hw.len
  obtain ⟨x, hx, a1⟩ := atL_in w (n / 4 % (sm : Int)) m3.1 (by omega)
  have a2 := atL_map (fun c : Nat => D.str [c]) w (n / 4 % (sm : Int))
  rw [a1] at a2
  have a3 : atL (ones w) (n / 4 % (sm : Int)) = some (.str [x]) := a2
  by_cases h1 : (bk : Int) ≤ t.length ∧ 0 < n % 4
  · obtain ⟨y, hy, b1⟩ := atL_in t ((t.length : Int) - bk) (by omega) (by omega)
    have h2 : bk ≤ t.length := by omega
    exact ⟨y, hsg y hy, by simp [f_l_by_mixing_b1, mixE, e1, h1.1, h1.2, h2, b1, hL]⟩
  · refine ⟨x, hw.sg x hx, ?_⟩
    have hp : (0 : Int) < sm := by omega
    have hp' : 0 < sm := hs.1
    by_cases h2 : bk ≤ t.length
    · have h3 : ¬ 0 < n % 4 := fun z => h1 ⟨by omega, z⟩
      simp [f_l_by_mixing_b1, mixE, e1, h2, h3, a3, hL, hp, hp']
    · simp [f_l_by_mixing_b1, mixE, e1, h2, a3, hL, hp, hp']
theorem total_take_le (n : Nat) (b : List W) : total (b.take n) ≤ total b := by
  have := congrArg total (List.take_append_drop n b)
  unfold total at *
  rw [List.map_append, List.sum_append] at this
  omega
theorem run_mixing (Z : Far) (ns : List Int) (most : Nat) (hm : most ≤ 100) : ∃ b, run Z f_l_by_mixing [.scr ns, .int most] = some (.ok (.lst (b.map .str)) .fr []) ∧ Bk b ∧ total b ≤ most := by
  have e0 := run_mixed13 Z ns 1 (by omega)
  have e3 := run_mixed13 Z ns 2 (by omega)
  have e4 := run_mixed13 Z ns 3 (by omega)
  obtain ⟨w, e1, hw⟩ := run_signs13 Z (mixed13 ns 1)
  obtain ⟨sm, hsm, e2⟩ := atL_in [1, 2, 3, 4, 2, 3, 9, 26] (mixed13 ns 2 % 8) (mod_in _ 8 (by decide)).1 (mod_in _ 8 (by decide)).2
  have e2' := atL_map (fun n : Nat => D.int n) [1, 2, 3, 4, 2, 3, 9, 26] (mixed13 ns 2 % 8)
  rw [e2] at e2'
  simp at e2'
  have hs : 0 < sm ∧ sm ≤ 26 := by simp at hsm; omega
  have m1 := mod_in (mixed13 ns 3) 6 (by decide)
  have h3 : mixed13 ns 3 % 6 ≤ 16777216 ∧ -1000000000 < mixed13 ns 3 % 6 := by omega
  unfold f_l_by_mixing
  obtain ⟨s', h1, h2⟩ := loopF_inv (body := denSs Z f_l_by_mixing_b3) (tg := .nm 6) (ks := [6, 7, 8, 9, 10, 11]) (fun i (s : Nat × List W) => s.2.length ≤ 2 * i ∧ total s.2 + s.1 = most ∧ ∀ t ∈ s.2, ∀ x ∈ t, isSg x) (fun s => mixE ns most w sm none none none s none) (fun k : Nat => (.int k, .st)) (List.range (mixed13 ns 3 % 6).toNat) 0 (most, []) (ρ := mixE ns most w sm none none none (most, []) none) rfl ⟨by simp, by simp [total], fun _ z => nomatch z⟩ (by
      rintro i ⟨room, b⟩ k hk ⟨p1, p2, p3⟩
      simp only at p1 p2 p3
      have hki : k = i ∧ i < 6 := by
        obtain ⟨q1, q2⟩ := List.getElem?_eq_some_iff.mp hk
        simp at q1 q2
        omega
      have e5 := run_mixed13 Z ns (20 * (k : Int) + 4) (by omega)
      have e6 := run_mixed13 Z ns (20 * (k : Int) + 5) (by omega)
      generalize mixed13 ns (20 * (k : Int) + 4) = n4 at e5
      generalize mixed13 ns (20 * (k : Int) + 5) = n5 at e6
      have m2 := mod_in n4 ((most : Int) + 1) (by omega)
      have m3 := mod_in n5 5 (by decide)
      obtain ⟨z, hz, hz2⟩ : ∃ z : Nat, (if n4 % ((most : Int) + 1) < (room : Int) then n4 % ((most : Int) + 1) else (room : Int)) = z ∧ z ≤ room := by
        split
        · exact ⟨(n4 % ((most : Int) + 1)).toNat, by omega, by omega⟩
        · exact ⟨room, rfl, by omega⟩
      obtain ⟨bk, hbk⟩ : ∃ bk : Nat, 1 + n5 % 5 = bk := ⟨(1 + n5 % 5).toNat, by omega⟩
      obtain ⟨t, g1, q1, q2⟩ := loopF_inv (body := denSs Z f_l_by_mixing_b1) (tg := .nm 10) (ks := [10, 11]) (fun j (t : W) => t.length = j ∧ ∀ x ∈ t, isSg x) (fun t => mixE ns most w sm (some (.int k, .st)) (some (.int z, .st)) (some (.int bk, .st)) (room - z, b) (some (.str t, .st))) (fun k : Nat => (.int k, .st)) (List.range z) 0 ([] : W) (ρ := mixE ns most w sm (some (.int k, .st)) (some (.int z, .st)) (some (.int bk, .st)) (room - z, b) (some (.str [], .st))) rfl ⟨rfl, fun _ z => nomatch z⟩ (by
        rintro j t k2 hk2 ⟨r1, r2⟩
        have hj : k2 = j ∧ j < z := by
          obtain ⟨q1, q2⟩ := List.getElem?_eq_some_iff.mp hk2
          simp at q1 q2
          omega
        obtain ⟨x, hx, tt⟩ := mix_turn Z ns most w hw sm hs k (by omega) z bk (by omega) (room - z, b) t (by omega) r2 k2 (by omega)
        exact ⟨t ++ [x], tt, ⟨by simp [r1], fun y hy => by
          rcases List.mem_append.mp hy with hy | hy
          · exact r2 y hy
          · rw [List.mem_singleton.mp hy]; exact hx⟩, rfl⟩)
      have h5 : (room : Int) - z = ((room - z : Nat) : Int) := by omega
      have h6 : z ≤ 16777216 := by omega
      have h7 : b.length < 16777216 := by omega
      have h8 : (0 : Int) < (most : Int) + 1 := by omega
      have h9 : b.length + 1 < 16777216 := by omega
      have q1' : t.length = z := by simpa using q1
      simp only [mixE] at g1
      by_cases hc : 2 < z ∧ n5 % 3 = 0 ∧ 2 ≤ room - z
      · obtain ⟨d1, d2, d3⟩ := hc
        have c1 : (2 : Int) < z := by omega
        have c3 : (2 : Int) ≤ ((room - z : Nat) : Int) := by omega
        have c4 : ((room - z : Nat) : Int) - 2 = ((room - z - 2 : Nat) : Int) := by omega
        have hct : cutL t (some 1) (some 3) = (t.take 3).drop 1 := cutL_gen t 1 3
        have hcl : ((t.take 3).drop 1).length = 2 := by simp; omega
        refine ⟨(room - z - 2, b ++ [t, (t.take 3).drop 1]), ?_, ⟨by simp; omega, by simp only [total, List.map_append, List.sum_append, List.map_cons, List.map_nil, List.sum_cons, List.sum_nil, hcl] at p2 ⊢; omega, fun x hx => by
          rcases List.mem_append.mp hx with hx | hx
          · exact p3 x hx
          · rcases List.mem_cons.mp hx with rfl | hx
            · exact q2
            · rw [List.mem_singleton.mp hx]; exact fun y hy => q2 y (List.mem_of_mem_take (List.mem_of_mem_drop hy))⟩, rfl⟩
        simp [-Int.natCast_sub, f_l_by_mixing_b3, mixE, e5, e6, hz, h5, h6, h8, hbk]
        rw [g1]
        simp [-Int.natCast_sub, f_l_by_mixing_r2, e6, h7, c1, d2, c3, c4, h9, hct]
      · refine ⟨(room - z, b ++ [t]), ?_, ⟨by simp; omega, by simp [total] at p2 ⊢; omega, fun x hx => by
          rcases List.mem_append.mp hx with hx | hx
          · exact p3 x hx
          · rw [List.mem_singleton.mp hx]; exact q2⟩, rfl⟩
        simp [-Int.natCast_sub, f_l_by_mixing_b3, mixE, e5, e6, hz, h5, h6, h8, hbk]
        rw [g1]
        by_cases c1 : (2 : Int) < z
        · by_cases c2 : n5 % 3 = 0
          · have c3 : ¬ (2 : Int) ≤ ((room - z : Nat) : Int) := fun h => hc ⟨by omega, c2, by omega⟩
            simp [-Int.natCast_sub, f_l_by_mixing_r2, e6, h7, c1, c2, c3]
          · simp [f_l_by_mixing_r2, e6, h7, c1, c2]
        · simp [f_l_by_mixing_r2, e6, h7, c1])
  have ht := total_take_le 8 s'.2
  have hts := h2.2.1
  refine ⟨s'.2.take 8, ?_, ⟨by simp; omega, by omega, fun t ht => h2.2.2 t (List.mem_of_mem_take ht)⟩, by omega⟩
  simp only [mixE, List.map_nil] at h1
  simp [-List.map_take, e0, e1, e3, e2', e4, h3]
  rw [h1]
  simp [-List.map_take, take_mapD, f_l_by_mixing_r4]
end Al.B
/-! B13d: the book of the laws over tables. -/
namespace Al.B
theorem flat_rep (n c : Nat) : (List.replicate n [c]).flatten = List.replicate n c := by
  induction n with
  | zero => rfl
  | succ n ih => rw [List.replicate_succ, List.flatten_cons, ih]; rfl
theorem run_great (Z : Far) (ns : List Int) : ∃ b, run Z f_l_great [.scr ns] = some (.ok (.lst (b.map .str)) .fr []) ∧ Bk b := by
  have e1 := run_mixed13 Z ns 1 (by omega)
  have e2 := run_mixed13 Z ns 2 (by omega)
  have e3 := run_mixed13 Z ns 3 (by omega)
  have e4 := run_mixed13 Z ns 4 (by omega)
  obtain ⟨w, e0, hw⟩ := run_signs13 Z (mixed13 ns 1)
  have m2 := mod_in (mixed13 ns 2) 21 (by decide)
  obtain ⟨n, hn⟩ : ∃ n : Nat, 100 + mixed13 ns 2 % 21 = n := ⟨(100 + mixed13 ns 2 % 21).toNat, by omega⟩
  have hl := hw.len
  obtain ⟨x, y, r, hw2⟩ : ∃ x y r, w = x :: y :: r := by
    match w, hl with
    | x :: y :: r, _ => exact ⟨x, y, r, rfl⟩
  subst hw2
  have hx := hw.sg x (by simp)
  have hy := hw.sg y (by simp)
  have hm : p_mul [(.str [x], .st), (.int (n : Int), .st)] = some (.str (List.replicate n x), .st) := by
    show (if ([x] : W).length * (n : Int).toNat ≤ LINE ∧ (-4611686018427387904 : Int) ≤ n ∧ (n : Int) < 4611686018427387904 then some (D.str ((List.replicate (n : Int).toNat [x]).flatten), Kd.st) else none) = _
    rw [if_pos (by rw [LINE_eq']; simp; omega), Int.toNat_natCast, flat_rep]
  have m4 := mod_in (mixed13 ns 4) (n : Int) (by omega)
  obtain ⟨a, ha⟩ : ∃ a : Nat, mixed13 ns 4 % (n : Int) = a := ⟨(mixed13 ns 4 % (n : Int)).toNat, by omega⟩
  have hp : (0 : Int) < n := by omega
  unfold f_l_great
  by_cases c1 : mixed13 ns 3 % 2 = 0
  · refine ⟨[(List.replicate n x).take a ++ [y] ++ (List.replicate n x).drop (a + 1)], ?_, ⟨by simp, ?_, ?_⟩⟩
    · have h5 : ((a : Int) + 1) = ((a + 1 : Nat) : Int) := by omega
      have h6 : min a n ≤ 200 := by omega
      have h7 : min a n + 1 ≤ 16777216 := by omega
      have h8 : min a n + (1 + (n - (a + 1))) ≤ 16777216 := by omega
      have h9 : min a n + 1 + (n - (a + 1)) ≤ 16777216 := by omega
      simp [e0, e1, e2, e3, e4, hn, hm, c1, ones, ha, h5, h7, h8, h9, hp, -Int.natCast_add, show 0 < n by omega]
    · simp [total]; omega
    · intro t ht c hc
      rw [List.mem_singleton.mp ht] at hc
      rcases List.mem_append.mp hc with hc | hc
      · rcases List.mem_append.mp hc with hc | hc
        · rw [(List.mem_replicate.mp (List.mem_of_mem_take hc)).2]; exact hx
        · rw [List.mem_singleton.mp hc]; exact hy
      · rw [(List.mem_replicate.mp (List.mem_of_mem_drop hc)).2]; exact hx
  · refine ⟨[List.replicate n x], ?_, ⟨by simp, ?_, ?_⟩⟩
    · simp [e0, e1, e2, e3, e4, hn, hm, c1, ones]
    · simp [total]; omega
    · intro t ht c hc
      rw [List.mem_singleton.mp ht] at hc
      rw [(List.mem_replicate.mp hc).2]; exact hx
theorem run_book13 (Z : Far) (ns : List Int) (most : Nat) (hm : most ≤ 100) : ∃ b, run Z f_l_book_k13 [.scr ns, .int most] = some (.ok (.lst (b.map .str)) .fr []) ∧ Bk b := by
  have e5 := run_mixed13 Z ns 5 (by omega)
  have e0 := run_mixed13 Z ns 0 (by omega)
  obtain ⟨b1, h1, B1, _⟩ := run_digits Z (cellAt ns 0 / 2)
  obtain ⟨b2, h2, B2⟩ := run_great Z ns
  obtain ⟨m, hm2, e1⟩ := atL_in [24, 24, 24, most] (mixed13 ns 0 % 4) (mod_in _ 4 (by decide)).1 (mod_in _ 4 (by decide)).2
  have e1' := atL_map (fun n : Nat => D.int n) [24, 24, 24, most] (mixed13 ns 0 % 4)
  rw [e1] at e1'
  simp at e1'
  obtain ⟨b3, h3, B3, _⟩ := run_mixing Z ns m (by simp at hm2; omega)
  unfold f_l_book_k13
  by_cases c1 : cellAt ns 0 % 2 = 0
  · exact ⟨b1, by simp [c1, h1], B1⟩
  · by_cases c2 : (30 : Int) < most ∧ mixed13 ns 5 % 16 = 0
    · exact ⟨b2, by simp [c1, e5, c2.1, c2.2, h2], B2⟩
    · refine ⟨b3, ?_, B3⟩
      by_cases c3 : (30 : Int) < most
      · have c4 : ¬ mixed13 ns 5 % 16 = 0 := fun h => c2 ⟨c3, h⟩
        simp [c1, e5, e0, c3, c4, e1', h3]
      · simp [c1, e5, e0, c3, e1', h3]
end Al.B
/-! C1: places and parts, in plain Lean. -/
namespace Al.B
theorem mem_pl {b : List W} {w : W} {p : Pl} : p ∈ places b w ↔ p.1 < b.length ∧ p.2 ≤ (b.getD p.1 []).length ∧ w <:+ (b.getD p.1 []).take p.2 := by
  rw [mem_places]
  unfold wordAt
  constructor
  · rintro ⟨h1, h2, h3, h4⟩
    exact ⟨h1, h2, ⟨_, by rw [← h4]; exact List.take_append_drop (p.2 - w.length) _⟩⟩
  · rintro ⟨h1, h2, h3⟩
    have hl := h3.length_le
    have := List.suffix_iff_eq_drop.mp h3
    rw [List.length_take] at hl this
    rw [Nat.min_eq_left h2] at hl this
    exact ⟨h1, h2, hl, this.symm⟩
theorem places_sorted (b : List W) (w : W) : (places b w).Pairwise fun p q => leP p q = true := by
  rw [places_range, List.pairwise_flatMap]
  constructor
  · intro n _
    rw [List.pairwise_map]
    have : (endsIn (b.getD n []) w).Pairwise (· < ·) := by
      rw [endsIn_eq]
      exact List.pairwise_lt_range.filter _
    exact this.imp fun {x y} h => by unfold leP; simp; omega
  · exact List.pairwise_lt_range.imp fun {x y} h p hp q hq => by
      obtain ⟨e, _, rfl⟩ := List.mem_map.mp hp
      obtain ⟨e', _, rfl⟩ := List.mem_map.mp hq
      unfold leP
      simp
      omega
theorem places_ext {b c : List W} {v w : W} (h : ∀ p, p ∈ places b v ↔ p ∈ places c w) : places b v = places c w :=
  sorted_unique leP leP_anti (places_sorted b v) (places_sorted c w) ((List.perm_ext_iff_of_nodup (places_nodup b v) (places_nodup c w)).mpr h)
theorem places_suf {b : List W} {u w : W} (h : u <:+ w) {p : Pl} (hp : p ∈ places b w) : p ∈ places b u := by
  obtain ⟨h1, h2, h3⟩ := mem_pl.mp hp
  exact mem_pl.mpr ⟨h1, h2, h.trans h3⟩
theorem suf_of_places {b : List W} {u w : W} {p : Pl} (hu : p ∈ places b u) (hw : p ∈ places b w) (h : u.length ≤ w.length) : u <:+ w :=
  List.suffix_of_suffix_length_le (mem_pl.mp hu).2.2 (mem_pl.mp hw).2.2 h
theorem mem_snoc {b : List W} {w : W} {c : Nat} {i e : Nat} : (i, e) ∈ places b (w ++ [c]) ↔ ∃ k, e = k + 1 ∧ (i, k) ∈ places b w ∧ (b.getD i [])[k]? = some c := by
  rw [mem_pl]
  constructor
  · rintro ⟨h1, h2, h3⟩
    simp only at h1 h2 h3
    obtain ⟨r, hr⟩ := h3
    have hl := congrArg List.length hr
    simp at hl
    obtain ⟨k, rfl⟩ : ∃ k, e = k + 1 := ⟨e - 1, by omega⟩
    have hk : k < (b.getD i []).length := by omega
    have e1 : (b.getD i []).take (k + 1) = (b.getD i []).take k ++ [(b.getD i [])[k]] := by
      rw [List.take_succ, List.getElem?_eq_getElem hk]; rfl
    rw [e1, ← List.append_assoc] at hr
    obtain ⟨q1, q2⟩ := List.append_inj' hr rfl
    refine ⟨k, rfl, mem_pl.mpr ⟨h1, by simp only; omega, ⟨r, q1⟩⟩, ?_⟩
    rw [List.getElem?_eq_getElem hk]
    simpa using q2.symm
  · rintro ⟨k, rfl, h, hc⟩
    obtain ⟨h1, h2, h3⟩ := mem_pl.mp h
    obtain ⟨hk, hc⟩ := List.getElem?_eq_some_iff.mp hc
    obtain ⟨r, hr⟩ := h3
    simp only at hr h1 h2
    refine ⟨h1, by simp only; omega, ⟨r, ?_⟩⟩
    simp only
    rw [List.take_succ, List.getElem?_eq_getElem hk, ← hr, hc]
    simp
theorem mem_pl_nil {b : List W} {p : Pl} : p ∈ places b [] ↔ p.1 < b.length ∧ p.2 ≤ (b.getD p.1 []).length := by
  rw [mem_pl]
  exact ⟨fun ⟨a, b, _⟩ => ⟨a, b⟩, fun ⟨a, b⟩ => ⟨a, b, List.nil_suffix⟩⟩
/-- alike words stay alike -/
theorem snoc_cong {b : List W} {v w : W} (h : places b v = places b w) (c : Nat) : places b (v ++ [c]) = places b (w ++ [c]) := by
  apply places_ext
  rintro ⟨i, e⟩
  rw [mem_snoc, mem_snoc, h]
theorem app_cong {b : List W} {v w : W} (h : places b v = places b w) : ∀ (x : W), places b (v ++ x) = places b (w ++ x) := by
  intro x
  induction x generalizing v w with
  | nil => simpa using h
  | cons c r ih =>
    have := ih (snoc_cong h c)
    simpa using this
/-- a part of the book's texts -/
def Part (b : List W) (w : W) : Prop := w = [] ∨ places b w ≠ []
instance (b : List W) (w : W) : Decidable (Part b w) := inferInstanceAs (Decidable (_ ∨ _))
@[simp] theorem part_nil (b : List W) : Part b [] := .inl rfl
theorem part_iff {b : List W} {w : W} (h : w ≠ []) : Part b w ↔ places b w ≠ [] := ⟨fun z => z.resolve_left h, .inr⟩
theorem part_mem {b : List W} {w : W} {p : Pl} (h : p ∈ places b w) : Part b w := .inr (List.ne_nil_of_mem h)
theorem part_ex {b : List W} {w : W} (h : w ≠ []) (hp : Part b w) : ∃ p, p ∈ places b w := List.exists_mem_of_ne_nil _ ((part_iff h).mp hp)
theorem part_suf {b : List W} {u w : W} (h : u <:+ w) (hw : Part b w) : Part b u := by
  by_cases h0 : w = []
  · subst h0; rw [List.suffix_nil.mp h]; exact part_nil b
  · obtain ⟨p, hp⟩ := part_ex h0 hw
    exact part_mem (places_suf h hp)
theorem part_pre1 {b : List W} {w : W} {c : Nat} (h : Part b (w ++ [c])) : Part b w := by
  obtain ⟨⟨i, e⟩, hp⟩ := part_ex (by simp) h
  obtain ⟨k, _, h1, _⟩ := mem_snoc.mp hp
  exact part_mem h1
theorem part_pre {b : List W} {w : W} : ∀ {x : W}, Part b (w ++ x) → Part b w := by
  intro x
  induction x generalizing w with
  | nil => intro h; simpa using h
  | cons c r ih =>
    intro h
    exact part_pre1 (c := c) (ih (by simpa using h))
theorem part_snoc_cong {b : List W} {v w : W} (h : places b v = places b w) (c : Nat) : Part b (v ++ [c]) ↔ Part b (w ++ [c]) := by
  rw [part_iff (by simp), part_iff (by simp), snoc_cong h]
theorem part_tail {b : List W} {w : W} (h : Part b w) : Part b w.tail := part_suf (List.tail_suffix w) h
/-- the places tell apart the empty word -/
theorem places_nil_ne {b : List W} {w : W} (hb : b ≠ []) (hw : w ≠ []) : places b [] ≠ places b w := by
  intro h
  have : (0, 0) ∈ places b [] := mem_pl_nil.mpr ⟨List.length_pos_iff.mpr hb, by simp⟩
  rw [h] at this
  have := (mem_places.mp this).2.2.1
  exact hw (List.length_eq_zero_iff.mp (by simpa using this))
theorem places_no (w : W) : places [] w = [] := rfl
theorem part_no {w : W} (h : Part [] w) : w = [] := h.resolve_right (fun z => z rfl)
theorem places_eq_nil {b : List W} {w : W} (hw : Part b w) (h : places b w = places b []) : w = [] := by
  by_cases h0 : w = []
  · exact h0
  · by_cases hb : b = []
    · subst hb; exact part_no hw
    · exact absurd h.symm (places_nil_ne hb h0)
/-- alike parts: the shorter is the end of the longer -/
theorem suf_of_eq {b : List W} {v w : W} (hv : Part b v) (h : places b v = places b w) (hl : v.length ≤ w.length) : v <:+ w := by
  by_cases h0 : v = []
  · subst h0; exact List.nil_suffix
  · obtain ⟨p, hp⟩ := part_ex h0 hv
    exact suf_of_places hp (h ▸ hp) hl
theorem eq_of_eq {b : List W} {v w : W} (hv : Part b v) (h : places b v = places b w) (hl : v.length = w.length) : v = w :=
  (suf_of_eq hv h (by omega)).eq_of_length hl
/-- between alike words: alike -/
theorem mid_eq {b : List W} {u v w : W} (h1 : u <:+ v) (h2 : v <:+ w) (h : places b u = places b w) : places b v = places b w :=
  places_ext fun p => ⟨fun hp => h ▸ places_suf h1 hp, fun hp => places_suf h2 hp⟩
theorem part_len {b : List W} {w : W} (hw : Part b w) : w.length ≤ total b := by
  by_cases h0 : w = []
  · subst h0; simp
  · obtain ⟨p, hp⟩ := part_ex h0 hw
    obtain ⟨h1, h2, h3⟩ := mem_pl.mp hp
    have e : b.getD p.1 [] = b[p.1] := by simp [List.getD, List.getElem?_eq_getElem h1]
    rw [e] at h2 h3
    have h4 := h3.length_le
    rw [List.length_take] at h4
    have := len_le_total b (b[p.1]) (List.getElem_mem h1)
    omega
theorem part_sg {b : List W} {w : W} (hb : ∀ t ∈ b, ∀ c ∈ t, isSg c) (hw : Part b w) : ∀ c ∈ w, isSg c := by
  intro c hc
  have h0 : w ≠ [] := List.ne_nil_of_mem hc
  obtain ⟨p, hp⟩ := part_ex h0 hw
  obtain ⟨h1, h2, h3⟩ := mem_pl.mp hp
  have e : b.getD p.1 [] = b[p.1] := by simp [List.getD, List.getElem?_eq_getElem h1]
  rw [e] at h3
  exact hb _ (List.getElem_mem h1) c (List.mem_of_mem_take (h3.subset hc))
/-! ### words in order: fewer signs first -/
def leS (v w : W) : Bool := decide (v.length < w.length) || (decide (v.length = w.length) && leW v w)
theorem leS_total (v w : W) : (leS v w || leS w v) = true := by
  have := leW_total v w
  unfold leS
  by_cases h1 : v.length < w.length
  · simp [h1]
  · by_cases h2 : w.length < v.length
    · simp [h2]
    · have h3 : v.length = w.length := by omega
      simpa [h3] using this
theorem leS_trans (u v w : W) (h1 : leS u v = true) (h2 : leS v w = true) : leS u w = true := by
  unfold leS at *
  simp only [Bool.or_eq_true, Bool.and_eq_true, decide_eq_true_eq] at *
  rcases h1 with h1 | ⟨h1, h1'⟩ <;> rcases h2 with h2 | ⟨h2, h2'⟩
  · left; omega
  · left; omega
  · left; omega
  · right; exact ⟨by omega, leW_trans u v w h1' h2'⟩
theorem leS_anti (v w : W) (h1 : leS v w = true) (h2 : leS w v = true) : v = w := by
  unfold leS at *
  simp only [Bool.or_eq_true, Bool.and_eq_true, decide_eq_true_eq] at *
  rcases h1 with h1 | ⟨h1, h1'⟩ <;> rcases h2 with h2 | ⟨h2, h2'⟩
  · omega
  · omega
  · omega
  · exact leW_anti h1' h2'
theorem leS_len {v w : W} (h : leS v w = true) : v.length ≤ w.length := by
  unfold leS at h
  simp only [Bool.or_eq_true, Bool.and_eq_true, decide_eq_true_eq] at h
  omega
theorem leS_lt {v w : W} (h : v.length < w.length) : leS v w = true := by unfold leS; simp [h]
/-- all starts and ends -/
def evs (b : List W) : List (W × Pl) := b.zipIdx.flatMap fun p => (List.range (p.1.length + 1)).flatMap fun e => (List.range (e + 1)).map fun s => ((p.1.take e).drop s, (p.2, e))
/-- all parts, in order -/
def allW (b : List W) : List W := (addKs [[]] ((evs b).map (·.1))).mergeSort leS
theorem mem_evs {b : List W} {w : W} {p : Pl} : (w, p) ∈ evs b ↔ p ∈ places b w := by
  rw [mem_pl]
  unfold evs
  simp only [List.mem_flatMap, List.mem_map, List.mem_range, Prod.mk.injEq]
  constructor
  · rintro ⟨⟨t, n⟩, ht, e, he, s, hs, rfl, rfl⟩
    have := List.mem_zipIdx ht
    obtain ⟨_, h2, h3⟩ := this
    simp at h2 h3
    have e1 : b.getD n [] = t := by simp [List.getD, List.getElem?_eq_getElem h2, h3]
    exact ⟨h2, by simp only; rw [e1]; simp only at he; omega, by simp only; rw [e1]; exact List.drop_suffix _ _⟩
  · rintro ⟨h1, h2, h3⟩
    obtain ⟨n, e⟩ := p
    simp only at h1 h2 h3
    have e1 : b.getD n [] = b[n] := by simp [List.getD, List.getElem?_eq_getElem h1]
    rw [e1] at h2 h3
    refine ⟨(b[n], n), ?_, e, by simp only; omega, e - w.length, by omega, ?_, rfl⟩
    · rw [List.mem_zipIdx_iff_getElem?]; simp [List.getElem?_eq_getElem h1]
    · have := List.suffix_iff_eq_drop.mp h3
      rw [List.length_take, Nat.min_eq_left h2] at this
      exact this.symm
theorem mem_allW {b : List W} {w : W} : w ∈ allW b ↔ Part b w := by
  unfold allW
  rw [(List.mergeSort_perm _ leS).mem_iff, mem_addKs, List.mem_singleton, List.mem_map]
  constructor
  · rintro (rfl | ⟨⟨v, p⟩, h, rfl⟩)
    · exact part_nil b
    · exact part_mem (mem_evs.mp h)
  · intro h
    by_cases h0 : w = []
    · exact .inl h0
    · obtain ⟨p, hp⟩ := part_ex h0 h
      exact .inr ⟨(w, p), mem_evs.mpr hp, rfl⟩
theorem allW_nodup (b : List W) : (allW b).Nodup := (List.mergeSort_perm _ leS).nodup_iff.mpr (nodup_addKs (by simp))
theorem allW_sorted (b : List W) : (allW b).Pairwise fun v w => leS v w = true := List.pairwise_mergeSort leS_trans leS_total _
/-- the list of all parts, by what it is -/
theorem allW_unique {b : List W} {ws : List W} (h1 : ws.Nodup) (h2 : ∀ w, w ∈ ws ↔ Part b w) : ws.mergeSort leS = allW b :=
  sorted_unique leS leS_anti (List.pairwise_mergeSort leS_trans leS_total _) (allW_sorted b) ((List.mergeSort_perm ws leS).trans ((List.perm_ext_iff_of_nodup h1 (allW_nodup b)).mpr fun w => (h2 w).trans mem_allW.symm))
theorem allW_nil_head (b : List W) : ∃ r, allW b = [] :: r := by
  have h : [] ∈ allW b := mem_allW.mpr (part_nil b)
  have hs := allW_sorted b
  match e : allW b with
  | [] => rw [e] at h; cases h
  | x :: r =>
    rw [e] at h hs
    rcases List.mem_cons.mp h with h | h
    · exact ⟨r, by rw [← h]⟩
    · have := leS_len ((List.pairwise_cons.mp hs).1 _ h)
      rw [List.length_eq_zero_iff.mp (show x.length = 0 by simpa using this)]
      exact ⟨r, rfl⟩
end Al.B
/-! C2: stands: parts with the same places. -/
namespace Al.B
/-- the shortest word of its stand -/
def isRep (b : List W) (w : W) : Bool := decide (w = [] ∨ places b w.tail ≠ places b w)
/-- the shortest words of the stands, in order -/
def reps (b : List W) : List W := (allW b).filter (isRep b)
/-- the words with the same places, in order -/
def cls (b : List W) (u : W) : List W := (allW b).filter fun w => decide (places b w = places b u)
/-- the stands: their words -/
def stands (b : List W) : List (List W) := (reps b).map (cls b)
/-- the number of a word's stand -/
def num (b : List W) (w : W) : Nat := (reps b).findIdx fun u => decide (places b u = places b w)
theorem isRep_iff {b : List W} {w : W} : isRep b w = true ↔ w = [] ∨ places b w.tail ≠ places b w := by unfold isRep; rw [decide_eq_true_eq]
theorem mem_reps {b : List W} {w : W} : w ∈ reps b ↔ Part b w ∧ isRep b w = true := by unfold reps; rw [List.mem_filter, mem_allW]
theorem mem_cls {b : List W} {u w : W} : w ∈ cls b u ↔ Part b w ∧ places b w = places b u := by unfold cls; rw [List.mem_filter, mem_allW, decide_eq_true_eq]
theorem reps_nodup (b : List W) : (reps b).Nodup := (allW_nodup b).filter _
theorem reps_sorted (b : List W) : (reps b).Pairwise fun v w => leS v w = true := (allW_sorted b).filter _
theorem cls_nodup (b : List W) (u : W) : (cls b u).Nodup := (allW_nodup b).filter _
theorem cls_sorted (b : List W) (u : W) : (cls b u).Pairwise fun v w => leS v w = true := (allW_sorted b).filter _
theorem cls_congr {b : List W} {u v : W} (h : places b u = places b v) : cls b u = cls b v := by unfold cls; rw [h]
theorem reps_cons (b : List W) : ∃ r, reps b = [] :: r := by
  obtain ⟨r, h⟩ := allW_nil_head b
  unfold reps
  rw [h, List.filter_cons, if_pos (isRep_iff.mpr (.inl rfl))]
  exact ⟨_, rfl⟩
theorem reps_pos (b : List W) : 0 < (reps b).length := by obtain ⟨r, h⟩ := reps_cons b; rw [h]; simp
/-- each part has a shortest word alike -/
theorem rep_ex {b : List W} : ∀ (n : Nat) {w : W}, w.length = n → Part b w → ∃ u ∈ reps b, places b u = places b w ∧ u <:+ w
  | 0, w, hl, hw => by
    rw [List.length_eq_zero_iff.mp hl]
    obtain ⟨r, h⟩ := reps_cons b
    exact ⟨[], by rw [h]; simp, rfl, List.suffix_refl _⟩
  | n + 1, w, hl, hw => by
    by_cases h : isRep b w = true
    · exact ⟨w, mem_reps.mpr ⟨hw, h⟩, rfl, List.suffix_refl _⟩
    · rw [isRep_iff, not_or, Classical.not_not] at h
      obtain ⟨u, h1, h2, h3⟩ := rep_ex n (w := w.tail) (by rw [List.length_tail]; omega) (part_tail hw)
      exact ⟨u, h1, h2.trans h.2, h3.trans (List.tail_suffix w)⟩
/-- a shortest word is not longer than its like -/
theorem rep_le {b : List W} {u w : W} (hu : u ∈ reps b) (hw : Part b w) (h : places b u = places b w) : u.length ≤ w.length := by
  obtain ⟨h1, h2⟩ := mem_reps.mp hu
  by_cases hl : u.length ≤ w.length
  · exact hl
  · exfalso
    have h3 := suf_of_eq hw h.symm (by omega)
    rcases isRep_iff.mp h2 with h4 | h4
    · rw [h4] at hl; simp at hl
    · apply h4
      have h5 : w <:+ u.tail := by
        refine List.suffix_of_suffix_length_le h3 (List.tail_suffix u) ?_
        rw [List.length_tail]; omega
      exact (mid_eq h5 (List.tail_suffix u) h.symm)
theorem rep_eq {b : List W} {u v : W} (hu : u ∈ reps b) (hv : v ∈ reps b) (h : places b u = places b v) : u = v := by
  have h1 := rep_le hu (mem_reps.mp hv).1 h
  have h2 := rep_le hv (mem_reps.mp hu).1 h.symm
  exact eq_of_eq (mem_reps.mp hu).1 h (by omega)
theorem num_lt {b : List W} {w : W} (hw : Part b w) : num b w < (reps b).length := by
  obtain ⟨u, h1, h2, _⟩ := rep_ex _ rfl hw
  exact List.findIdx_lt_length_of_exists ⟨u, h1, by simpa using h2⟩
theorem places_num {b : List W} {w : W} (hw : Part b w) : places b ((reps b)[num b w]'(num_lt hw)) = places b w := by
  exact of_decide_eq_true (List.findIdx_getElem (w := num_lt hw))
theorem num_congr {b : List W} {v w : W} (h : places b v = places b w) : num b v = num b w := by unfold num; rw [h]
theorem num_inj {b : List W} {v w : W} (hv : Part b v) (hw : Part b w) (h : num b v = num b w) : places b v = places b w := by
  rw [← places_num hv, ← places_num hw]
  congr 2
theorem num_iff {b : List W} {v w : W} (hv : Part b v) (hw : Part b w) : num b v = num b w ↔ places b v = places b w := ⟨num_inj hv hw, num_congr⟩
/-- the shortest word of the stand of a number -/
def rep (b : List W) (k : Nat) : W := (reps b).getD k []
theorem rep_get {b : List W} {k : Nat} (h : k < (reps b).length) : rep b k = (reps b)[k] := by unfold rep; simp [List.getD, List.getElem?_eq_getElem h]
theorem rep_mem {b : List W} {k : Nat} (h : k < (reps b).length) : rep b k ∈ reps b := by rw [rep_get h]; exact List.getElem_mem h
theorem rep_part (b : List W) (k : Nat) : Part b (rep b k) := by
  by_cases h : k < (reps b).length
  · exact (mem_reps.mp (rep_mem h)).1
  · unfold rep; rw [List.getD_eq_getElem?_getD, List.getElem?_eq_none (by omega)]; exact part_nil b
theorem rep_num {b : List W} {w : W} (hw : Part b w) : places b (rep b (num b w)) = places b w := by rw [rep_get (num_lt hw)]; exact places_num hw
theorem num_rep {b : List W} {k : Nat} (h : k < (reps b).length) : num b (rep b k) = k := by
  have h1 := num_lt (rep_part b k)
  have h2 := rep_num (rep_part b k)
  have h3 := rep_eq (rep_mem h1) (rep_mem h) h2
  exact (List.getElem_inj (reps_nodup b)).mp ((rep_get h1).symm.trans (h3.trans (rep_get h)))
theorem rep_zero (b : List W) : rep b 0 = [] := by obtain ⟨r, h⟩ := reps_cons b; unfold rep; rw [h]; rfl
theorem num_nil (b : List W) : num b [] = 0 := by have := num_rep (reps_pos b); rwa [rep_zero] at this
theorem num_zero {b : List W} {w : W} (hw : Part b w) (h : num b w = 0) : w = [] := by
  rw [← num_nil b] at h
  exact places_eq_nil hw (num_inj hw (part_nil b) h)
theorem rep_suf {b : List W} {w : W} (hw : Part b w) : rep b (num b w) <:+ w :=
  suf_of_eq (rep_part b _) (rep_num hw) (rep_le (rep_mem (num_lt hw)) hw (rep_num hw))
theorem rep_nil_iff {b : List W} {k : Nat} (h : k < (reps b).length) : rep b k = [] ↔ k = 0 := by
  constructor
  · intro h1; rw [← num_rep h, h1, num_nil]
  · rintro rfl; exact rep_zero b
/-! ### the words of a stand -/
theorem self_cls {b : List W} {w : W} (hw : Part b w) : w ∈ cls b w := mem_cls.mpr ⟨hw, rfl⟩
/-- the longest word of a stand -/
def lng (b : List W) (u : W) : W := (cls b u).getLastD []
theorem cls_ne {b : List W} {w : W} (hw : Part b w) : cls b w ≠ [] := List.ne_nil_of_mem (self_cls hw)
theorem lng_mem {b : List W} {w : W} (hw : Part b w) : lng b w ∈ cls b w := by
  unfold lng
  rw [List.getLastD_eq_getLast?, List.getLast?_eq_some_getLast (cls_ne hw)]
  exact List.getLast_mem (cls_ne hw)
theorem pairwise_last {α : Type} {R : α → α → Prop} {xs : List α} (h : xs.Pairwise R) (hr : ∀ x, R x x) (h0 : xs ≠ []) : ∀ x ∈ xs, R x (xs.getLast h0) := by
  intro x hx
  obtain ⟨i, hi, rfl⟩ := List.mem_iff_getElem.mp hx
  rw [List.getLast_eq_getElem]
  by_cases h1 : i = xs.length - 1
  · subst h1; exact hr _
  · exact List.pairwise_iff_getElem.mp h i (xs.length - 1) hi (by omega) (by omega)
theorem leS_refl (w : W) : leS w w = true := by have := leS_total w w; simpa using this
theorem lng_max {b : List W} {u w : W} (hw : w ∈ cls b u) : w.length ≤ (lng b u).length := by
  have h0 : cls b u ≠ [] := List.ne_nil_of_mem hw
  have := pairwise_last (cls_sorted b u) leS_refl h0 w hw
  unfold lng
  rw [List.getLastD_eq_getLast?, List.getLast?_eq_some_getLast h0]
  exact leS_len this
theorem lng_congr {b : List W} {u v : W} (h : places b u = places b v) : lng b u = lng b v := by unfold lng; rw [cls_congr h]
theorem places_lng {b : List W} {w : W} (hw : Part b w) : places b (lng b w) = places b w := (mem_cls.mp (lng_mem hw)).2
theorem part_lng {b : List W} {w : W} (hw : Part b w) : Part b (lng b w) := (mem_cls.mp (lng_mem hw)).1
theorem num_lng {b : List W} {w : W} (hw : Part b w) : num b (lng b w) = num b w := num_congr (places_lng hw)
theorem suf_lng {b : List W} {w : W} (hw : Part b w) : w <:+ lng b w := suf_of_eq hw (places_lng hw).symm (lng_max (self_cls hw))
theorem lng_nil (b : List W) : lng b [] = [] := places_eq_nil (part_lng (part_nil b)) (places_lng (part_nil b))
/-- the tails of the longest word, as long as the shortest at least, are the stand's words -/
theorem cls_iff {b : List W} {u w : W} (hu : Part b u) : w ∈ cls b u ↔ w <:+ lng b u ∧ (rep b (num b u)).length ≤ w.length := by
  rw [mem_cls]
  constructor
  · rintro ⟨h1, h2⟩
    refine ⟨by rw [← lng_congr h2]; exact suf_lng h1, ?_⟩
    have := rep_suf h1
    rw [num_congr h2] at this
    exact this.length_le
  · rintro ⟨h1, h2⟩
    refine ⟨part_suf h1 (part_lng hu), ?_⟩
    have h3 := (rep_suf hu).trans (suf_lng hu)
    have h4 := List.suffix_of_suffix_length_le h3 h1 h2
    have h5 : places b (rep b (num b u)) = places b (lng b u) := (rep_num hu).trans (places_lng hu).symm
    rw [mid_eq h4 h1 h5, places_lng hu]
theorem suf_drop {w v : W} : w <:+ v ↔ ∃ k, k ≤ v.length ∧ w = v.drop k := by
  constructor
  · intro h
    exact ⟨v.length - w.length, by omega, List.suffix_iff_eq_drop.mp h⟩
  · rintro ⟨k, _, rfl⟩; exact List.drop_suffix _ _
/-- the stand's words, written out -/
theorem cls_eq {b : List W} {u : W} (hu : Part b u) :
    cls b u = (List.range ((lng b u).length + 1 - (rep b (num b u)).length)).map fun i => (lng b u).drop ((lng b u).length - ((rep b (num b u)).length + i)) := by
  have hl : (rep b (num b u)).length ≤ (lng b u).length := ((rep_suf hu).trans (suf_lng hu)).length_le
  refine sorted_unique leS leS_anti (cls_sorted b u) ?_ ((List.perm_ext_iff_of_nodup (cls_nodup b u) ?_).mpr fun w => ?_)
  · rw [List.pairwise_map]
    refine List.Pairwise.imp_of_mem (fun {i j} hi hj h => leS_lt ?_) List.pairwise_lt_range
    rw [List.mem_range] at hi hj
    simp only [List.length_drop]; omega
  · unfold List.Nodup
    rw [List.pairwise_map]
    refine List.Pairwise.imp_of_mem (fun {i j} hi hj h z => ?_) List.pairwise_lt_range
    rw [List.mem_range] at hi hj
    have := congrArg List.length z
    simp only [List.length_drop] at this; omega
  · rw [cls_iff hu, List.mem_map]
    constructor
    · rintro ⟨h1, h2⟩
      have h3 := h1.length_le
      refine ⟨w.length - (rep b (num b u)).length, by rw [List.mem_range]; omega, ?_⟩
      rw [show (rep b (num b u)).length + (w.length - (rep b (num b u)).length) = w.length by omega]
      exact (List.suffix_iff_eq_drop.mp h1).symm
    · rintro ⟨i, hi, rfl⟩
      rw [List.mem_range] at hi
      exact ⟨List.drop_suffix _ _, by rw [List.length_drop]; omega⟩
theorem cls_head {b : List W} {u : W} (hu : Part b u) : (cls b u).head? = some (rep b (num b u)) := by
  have hl : (rep b (num b u)).length ≤ (lng b u).length := ((rep_suf hu).trans (suf_lng hu)).length_le
  rw [cls_eq hu, show (lng b u).length + 1 - (rep b (num b u)).length = ((lng b u).length - (rep b (num b u)).length) + 1 by omega, List.range_succ_eq_map]
  simp only [List.map_cons, List.head?_cons, Nat.add_zero]
  exact congrArg some (List.suffix_iff_eq_drop.mp ((rep_suf hu).trans (suf_lng hu))).symm
theorem cls_last {b : List W} {u : W} (hu : Part b u) : (cls b u).getLast? = some (lng b u) := by
  unfold lng
  rw [List.getLastD_eq_getLast?, List.getLast?_eq_some_getLast (cls_ne hu)]
  rfl
/-! ### the table -/
abbrev Row := Nat × Nat × Option Nat × List (Nat × Nat)
def AZ : W := [97, 98, 99, 100, 101, 102, 103, 104, 105, 106, 107, 108, 109, 110, 111, 112, 113, 114, 115, 116, 117, 118, 119, 120, 121, 122]
theorem mem_AZ {c : Nat} : c ∈ AZ ↔ isSg c := by
  unfold isSg AZ
  constructor
  · intro h; simp at h; omega
  · intro h; simp; omega
theorem AZ_sorted : AZ.Pairwise (· < ·) := by decide
/-- the signs by which a word goes on, and where to -/
def ways (b : List W) (w : W) : List (Nat × Nat) := (AZ.filter fun c => decide (Part b (w ++ [c]))).map fun c => (c, num b (w ++ [c]))
def row (b : List W) (u : W) : Row := (u.length, (lng b u).length, if u = [] then none else some (num b u.tail), ways b u)
def tab (b : List W) : List Row := (reps b).map (row b)
@[simp] theorem tab_len (b : List W) : (tab b).length = (reps b).length := List.length_map _
theorem tab_get {b : List W} {k : Nat} (h : k < (reps b).length) : (tab b)[k]? = some (row b (rep b k)) := by
  unfold tab; rw [List.getElem?_map, List.getElem?_eq_getElem h, rep_get h]; rfl
theorem ways_congr {b : List W} {v w : W} (h : places b v = places b w) : ways b v = ways b w := by
  unfold ways
  have : (fun c => decide (Part b (v ++ [c]))) = fun c => decide (Part b (w ++ [c])) := by
    funext c; exact decide_eq_decide.mpr (part_snoc_cong h c)
  rw [this]
  apply List.map_congr_left
  intro c _
  rw [num_congr (snoc_cong h c)]
theorem mem_ways {b : List W} {w : W} {c n : Nat} : (c, n) ∈ ways b w ↔ isSg c ∧ Part b (w ++ [c]) ∧ n = num b (w ++ [c]) := by
  unfold ways
  simp only [List.mem_map, List.mem_filter, mem_AZ, decide_eq_true_eq, Prod.mk.injEq]
  constructor
  · rintro ⟨c', ⟨h1, h2⟩, rfl, rfl⟩; exact ⟨h1, h2, rfl⟩
  · rintro ⟨h1, h2, rfl⟩; exact ⟨c, ⟨h1, h2⟩, rfl, rfl⟩
end Al.B
/-! B14: dicts of lists; walks over keys; sorting by a def. -/
namespace Al.B
/-! ### keys that are walked -/
def keyO (o : Option (D × Kd)) (ρ : Env) : Option OutL := match o with
  | some (.dic _ kvs, .st) => if kvs.all (fun p => flat p.1) then some (.ok (kvs.map fun p => (p.1, .st)) ρ) else none
  | _ => none
@[simp] theorem i_keys (Z : Far) (c : Bool) (i : Nat) (ρ : Env) : denI Z c (.keys i) ρ = keyO (look ρ i) ρ := by
  simp only [denI]
  unfold keyO
  rfl
@[simp] theorem effi_keys (i : Nat) : (It.keys i).eff = false := id rfl
/-! ### dicts of lists -/
section
variable {α β : Type} [DecidableEq α]
def dkeys (kvs : List (α × β)) : List α := kvs.map (·.1)
def dwith (kvs : List (α × List β)) (k : α) : List (α × List β) := if (dget kvs k).isSome then kvs else kvs ++ [(k, [])]
def dgetL (kvs : List (α × List β)) (k : α) : List β := (dget kvs k).getD []
/-- one thing more in the list at a key -/
def dapp (kvs : List (α × List β)) (k : α) (v : β) : List (α × List β) := dput (dwith kvs k) k (dgetL kvs k ++ [v])
def daps (kvs : List (α × List β)) (es : List (α × β)) : List (α × List β) := es.foldl (fun k e => dapp k e.1 e.2) kvs
def eDL (ek : α → D) (eb : β → D) (kvs : List (α × List β)) : List (D × D) := kvs.map fun p => (ek p.1, .lst (p.2.map eb))
theorem dget_some_iff {kvs : List (α × β)} {k : α} : (dget kvs k).isSome = true ↔ k ∈ dkeys kvs := by
  unfold dget dkeys
  rw [Option.isSome_map, List.find?_isSome, List.mem_map]
  simp only [decide_eq_true_eq]
theorem dget_none {kvs : List (α × β)} {k : α} (h : k ∉ dkeys kvs) : dget kvs k = none := by
  cases e : dget kvs k with
  | none => rfl
  | some v => exact absurd (dget_some_iff.mp (by rw [e]; rfl)) h
theorem dget_cons (p : α × β) (r : List (α × β)) (k : α) : dget (p :: r) k = if p.1 = k then some p.2 else dget r k := by
  unfold dget
  rw [List.find?_cons]
  by_cases h : p.1 = k <;> simp [h]
theorem dput_keys (kvs : List (α × β)) (k : α) (v : β) : dkeys (dput kvs k v) = addK (dkeys kvs) k := by
  unfold dput addK dkeys
  have e : (kvs.any fun p => decide (p.1 = k)) = decide (k ∈ kvs.map (·.1)) := by
    rw [Bool.eq_iff_iff]
    simp only [List.any_eq_true, decide_eq_true_eq, List.mem_map]
  rw [e]
  by_cases h : k ∈ kvs.map (·.1)
  · rw [if_pos (by simpa using h), if_pos h, List.map_map]
    apply List.map_congr_left
    intro p _
    simp only [Function.comp]
    split <;> rfl
  · rw [if_neg (by simpa using h), if_neg h]
    simp
theorem dput_get (kvs : List (α × β)) (k : α) (v : β) (x : α) : dget (dput kvs k v) x = if x = k then some v else dget kvs x := by
  unfold dput
  by_cases h : (kvs.any fun p => decide (p.1 = k)) = true
  · rw [if_pos h]
    simp only [List.any_eq_true, decide_eq_true_eq] at h
    induction kvs with
    | nil => obtain ⟨p, hp, _⟩ := h; cases hp
    | cons p r ih =>
      rw [List.map_cons, dget_cons, dget_cons]
      by_cases hp : p.1 = k
      · rw [if_pos hp]
        by_cases hx : x = k
        · subst hx; simp [hp]
        · have : ¬ k = x := fun z => hx z.symm
          simp only [hp, this, if_false, hx]
          by_cases hr : ∃ q ∈ r, q.1 = k
          · rw [ih hr, if_neg hx]
          · have : r.map (fun p => if p.1 = k then (p.1, v) else p) = r := by
              rw [show r = r.map id by simp, List.map_map]
              apply List.map_congr_left
              intro q hq
              simp only [Function.comp, id]
              rw [if_neg fun z => hr ⟨q, hq, z⟩]
            rw [this]
      · rw [if_neg hp]
        by_cases hpx : p.1 = x
        · have : ¬ x = k := fun z => hp (hpx.trans z)
          simp [hpx, this]
        · simp only [hpx, if_false]
          refine ih ?_
          obtain ⟨q, hq, hqk⟩ := h
          rcases List.mem_cons.mp hq with rfl | hq
          · exact absurd hqk hp
          · exact ⟨q, hq, hqk⟩
  · rw [if_neg h]
    have hn : k ∉ dkeys kvs := by
      unfold dkeys
      intro z
      apply h
      simpa [List.any_eq_true] using z
    by_cases hx : x = k
    · subst hx
      rw [if_pos rfl]
      unfold dget
      rw [List.find?_append]
      have : kvs.find? (fun p => decide (p.1 = x)) = none := by
        have := dget_none hn
        unfold dget at this
        cases e : kvs.find? (fun p => decide (p.1 = x)) with
        | none => rfl
        | some q => rw [e] at this; cases this
      rw [this]
      simp
    · rw [if_neg hx]
      unfold dget
      rw [List.find?_append]
      cases kvs.find? (fun p => decide (p.1 = x)) with
      | some q => rfl
      | none =>
        have : ¬ k = x := fun z => hx z.symm
        simp [this]
theorem dwith_keys (kvs : List (α × List β)) (k : α) : dkeys (dwith kvs k) = addK (dkeys kvs) k := by
  unfold dwith addK
  by_cases h : k ∈ dkeys kvs
  · rw [if_pos (dget_some_iff.mpr h), if_pos h]
  · rw [if_neg (fun z => h (dget_some_iff.mp z)), if_neg h]
    simp [dkeys]
theorem dwith_get (kvs : List (α × List β)) (k : α) : dget (dwith kvs k) k = some (dgetL kvs k) := by
  unfold dwith dgetL
  cases e : dget kvs k with
  | some v => simp [e]
  | none =>
    have e' := e
    unfold dget at e'
    simp only [Option.map_eq_none_iff] at e'
    simp only [Option.isSome_none, Bool.false_eq_true, if_false]
    unfold dget
    rw [List.find?_append, e']
    simp
theorem addK_idem (ks : List α) (k : α) : addK (addK ks k) k = addK ks k := by
  have : k ∈ addK ks k := mem_addK.mpr (.inr rfl)
  rw [show addK (addK ks k) k = if k ∈ addK ks k then addK ks k else addK ks k ++ [k] from rfl, if_pos this]
theorem dapp_keys (kvs : List (α × List β)) (k : α) (v : β) : dkeys (dapp kvs k v) = addK (dkeys kvs) k := by
  unfold dapp
  rw [dput_keys, dwith_keys, addK_idem]
theorem dapp_get (kvs : List (α × List β)) (k : α) (v : β) (x : α) : dgetL (dapp kvs k v) x = if x = k then dgetL kvs k ++ [v] else dgetL kvs x := by
  unfold dapp
  unfold dgetL
  rw [dput_get]
  by_cases h : x = k
  · rw [if_pos h, if_pos h]; rfl
  · rw [if_neg h, if_neg h]
    unfold dwith
    split
    · rfl
    · unfold dget
      rw [List.find?_append]
      cases kvs.find? (fun p => decide (p.1 = x)) with
      | some q => rfl
      | none =>
        have : ¬ k = x := fun z => h z.symm
        simp [this]
theorem daps_keys (es : List (α × β)) (kvs : List (α × List β)) : dkeys (daps kvs es) = addKs (dkeys kvs) (es.map (·.1)) := by
  unfold daps addKs
  induction es generalizing kvs with
  | nil => rfl
  | cons e r ih => rw [List.foldl_cons, ih, dapp_keys, List.map_cons, List.foldl_cons]
theorem daps_get (es : List (α × β)) (kvs : List (α × List β)) (x : α) : dgetL (daps kvs es) x = dgetL kvs x ++ (es.filter fun e => decide (e.1 = x)).map (·.2) := by
  unfold daps
  induction es generalizing kvs with
  | nil => simp
  | cons e r ih =>
    rw [List.foldl_cons, ih, dapp_get, List.filter_cons]
    by_cases h : e.1 = x
    · subst h; simp
    · have : ¬ x = e.1 := fun z => h z.symm
      simp [h, this]
/-- a dict is its keys, each with what stands there -/
theorem dict_eq {kvs : List (α × List β)} (h : (dkeys kvs).Nodup) : kvs = (dkeys kvs).map fun k => (k, dgetL kvs k) := by
  unfold dkeys at *
  rw [List.map_map]
  apply List.ext_getElem
  · simp
  · intro i h1 h2
    simp only [List.getElem_map, Function.comp]
    have : dget kvs kvs[i].1 = some kvs[i].2 := by
      unfold dget
      have : kvs.find? (fun p => decide (p.1 = kvs[i].1)) = some kvs[i] := by
        rw [List.find?_eq_some_iff_getElem]
        refine ⟨by simp, i, h1, rfl, fun j hj => ?_⟩
        simp only [Bool.not_eq_true', decide_eq_false_iff_not]
        intro z
        have hj1 : j < kvs.length := by omega
        have h3 : (kvs.map (·.1))[j]'(by simpa using hj1) = (kvs.map (·.1))[i]'(by simpa using h1) := by simpa using z
        have := (List.getElem_inj h).mp h3
        omega
      rw [this]
      rfl
    unfold dgetL
    rw [this]
    rfl
theorem daps_app (kvs : List (α × List β)) (a b : List (α × β)) : daps kvs (a ++ b) = daps (daps kvs a) b := List.foldl_append
theorem dkeys_len (kvs : List (α × β)) : (dkeys kvs).length = kvs.length := List.length_map _
theorem daps_len (kvs : List (α × List β)) (es : List (α × β)) : (daps kvs es).length ≤ kvs.length + es.length := by
  rw [← dkeys_len, daps_keys, ← dkeys_len kvs]
  have := addKs_len (es.map (·.1)) (dkeys kvs)
  simpa using this
theorem dgetL_len (kvs : List (α × List β)) (es : List (α × β)) (x : α) : (dgetL (daps kvs es) x).length ≤ (dgetL kvs x).length + es.length := by
  rw [daps_get]
  have := List.length_filter_le (fun e : α × β => decide (e.1 = x)) es
  simp
  omega
/-- setdefault, append -/
theorem sdApp_eq {ek : α → D} (hk : KE ek) (eb : β → D) (Z : Far) {r : Nat} {t : Bool} {kvs : List (α × List β)} {x : α} {v : β} {kk kv : Kd} {ρ ρ2 : Env} {k e : E} (hke : k.eff = false) (hee : e.eff = false)
    (h0 : look ρ r = some (.dic t (eDL ek eb kvs), .fr)) (h1 : denE Z k ρ = some (.ok (ek x) kk ρ)) (h2 : denE Z e (killBo (ρ.set r (some (.dic t (eDL ek eb (dwith kvs x)), .fr)))) = some (.ok (eb v) kv ρ2))
    (h3 : keyOk t (ek x) = true) (h4 : flat (eb v) = true) (h5 : kvs.length < 16777216) (h6 : (dgetL kvs x).length < 16777216) :
    denS Z (.sdApp (.var r) k e) ρ = some (.nx (killBo (ρ2.set r (some (.dic t (eDL ek eb (dapp kvs x v)), .fr))))) := by
  have hw : withK (eDL ek eb kvs) (ek x) = eDL ek eb (dwith kvs x) := by
    unfold withK eDL dwith
    rw [getK_enc hk (fun p : List β => D.lst (p.map eb)) kvs x, Option.isSome_map]
    split <;> simp
  have hg : getK (eDL ek eb (dwith kvs x)) (ek x) = some (.lst ((dgetL kvs x).map eb)) := by
    unfold eDL
    rw [getK_enc hk (fun p : List β => D.lst (p.map eb)), dwith_get]
    rfl
  have hp : putK (eDL ek eb (dwith kvs x)) (ek x) (.lst ((dgetL kvs x).map eb ++ [eb v])) = eDL ek eb (dapp kvs x v) := by
    have := putK_enc hk (fun p : List β => D.lst (p.map eb)) (dwith kvs x) x (dgetL kvs x ++ [v])
    simp only [List.map_append, List.map_cons, List.map_nil] at this
    exact this
  have hl : (eDL ek eb kvs).length < LINE := by unfold eDL; rw [List.length_map]; exact h5
  have hl2 : ((dgetL kvs x).map eb).length < LINE := by rw [List.length_map]; exact h6
  simp only [denS, hke, hee, Bool.or_self, Bool.false_eq_true, if_false, h0, h1, bndS_ok, h3, hl, decide_true, Bool.and_self, if_true, hw, h2, h4]
  unfold sdPut
  simp only [hg, hl2, if_true, hp]
end
end Al.B
/-! B14b: all parts with their places, as the laws make them. -/
namespace Al.B
def sW (w : W) : D := .str w
def eWP (kvs : List (W × List Pl)) : List (D × D) := eDL sW eP kvs
theorem ke_sW : KE sW := ke_str
/-- the starts at an end -/
def evE (t : W) (n e : Nat) : List (W × Pl) := (List.range (e + 1)).map fun s => ((t.take e).drop s, (n, e))
def evT (t : W) (n : Nat) : List (W × Pl) := (List.range (t.length + 1)).flatMap (evE t n)
theorem evs_eq (b : List W) : evs b = b.zipIdx.flatMap fun p => evT p.1 p.2 := rfl
/-- the dict of all parts -/
def foundD (b : List W) : List (W × List Pl) := daps [([], [])] (evs b)
theorem evE_len (t : W) (n e : Nat) : (evE t n e).length = e + 1 := by simp [evE]
theorem flatMap_len_le {α β : Type} (f : α → List β) (c : Nat) : ∀ (xs : List α), (∀ x ∈ xs, (f x).length ≤ c) → (xs.flatMap f).length ≤ xs.length * c
  | [], _ => by simp
  | x :: r, h => by
    rw [List.flatMap_cons, List.length_append, List.length_cons, Nat.add_mul]
    have := h x List.mem_cons_self
    have := flatMap_len_le f c r fun y hy => h y (List.mem_cons_of_mem _ hy)
    omega
/-- a loop that puts things into a dict of lists -/
theorem loopF_daps {α β γ : Type} [DecidableEq α] {body : Env → Option Fl} {tg : Tg} {ks : List Nat} (enc : List (α × List β) → Env) (it : γ → D × Kd) (g : γ → List (α × β)) (c : Nat) (xs : List γ) (s : List (α × List β)) {ρ : Env} (hk : kill ρ ks = enc s) (hc : ∀ b ∈ xs, (g b).length ≤ c)
    (m : Nat) (hm : ∀ k, (dgetL s k).length ≤ m)
    (h : ∀ b ∈ xs, ∀ s' : List (α × List β), s'.length ≤ s.length + xs.length * c → (∀ k, (dgetL s' k).length ≤ m + xs.length * c) → turn body tg ks (it b) (enc s') = some (.inr (enc (daps s' (g b))))) (hk' : ∀ s, kill (enc s) ks = enc s := by intro _; rfl) :
    loopF body tg ks (xs.map it) ρ = some (.nx (enc (daps s (xs.flatMap g)))) := by
  have := (loopF_fold (body := body) (tg := tg) (ks := ks) (fun i (s' : List (α × List β)) => s'.length ≤ s.length + i * c ∧ ∀ k, (dgetL s' k).length ≤ m + i * c) enc it (fun s b => daps s (g b)) xs s hk (by simpa using hm) fun i s' b hb hp => by
    have hmem := List.mem_of_getElem? hb
    obtain ⟨hi, _⟩ := List.getElem?_eq_some_iff.mp hb
    have h2 : i * c ≤ xs.length * c := Nat.mul_le_mul_right c (by omega)
    have h3 := hc b hmem
    have h4 := daps_len s' (g b)
    refine ⟨h b hmem s' (by omega) fun k => by have := hp.2 k; omega, ⟨by simp [Nat.add_mul]; omega, fun k => ?_⟩, hk' _⟩
    have h5 := dgetL_len s' (g b) k
    have h6 := hp.2 k
    simp only [Nat.add_mul]
    omega).1
  rw [this]
  congr 3
  have : ∀ (xs : List γ) (s : List (α × List β)), xs.foldl (fun s b => daps s (g b)) s = daps s (xs.flatMap g) := by
    intro xs
    induction xs with
    | nil => intro s; rfl
    | cons b r ih => intro s; rw [List.foldl_cons, ih, List.flatMap_cons, daps_app]
  exact this xs s
def plE (b : List W) (n t e i : Option (D × Kd)) (s : List (W × List Pl)) : Env := [some (.lst (b.map .str), .st), some (.dic false (eWP s), .fr), n, t, e, i]
theorem run_l_places (Z : Far) (b : List W) (hb : ∀ t ∈ b, t.length ≤ 120) (hl : b.length ≤ 8) :
    run Z f_l_places [.lst (b.map .str)] = some (.ok (.dic false (eWP (foundD b))) .fr []) := by
  unfold f_l_places
  simp
  have h := loopF_daps (body := denSs Z f_l_places_b3) (tg := .tp [2, 3]) (ks := [2, 3, 4, 5]) (plE b none none none none) (fun p : W × Nat => ((.tup [.int (p.2 : Nat), .str p.1], .st) : D × Kd)) (fun p => evT p.1 p.2) 14641 b.zipIdx [([], [])] (ρ := plE b none none none none [([], [])]) rfl (fun p hp => ?_) 0 (fun k => ?_) (fun ⟨t, n⟩ hp s hs hm => ?_)
  · rw [← evs_eq] at h
    unfold plE at h
    rw [show (some (D.dic false [(D.str [], D.lst [])], Kd.fr)) = some (D.dic false (eWP [([], [])]), Kd.fr) from rfl, h]
    simp [f_l_places_r4]
    rfl
  · have h1 := hb _ (List.fst_mem_of_mem_zipIdx hp)
    have := flatMap_len_le (evE p.1 p.2) 121 (List.range (p.1.length + 1)) fun e he => by
      rw [evE_len]; rw [List.mem_range] at he; omega
    rw [List.length_range] at this
    have h2 : (p.1.length + 1) * 121 ≤ 14641 := by omega
    unfold evT
    omega
  · unfold dgetL; rw [dget_cons]; split <;> simp [dget]
  · have ht := hb _ (List.fst_mem_of_mem_zipIdx hp)
    have hz0 : b.zipIdx.length ≤ 8 := by simpa using hl
    have hz : b.zipIdx.length * 14641 ≤ 117128 := by omega
    have hs1 : s.length ≤ 117129 := by simp only [List.length_cons, List.length_nil] at hs; omega
    have hm1 : ∀ k, (dgetL s k).length ≤ 117128 := fun k => by have := hm k; omega
    have hL : t.length < 16777216 := by simp only at ht; omega
    simp only at ht
    simp [f_l_places_b3, plE, hL]
    rw [loopF_daps (body := denSs Z f_l_places_b2) (tg := .nm 4) (ks := [4, 5]) (plE b (some (.int n, .st)) (some (.str t, .st)) none none) (fun e : Nat => ((.int (e : Nat), .st) : D × Kd)) (evE t n) 121 (List.range (t.length + 1)) s rfl (fun e he => ?_) 117128 hm1 (fun e he s2 hs2 hm2 => ?_)]
    · rfl
    · rw [evE_len]; rw [List.mem_range] at he; omega
    · rw [List.mem_range] at he
      rw [List.length_range] at hs2 hm2
      have hs3 : s2.length ≤ 131770 := by omega
      have hm3 : ∀ k, (dgetL s2 k).length ≤ 131769 := fun k => by have := hm2 k; omega
      have hL2 : e < 16777216 := by omega
      simp [f_l_places_b2, plE, hL2]
      rw [loopF_daps (body := denSs Z f_l_places_b1) (tg := .nm 5) (ks := [5]) (plE b (some (.int n, .st)) (some (.str t, .st)) (some (.int e, .st)) none) (fun s : Nat => ((.int (s : Nat), .st) : D × Kd)) (fun i => [((t.take e).drop i, (n, e))]) 1 (List.range (e + 1)) s2 rfl (fun _ _ => by simp) 131769 hm3 (fun i hi s3 hs4 hm4 => ?_)]
      · have : (List.range (e + 1)).flatMap (fun i => [((t.take e).drop i, (n, e))]) = evE t n e := flatMap_one _ _
        rw [this]
        rfl
      · rw [List.mem_range] at hi
        rw [List.length_range] at hs4 hm4
        have hx : (dgetL s3 ((t.take e).drop i)).length < 16777216 := by have := hm4 ((t.take e).drop i); omega
        have hy : s3.length < 16777216 := by omega
        have hcut := cutL_gen t i e
        simp [f_l_places_b1, plE]
        rw [show eWP s3 = eDL sW eP s3 from rfl]
        rw [sdApp_eq ke_sW eP Z (x := (t.take e).drop i) (v := (n, e)) (kk := .st) (kv := .st) rfl rfl rfl (by simp [hcut, sW]) (by simp [eP]; rfl) rfl rfl hy hx]
        rfl
end Al.B
/-! B14c: the stands, as the laws make them. -/
namespace Al.B
/-! ### the dict of all parts, by what it is -/
def ltP (a b : Pl) : Prop := a.1 < b.1 ∨ a.1 = b.1 ∧ a.2 < b.2
theorem evs_pair (b : List W) : (evs b).Pairwise fun x y => x.1 = y.1 → ltP x.2 y.2 := by
  have e : evs b = (List.range b.length).flatMap fun n => evT (b.getD n []) n := by
    rw [evs_eq]
    have := flatMap_zipIdx ([] : W) evT b 0
    simpa using this
  rw [e, List.pairwise_flatMap]
  constructor
  · intro n _
    unfold evT
    rw [List.pairwise_flatMap]
    constructor
    · intro e he
      unfold evE
      rw [List.pairwise_map]
      rw [List.mem_range] at he
      refine List.Pairwise.imp_of_mem (fun {i j} hi hj h z => ?_) List.pairwise_lt_range
      rw [List.mem_range] at hi hj
      have := congrArg List.length z
      simp only [List.length_drop, List.length_take] at this
      omega
    · exact List.pairwise_lt_range.imp fun {i j} h x hx y hy _ => by
        obtain ⟨s, _, rfl⟩ := List.mem_map.mp hx
        obtain ⟨s', _, rfl⟩ := List.mem_map.mp hy
        exact .inr ⟨rfl, h⟩
  · exact List.pairwise_lt_range.imp fun {i j} h x hx y hy _ => by
      obtain ⟨e, _, hx⟩ := List.mem_flatMap.mp hx
      obtain ⟨e', _, hy⟩ := List.mem_flatMap.mp hy
      obtain ⟨s, _, rfl⟩ := List.mem_map.mp hx
      obtain ⟨s', _, rfl⟩ := List.mem_map.mp hy
      exact .inl h
theorem evs_filter (b : List W) (w : W) : ((evs b).filter fun e => decide (e.1 = w)).map (·.2) = places b w := by
  have hp : (((evs b).filter fun e => decide (e.1 = w)).map (·.2)).Pairwise ltP := by
    rw [List.pairwise_map]
    refine List.Pairwise.imp_of_mem (fun {x y} hx hy h => h ?_) ((evs_pair b).filter _)
    have h1 := of_decide_eq_true (List.mem_filter.mp hx).2
    have h2 := of_decide_eq_true (List.mem_filter.mp hy).2
    rw [h1, h2]
  refine sorted_unique leP leP_anti (hp.imp fun {p q} h => ?_) (places_sorted b w) ((List.perm_ext_iff_of_nodup (hp.imp fun {p q} h z => ?_) (places_nodup b w)).mpr fun p => ?_)
  · unfold leP; unfold ltP at h; rw [decide_eq_true_eq]; omega
  · subst z; unfold ltP at h; omega
  · rw [← mem_evs]
    simp only [List.mem_map, List.mem_filter, decide_eq_true_eq]
    constructor
    · rintro ⟨⟨v, q⟩, ⟨h1, rfl⟩, rfl⟩; exact h1
    · intro h; exact ⟨(w, p), ⟨h, rfl⟩, rfl⟩
theorem found_get (b : List W) (w : W) : dgetL (foundD b) w = places b w := by
  unfold foundD
  rw [daps_get, evs_filter]
  unfold dgetL
  rw [dget_cons]
  split <;> simp [dget]
theorem found_keys (b : List W) : dkeys (foundD b) = addKs [[]] ((evs b).map (·.1)) := daps_keys _ _
theorem found_nodup (b : List W) : (dkeys (foundD b)).Nodup := by rw [found_keys]; exact nodup_addKs (by simp)
theorem mem_found {b : List W} {w : W} : w ∈ dkeys (foundD b) ↔ Part b w := by
  rw [← mem_allW]
  unfold allW
  rw [(List.mergeSort_perm _ leS).mem_iff, found_keys]
theorem found_sorted (b : List W) : (dkeys (foundD b)).mergeSort leS = allW b := by rw [found_keys]; rfl
theorem found_dget {b : List W} {w : W} (h : Part b w) : dget (foundD b) w = some (places b w) := by
  have h1 := dget_some_iff.mpr (mem_found.mpr h)
  obtain ⟨v, hv⟩ := Option.isSome_iff_exists.mp h1
  rw [hv, ← found_get]
  unfold dgetL
  rw [hv]
  rfl
theorem eDL_getK {α β : Type} [DecidableEq α] {ek : α → D} (hk : KE ek) (eb : β → D) {kvs : List (α × List β)} {x : α} : getK (eDL ek eb kvs) (ek x) = (dget kvs x).map fun p => .lst (p.map eb) := getK_enc hk (fun p : List β => D.lst (p.map eb)) kvs x
theorem found_getK {b : List W} {w : W} (h : Part b w) : getK (eWP (foundD b)) (.str w) = some (.lst ((places b w).map eP)) := by
  have := eDL_getK ke_sW eP (kvs := foundD b) (x := w)
  rw [found_dget h] at this
  exact this
theorem eDL_keys {α β : Type} (ek : α → D) (eb : β → D) (kvs : List (α × List β)) : (eDL ek eb kvs).map (·.1) = (dkeys kvs).map ek := by
  unfold eDL dkeys
  rw [List.map_map, List.map_map]
  rfl
/-! ### sorted by length, then in order -/
def eLW (w : W) : D := .tup [.int w.length, .str w]
theorem leD_LW (v w : W) : leD (eLW v) (eLW w) = leS v w := by
  have e : cmpD (eLW w) (eLW v) = (match cmpN 7 (.int (w.length : Nat)) (.int (v.length : Nat)) with
    | .eq => (match cmpN 7 (.str w) (.str v) with
      | .eq => .eq
      | o => o)
    | o => o) := rfl
  have cI : cmpN 7 (.int (w.length : Nat)) (.int (v.length : Nat)) = if (w.length : Int) < v.length then .lt else if (v.length : Int) < w.length then .gt else .eq := rfl
  have cS : cmpN 7 (.str w) (.str v) = cmpW w v := rfl
  unfold leD leS leW
  rw [e, cI, cS]
  by_cases h1 : v.length < w.length
  · rw [if_neg (by omega), if_pos (by omega)]
    simp [h1]
  · by_cases h2 : w.length < v.length
    · rw [if_pos (by omega)]
      simp [h1, show ¬ v.length = w.length by omega]
    · rw [if_neg (by omega), if_neg (by omega)]
      have h3 : v.length = w.length := by omega
      simp [h3]
      cases cmpW w v <;> rfl
theorem sortable_LW (ws : List W) : sortable (ws.map eLW) = true := by
  unfold sortable
  simp only [Bool.and_eq_true, Bool.or_eq_true, List.all_eq_true]
  refine ⟨fun a ha b hb => ?_, .inl fun a ha => ?_⟩
  · obtain ⟨v, _, rfl⟩ := List.mem_map.mp ha
    obtain ⟨w, _, rfl⟩ := List.mem_map.mp hb
    rfl
  · obtain ⟨v, _, rfl⟩ := List.mem_map.mp ha
    rfl
theorem v_sortK (Z : Far) (ρ : Env) {f : Fn} (h : f.isMut = false) (e : E) : denE Z (.sortK f e) ρ = bnd (denE Z e ρ) fun d _ ρ1 => (sortKD (fun x => run Z f [x]) d).map fun y => .ok y .fr ρ1 := by
  simp only [denE, h, Bool.false_eq_true, if_false]
theorem keysBy_map {α : Type} (g : D → Option Res) (f k : α → D) (h : ∀ a, ∃ kd out, g (f a) = some (.ok (k a) kd out)) (hf : ∀ a, flat (k a) = true) : ∀ xs : List α, keysBy g (xs.map f) = some (xs.map k)
  | [] => rfl
  | x :: r => by
    obtain ⟨kd, out, e⟩ := h x
    rw [List.map_cons, keysBy, e]
    simp only [hf, if_true]
    rw [keysBy_map g f k h hf r]
    rfl
theorem zip_maps {α β γ : Type} (f : α → β) (g : α → γ) : ∀ xs : List α, (xs.map f).zip (xs.map g) = xs.map fun a => (f a, g a)
  | [] => rfl
  | x :: r => by simp [zip_maps f g r]
theorem sortKD_LW {g : D → Option Res} (h : ∀ w : W, ∃ kd out, g (.str w) = some (.ok (eLW w) kd out)) {d : D} {ws : List W} (hd : keysOf d = some (ws.map .str)) (hl : ws.length ≤ 16777216) : sortKD g d = some (.lst ((ws.mergeSort leS).map .str)) := by
  unfold sortKD
  have h1 : (ws.map D.str).all flat = true := by rw [List.all_map]; exact List.all_eq_true.mpr fun _ _ => rfl
  have h2 : (ws.map D.str).length ≤ LINE := by rw [List.length_map]; exact hl
  rw [hd]
  simp only [h1, h2, decide_true, Bool.and_self, if_true]
  rw [keysBy_map g D.str eLW h (fun _ => rfl)]
  simp only [sortable_LW, if_true]
  rw [zip_maps]
  have := List.map_mergeSort (r := leS) (s := fun p q : D × D => leD p.1 q.1) (f := fun w : W => (eLW w, D.str w)) (l := ws) (fun a _ b _ => (leD_LW a b).symm)
  rw [← this, List.map_map]
  rfl
@[simp] theorem run_by_size (Z : Far) (w : W) : run Z f_l_by_size [.str w] = some (.ok (eLW w) .st []) := by
  unfold f_l_by_size
  simp [eLW]
/-! ### grouped by places -/
def eK (ps : List Pl) : D := .tup (ps.map eP)
theorem ke_K : KE eK := fun a b => by
  have := eqL_map eP 4 a b
  show eqL (eqN 4) (a.map eP) (b.map eP) = _
  rw [this]
theorem keyOk_K (ps : List Pl) : keyOk true (eK ps) = true := by
  show (ps.map eP).all (keyN 3) = true
  rw [List.all_map]
  exact List.all_eq_true.mpr fun _ _ => rfl
def eGW (kvs : List (List Pl × List W)) : List (D × D) := eDL eK sW kvs
def groups (b : List W) (ws : List W) : List (List Pl × List W) := daps [] (ws.map fun w => (places b w, w))
theorem groups_get (b : List W) (ws : List W) (ps : List Pl) : dgetL (groups b ws) ps = ws.filter fun w => decide (places b w = ps) := by
  unfold groups
  rw [daps_get]
  have : dgetL ([] : List (List Pl × List W)) ps = [] := rfl
  rw [this, List.nil_append, List.filter_map, List.map_map]
  simp [Function.comp_def]
/-- the first ones of their kind -/
theorem addKs_first {α β : Type} [DecidableEq β] (f : α → β) (p : α → Bool) : ∀ (ws l : List α), (∀ (a c : List α) (x : α), ws = a ++ x :: c → (p x = true ↔ f x ∉ (l ++ a).map f)) → addKs ((l.filter p).map f) (ws.map f) = (l.filter p).map f ++ (ws.filter p).map f ∨ ¬ (∀ x ∈ l, f x ∈ (l.filter p).map f)
  | [], l, _ => .inl (by simp [addKs])
  | x :: r, l, h => by
    by_cases hl : ∀ y ∈ l, f y ∈ (l.filter p).map f
    · left
      have hx := h [] r x rfl
      rw [List.append_nil] at hx
      have hmem : ∀ z, z ∈ l.map f ↔ z ∈ (l.filter p).map f := fun z => by
        constructor
        · intro hz
          obtain ⟨y, hy, rfl⟩ := List.mem_map.mp hz
          exact hl y hy
        · intro hz
          obtain ⟨y, hy, rfl⟩ := List.mem_map.mp hz
          exact List.mem_map.mpr ⟨y, (List.mem_filter.mp hy).1, rfl⟩
      have ih := addKs_first f p r (l ++ [x]) fun a c y e => by
        have := h (x :: a) c y (by rw [e]; rfl)
        simpa using this
      rw [List.map_cons, show addKs ((l.filter p).map f) (f x :: r.map f) = addKs (addK ((l.filter p).map f) (f x)) (r.map f) from rfl]
      have hcov : ∀ y ∈ l ++ [x], f y ∈ ((l ++ [x]).filter p).map f := by
        intro y hy
        rw [List.filter_append, List.map_append, List.mem_append]
        rcases List.mem_append.mp hy with hy | hy
        · exact .inl (hl y hy)
        · rw [List.mem_singleton.mp hy]
          by_cases hpx : p x = true
          · right; simp [List.filter_cons, hpx]
          · left
            rw [hx, Classical.not_not, hmem] at hpx
            exact hpx
      rcases ih with ih | ih
      · by_cases hpx : p x = true
        · have hn : f x ∉ (l.filter p).map f := by rw [← hmem]; exact hx.mp hpx
          rw [show addK ((l.filter p).map f) (f x) = (l.filter p).map f ++ [f x] by unfold addK; rw [if_neg hn]]
          rw [List.filter_append, List.map_append] at ih
          simp only [List.filter_cons, hpx, if_true, List.filter_nil, List.map_cons, List.map_nil] at ih ⊢
          rw [ih]
          simp
        · have hn : f x ∈ (l.filter p).map f := by rw [hx, Classical.not_not, hmem] at hpx; exact hpx
          rw [show addK ((l.filter p).map f) (f x) = (l.filter p).map f by unfold addK; rw [if_pos hn]]
          rw [List.filter_append, List.map_append] at ih
          simp only [List.filter_cons, hpx, Bool.false_eq_true, if_false, List.filter_nil, List.map_nil, List.append_nil] at ih ⊢
          exact ih
      · exact absurd hcov ih
    · exact .inr hl
theorem groups_keys (b : List W) : dkeys (groups b (allW b)) = (reps b).map (places b) := by
  unfold groups
  rw [daps_keys]
  show addKs [] _ = _
  rw [List.map_map]
  have := addKs_first (places b) (isRep b) (allW b) [] ?_
  · rcases this with h | h
    · simpa [reps, Function.comp_def] using h
    · exact absurd (fun x hx => nomatch hx) h
  · intro a c x e
    rw [List.nil_append, isRep_iff]
    have hs := allW_sorted b
    have hn := allW_nodup b
    rw [e] at hs hn
    have hxp : Part b x := mem_allW.mp (by rw [e]; simp)
    have hle : ∀ v ∈ a, leS v x = true ∧ v ≠ x ∧ Part b v := fun v hv =>
      ⟨(List.pairwise_append.mp hs).2.2 v hv x List.mem_cons_self, (List.nodup_append.mp hn).2.2 v hv x List.mem_cons_self, mem_allW.mp (by rw [e]; simp [hv])⟩
    constructor
    · intro h hm
      obtain ⟨v, hv, hvx⟩ := List.mem_map.mp hm
      obtain ⟨h1, h2, h3⟩ := hle v hv
      have h4 := leS_len h1
      have h5 : v.length < x.length := by
        rcases Nat.lt_or_ge v.length x.length with q | q
        · exact q
        · exact absurd (eq_of_eq h3 hvx (by omega)) h2
      rcases h with rfl | h
      · simp at h5
      · apply h
        have h6 := suf_of_eq h3 hvx (by omega)
        have h7 : v <:+ x.tail := List.suffix_of_suffix_length_le h6 (List.tail_suffix x) (by rw [List.length_tail]; omega)
        exact mid_eq h7 (List.tail_suffix x) hvx
    · intro hm
      by_cases h0 : x = []
      · exact .inl h0
      · right
        intro z
        apply hm
        refine List.mem_map.mpr ⟨x.tail, ?_, z⟩
        have h1 : x.tail ∈ allW b := mem_allW.mpr (part_tail hxp)
        have h2 : x.tail.length < x.length := by
          rw [List.length_tail]
          have := List.length_pos_iff.mpr h0
          omega
        rw [e] at h1
        rcases List.mem_append.mp h1 with h1 | h1
        · exact h1
        · exfalso
          rcases List.mem_cons.mp h1 with h1 | h1
          · rw [h1] at h2; omega
          · have h3 := leS_len ((List.pairwise_cons.mp (List.pairwise_append.mp hs).2.1).1 _ h1)
            omega
theorem groups_nodup (b : List W) (ws : List W) : (dkeys (groups b ws)).Nodup := by unfold groups; rw [daps_keys]; exact nodup_addKs .nil
theorem groups_dget {b : List W} {u : W} (h : u ∈ reps b) : dget (groups b (allW b)) (places b u) = some (cls b u) := by
  have h1 : places b u ∈ dkeys (groups b (allW b)) := by rw [groups_keys]; exact List.mem_map.mpr ⟨u, h, rfl⟩
  obtain ⟨v, hv⟩ := Option.isSome_iff_exists.mp (dget_some_iff.mpr h1)
  have := groups_get b (allW b) (places b u)
  unfold dgetL at this
  rw [hv] at this
  rw [hv]
  exact congrArg some this
end Al.B
/-! B14d: stands, numbers and table, as the laws make them. -/
namespace Al.B
/-- how many parts there may be -/
theorem evs_len {b : List W} (hb : ∀ t ∈ b, t.length ≤ 120) (hl : b.length ≤ 8) : (evs b).length ≤ 117128 := by
  rw [evs_eq]
  have h1 := flatMap_len_le (fun p : W × Nat => evT p.1 p.2) 14641 b.zipIdx fun p hp => by
    have h1 := hb _ (List.fst_mem_of_mem_zipIdx hp)
    have := flatMap_len_le (evE p.1 p.2) 121 (List.range (p.1.length + 1)) fun e he => by
      rw [evE_len]; rw [List.mem_range] at he; omega
    rw [List.length_range] at this
    have h2 : (p.1.length + 1) * 121 ≤ 14641 := by omega
    unfold evT
    omega
  have h2 : b.zipIdx.length ≤ 8 := by simpa using hl
  omega
theorem allW_len {b : List W} (hb : ∀ t ∈ b, t.length ≤ 120) (hl : b.length ≤ 8) : (allW b).length ≤ 117129 := by
  have h1 := evs_len hb hl
  have h2 := addKs_len ((evs b).map (·.1)) [([] : W)]
  unfold allW
  rw [List.length_mergeSort]
  simp at h2
  omega
theorem reps_len {b : List W} (hb : ∀ t ∈ b, t.length ≤ 120) (hl : b.length ≤ 8) : (reps b).length ≤ 117129 := Nat.le_trans (List.length_filter_le _ _) (allW_len hb hl)
theorem cls_len {b : List W} (u : W) (hb : ∀ t ∈ b, t.length ≤ 120) (hl : b.length ≤ 8) : (cls b u).length ≤ 117129 := Nat.le_trans (List.length_filter_le _ _) (allW_len hb hl)
/-- lists of texts, one behind the other -/
def eS (ws : List W) : D := .lst (ws.map .str)
theorem jnA_st {α : Type} (f : α → D) (h : ∀ a, flatN 4 (f a) = false) : ∀ xs : List α, xs ≠ [] → jnA (xs.map fun a => (f a, Kd.st)) = .st
  | [], h0 => absurd rfl h0
  | [x], _ => by simp [h x]
  | x :: y :: r, _ => by
    have := jnA_st f h (y :: r) (by simp)
    rw [List.map_cons, jnA_cons, this, h x]
    rfl
theorem kdL_lsts {α : Type} (f : α → D) (h : ∀ a, flatN 4 (f a) = false) (k : Kd) : ∀ xs : List α, xs ≠ [] → kdL (xs.map f) k = k
  | [], h0 => absurd rfl h0
  | x :: r, _ => by
    rw [List.map_cons, kdL_cons, List.all_cons, h x]
    rfl
def stE (d : D) (w : Option (D × Kd)) (g : List (List Pl × List W)) : Env := [some (d, .st), some (.dic true (eGW g), .fr), w, none]
theorem groups_len (b : List W) (ws : List W) : (groups b ws).length ≤ ws.length := by
  have := daps_len ([] : List (List Pl × List W)) (ws.map fun w => (places b w, w))
  unfold groups
  simpa using this
theorem run_l_stands (Z : Far) (b : List W) (hb : ∀ t ∈ b, t.length ≤ 120) (hl : b.length ≤ 8) :
    run Z f_l_stands [.dic false (eWP (foundD b))] = some (.ok (.lst ((stands b).map eS)) .st []) := by
  have hA := allW_len hb hl
  have hks : keysOf (.dic false (eWP (foundD b))) = some ((dkeys (foundD b)).map .str) := by
    show some ((eWP (foundD b)).map (·.1)) = _
    unfold eWP
    rw [eDL_keys]
    rfl
  have hkl : (dkeys (foundD b)).length ≤ 16777216 := by
    have := congrArg List.length (found_sorted b)
    rw [List.length_mergeSort] at this
    omega
  have hs := sortKD_LW (g := fun x => run Z f_l_by_size [x]) (fun w => ⟨.st, [], run_by_size Z w⟩) hks hkl
  rw [found_sorted] at hs
  unfold f_l_stands
  simp [v_sortK, hs]
  have h := loopF_daps (body := denSs Z f_l_stands_b1) (tg := .nm 2) (ks := [2]) (stE (.dic false (eWP (foundD b))) none) (fun w : W => ((.str w, .st) : D × Kd)) (fun w => [(places b w, w)]) 1 (allW b) [] (ρ := stE (.dic false (eWP (foundD b))) none []) rfl (fun _ _ => by simp) 0 (fun k => by simp [dgetL, dget]) (fun w hw s hs hm => ?_)
  · rw [flatMap_one] at h
    unfold stE at h
    rw [show (some (D.dic true [], Kd.fr)) = some (D.dic true (eGW []), Kd.fr) from rfl, h]
    rw [show daps [] ((allW b).map fun w => (places b w, w)) = groups b (allW b) from rfl]
    have hflat : (eGW (groups b (allW b))).all (fun p => flat p.1) = true := by
      unfold eGW eDL
      rw [List.all_map, List.all_eq_true]
      intro p _
      show flatN 4 (.tup (p.1.map eP)) = true
      rw [flatN_tup]
      exact flt_all eP 3 p.1
    have hkeys : ((eGW (groups b (allW b))).map fun p => (p.1, Kd.st)) = (reps b).map fun u => (eK (places b u), Kd.st) := by
      have : ((eGW (groups b (allW b))).map fun p => (p.1, Kd.st)) = ((eGW (groups b (allW b))).map (·.1)).map fun k => (k, Kd.st) := by rw [List.map_map]; rfl
      rw [this]
      unfold eGW
      rw [eDL_keys, groups_keys, List.map_map, List.map_map]
      rfl
    simp [-flat_eq, f_l_stands_r3, keyO, hflat, hkeys]
    rw [lcF_map (g := fun u : W => (eS (cls b u), .st)) (fun u hu => ?_)]
    · have hne : reps b ≠ [] := List.length_pos_iff.mp (reps_pos b)
      have e1 := jnA_st (fun u : W => eS (cls b u)) (fun a => rfl) (reps b) hne
      have e2 := kdL_lsts (fun u : W => eS (cls b u)) (fun a => rfl) .st (reps b) hne
      simp [e1, e2, stands, Function.comp_def]
    · have hg : getK (eGW (groups b (allW b))) (eK (places b u)) = some (eS (cls b u)) := by
        unfold eGW
        rw [eDL_getK ke_K sW, groups_dget hu]
        rfl
      have hi : p_idx [(.dic true (eGW (groups b (allW b))), .st), (eK (places b u), .st)] = some (eS (cls b u), .st) := by
        show (if keyOk true (eK (places b u)) then (getK (eGW (groups b (allW b))) (eK (places b u))).map fun d => (d, kd d (jn .st .st)) else none) = _
        rw [keyOk_K, hg]
        rfl
      have hfk : flatN 4 (eK (places b u)) = true := by
        show flatN 4 (.tup ((places b u).map eP)) = true
        rw [flatN_tup]
        exact flt_all eP 3 _
      have hkd : ∀ k, kd (eK (places b u)) k = .st := fun k => by unfold kd; rw [flat_eq, hfk]; rfl
      simp [f_l_stands_e2, lcI_nm, hkd, hi]
  · have hs1 : s.length < 16777216 := by simp at hs; omega
    have hm1 : (dgetL s (places b w)).length < 16777216 := by have := hm (places b w); omega
    have hw' := mem_allW.mp hw
    have hi : p_idx [(.dic false (eWP (foundD b)), .st), (.str w, .st)] = some (.lst ((places b w).map eP), .st) := by
      show (if keyOk false (.str w) then (getK (eWP (foundD b)) (.str w)).map fun d => (d, kd d (jn .st .st)) else none) = _
      rw [found_getK hw']
      rfl
    simp [f_l_stands_b1, stE]
    rw [show eGW s = eDL eK sW s from rfl]
    rw [sdApp_eq ke_K sW Z (x := places b w) (v := w) (kk := .st) (kv := .st) rfl rfl rfl (by simp [hi, eK]) (by simp [sW]; rfl) (keyOk_K _) rfl hs1 hm1]
    rfl
end Al.B
/-! B14e: numbers and table, as the laws make them. -/
namespace Al.B
theorem nodup_len_le {α : Type} [DecidableEq α] : ∀ (ks ws : List α), ks.Nodup → (∀ k ∈ ks, k ∈ ws) → ks.length ≤ ws.length
  | [], _, _, _ => Nat.zero_le _
  | k :: r, ws, hn, h => by
    obtain ⟨h1, h2⟩ := List.nodup_cons.mp hn
    have h3 := h k List.mem_cons_self
    have h4 := nodup_len_le r (ws.erase k) h2 fun x hx => (List.mem_erase_of_ne (fun z => h1 (by rw [← z]; exact hx))).mpr (h x (List.mem_cons_of_mem _ hx))
    rw [List.length_erase_of_mem h3] at h4
    have := List.length_pos_of_mem h3
    simp only [List.length_cons]
    omega
section
variable {α : Type} [DecidableEq α]
theorem putK_fn {ek ev : α → D} (h : KE ek) (ks : List α) (k : α) :
    putK (ks.map fun k => (ek k, ev k)) (ek k) (ev k) = (addK ks k).map fun k => (ek k, ev k) := by
  have h : ∀ a b, keq (ek a) (ek b) = decide (a = b) := h
  unfold putK addK
  have e : ((ks.map fun k => (ek k, ev k)).any fun p => keq p.1 (ek k)) = decide (k ∈ ks) := by
    rw [List.any_map]
    simp only [Function.comp_def, h]
    rw [Bool.eq_iff_iff]
    simp
  rw [e]
  by_cases hk : k ∈ ks
  · simp only [hk, decide_true, if_true]
    rw [List.map_map]
    apply List.map_congr_left
    intro a _
    simp only [Function.comp_def, h, decide_eq_true_eq]
    split
    · next z => rw [z]
    · rfl
  · simp [hk]
theorem getK_fn {ek ev : α → D} (h : KE ek) (ks : List α) (k : α) : getK (ks.map fun k => (ek k, ev k)) (ek k) = if k ∈ ks then some (ev k) else none := by
  have h : ∀ a b, keq (ek a) (ek b) = decide (a = b) := h
  unfold getK
  induction ks with
  | nil => rfl
  | cons x r ih =>
    rw [List.map_cons, List.find?_cons, h x k]
    by_cases hx : x = k
    · subst hx; simp
    · have hx' : ¬ k = x := fun z => hx z.symm
      simp only [hx, decide_false, ih, List.mem_cons, hx', false_or]
end
/-- numbers by words -/
def eNum (b : List W) (ks : List W) : List (D × D) := ks.map fun w => (sW w, .int (num b w : Nat))
def numK (b : List W) : List W := addKs [] (stands b).flatten
theorem mem_stands {b : List W} {ws : List W} : ws ∈ stands b ↔ ∃ u ∈ reps b, cls b u = ws := by unfold stands; rw [List.mem_map]
theorem mem_numK {b : List W} {w : W} : w ∈ numK b ↔ Part b w := by
  unfold numK
  rw [mem_addKs, List.mem_flatten]
  constructor
  · rintro (h | ⟨ws, h, hw⟩)
    · cases h
    · obtain ⟨u, _, rfl⟩ := mem_stands.mp h
      exact (mem_cls.mp hw).1
  · intro h
    obtain ⟨u, h1, h2, _⟩ := rep_ex _ rfl h
    exact .inr ⟨cls b u, mem_stands.mpr ⟨u, h1, rfl⟩, mem_cls.mpr ⟨h, h2.symm⟩⟩
theorem eNum_get (b : List W) (w : W) : getK (eNum b (numK b)) (.str w) = if Part b w then some (.int (num b w : Nat)) else none := by
  have := getK_fn ke_sW (ev := fun w => D.int (num b w : Nat)) (numK b) w
  unfold eNum
  rw [show D.str w = sW w from rfl, this]
  by_cases h : Part b w
  · rw [if_pos h, if_pos (mem_numK.mpr h)]
  · rw [if_neg h, if_neg fun z => h (mem_numK.mp z)]
theorem keys_small {b : List W} {ks : List W} (hb : ∀ t ∈ b, t.length ≤ 120) (hl : b.length ≤ 8) (h1 : ks.Nodup) (h2 : ∀ k ∈ ks, Part b k) : ks.length < 16777216 := by
  have := nodup_len_le ks (allW b) h1 fun k hk => mem_allW.mpr (h2 k hk)
  have := allW_len hb hl
  omega
def nuE (b : List W) (n s w : Option (D × Kd)) (ks : List W) : Env := [some (.lst ((stands b).map eS), .st), some (.dic false (eNum b ks), .fr), n, s, w]
theorem num_cls {b : List W} {k : Nat} (h : k < (reps b).length) {w : W} (hw : w ∈ cls b (rep b k)) : num b w = k := by
  rw [num_congr (mem_cls.mp hw).2, num_rep h]
theorem addKs_nodup_part {b : List W} {xs ks : List W} (h1 : ks.Nodup) (h2 : ∀ k ∈ ks, Part b k) (h3 : ∀ k ∈ xs, Part b k) : (addKs ks xs).Nodup ∧ ∀ k ∈ addKs ks xs, Part b k :=
  ⟨nodup_addKs h1, fun k hk => (mem_addKs.mp hk).elim (h2 k) (h3 k)⟩
@[simp] theorem eS_flat (n : Nat) (ws : List W) : flatN n (eS ws) = false := flatN_lst n _
@[simp] theorem eS_kd (ws : List W) (k : Kd) : kd (eS ws) k = k := id rfl
theorem run_l_numbers (Z : Far) (b : List W) (hb : ∀ t ∈ b, t.length ≤ 120) (hl : b.length ≤ 8) :
    run Z f_l_numbers [.lst ((stands b).map eS)] = some (.ok (.dic false (eNum b (numK b))) .fr []) := by
  unfold f_l_numbers
  simp
  have hz : (stands b).zipIdx.map (fun a => ((D.tup [D.int (a.2 : Nat), eS a.1], kdT [D.int (a.2 : Nat), eS a.1] (jn (kd (eS a.1) .st) .st)) : D × Kd)) = (stands b).zipIdx.map fun a => (D.tup [D.int (a.2 : Nat), eS a.1], Kd.st) := by
    apply List.map_congr_left
    intro a _
    rfl
  have h := (loopF_fold (body := denSs Z f_l_numbers_b2) (tg := .tp [2, 3]) (ks := [2, 3, 4]) (fun _ (ks : List W) => ks.Nodup ∧ ∀ k ∈ ks, Part b k) (nuE b none none none) (fun a : List W × Nat => ((D.tup [D.int (a.2 : Nat), eS a.1], Kd.st) : D × Kd)) (fun ks a => addKs ks a.1) (stands b).zipIdx [] (ρ := nuE b none none none []) rfl ⟨.nil, fun _ z => nomatch z⟩ (fun i ks a ha hp => ?_)).1
  · unfold nuE at h
    rw [show (some (D.dic false [], Kd.fr)) = some (D.dic false (eNum b []), Kd.fr) from rfl]
    rw [h]
    have hf : ∀ (xs : List (List W)) (n : Nat) (s : List W), (xs.zipIdx n).foldl (fun ks a => addKs ks a.1) s = addKs s xs.flatten := by
      intro xs
      induction xs with
      | nil => intro n s; rfl
      | cons x r ih => intro n s; rw [List.zipIdx_cons, List.foldl_cons, ih, List.flatten_cons, addKs_app]
    rw [hf]
    simp [f_l_numbers_r3]
    rfl
  · obtain ⟨ws, k⟩ := a
    have hk := List.mem_zipIdx_iff_getElem?.mp (List.mem_of_getElem? ha)
    simp only [stands, List.getElem?_map, Option.map_eq_some_iff] at hk
    obtain ⟨u, hu, rfl⟩ := hk
    obtain ⟨hlt, hu2⟩ := List.getElem?_eq_some_iff.mp hu
    have hrep : rep b k = u := by rw [rep_get hlt]; exact hu2
    have hpart : ∀ w ∈ cls b u, Part b w := fun w hw => (mem_cls.mp hw).1
    refine ⟨?_, addKs_nodup_part hp.1 hp.2 hpart, rfl⟩
    simp [f_l_numbers_b2, nuE, eS]
    have hin := (loopF_fold (body := denSs Z f_l_numbers_b1) (tg := .nm 4) (ks := [4]) (fun _ (ks : List W) => ks.Nodup ∧ ∀ k ∈ ks, Part b k) (nuE b (some (.int k, .st)) (some (eS (cls b u), .st)) none) (fun w : W => ((.str w, .st) : D × Kd)) addK (cls b u) ks (ρ := nuE b (some (.int k, .st)) (some (eS (cls b u), .st)) none ks) rfl hp (fun j ks2 w hw hp2 => ?_)).1
    · unfold nuE at hin
      rw [show eS (cls b u) = .lst ((cls b u).map .str) from rfl] at hin
      rw [hin]
      simp
      rfl
    · have hwc := List.mem_of_getElem? hw
      have hnum : num b w = k := num_cls hlt (by rw [hrep]; exact hwc)
      have hsm := keys_small hb hl hp2.1 hp2.2
      have hlen : (eNum b ks2).length < 16777216 := by unfold eNum; rw [List.length_map]; exact hsm
      have hput : putK (eNum b ks2) (.str w) (.int (k : Nat)) = eNum b (addK ks2 w) := by
        have := putK_fn ke_sW (ev := fun w => D.int (num b w : Nat)) ks2 w
        rw [hnum] at this
        exact this
      refine ⟨?_, ⟨nodup_addK hp2.1, fun x hx => (mem_addK.mp hx).elim (hp2.2 x) fun z => z ▸ hpart w hwc⟩, rfl⟩
      simp [f_l_numbers_b1, nuE, hlen, hput]
/-! ### the table -/
def eOpt : Option Nat → D
  | none => .non
  | some n => .int (n : Nat)
def eWay (p : Nat × Nat) : D := .tup [.str [p.1], .int (p.2 : Nat)]
def eRow (r : Row) : D := .tup [.int (r.1 : Nat), .int (r.2.1 : Nat), eOpt r.2.2.1, .tup (r.2.2.2.map eWay)]
instance (n : Nat) : Flt eWay (n + 1) := ⟨fun a => by simp [eWay]⟩
theorem eOpt_flat (n : Nat) (o : Option Nat) : flatN n (eOpt o) = true := by cases o <;> simp [eOpt]
instance (n : Nat) : Flt eRow (n + 3) := ⟨fun a => by simp [eRow, eOpt_flat]⟩
def tbE (b : List W) (s y g l : Option (D × Kd)) (t : List Row) : Env := [some (.lst ((stands b).map eS), .st), some (.dic false (eNum b (numK b)), .st), some (.lst (t.map eRow), .fr), s, y, g, l]
theorem cls_0 {b : List W} {u : W} (hu : u ∈ reps b) : (cls b u)[0]? = some u := by
  have := cls_head (mem_reps.mp hu).1
  rw [List.head?_eq_getElem?] at this
  rw [this]
  have h1 := rep_mem (num_lt (mem_reps.mp hu).1)
  exact congrArg some (rep_eq h1 hu (rep_num (mem_reps.mp hu).1))
theorem isin_num (b : List W) (w : W) (k l : Kd) : p_isin [(.str w, k), (.dic false (eNum b (numK b)), l)] = some (.bl (decide (Part b w)), .st) := by
  show (if keyOk false (.str w) then some (D.bl (getK (eNum b (numK b)) (.str w)).isSome, Kd.st) else none) = _
  rw [keyOk_str, if_pos rfl, eNum_get]
  by_cases h : Part b w
  · rw [if_pos h, decide_eq_true h]; rfl
  · rw [if_neg h, decide_eq_false h]; rfl
theorem idx_num {b : List W} {w : W} (h : Part b w) (k l : Kd) : p_idx [(.dic false (eNum b (numK b)), k), (.str w, l)] = some (.int (num b w : Nat), .st) := by
  show (if keyOk false (.str w) then (getK (eNum b (numK b)) (.str w)).map fun d => (d, kd d (jn k .st)) else none) = _
  rw [keyOk_str, if_pos rfl, eNum_get, if_pos h]
  rfl
theorem run_l_table (Z : Far) (b : List W) (hb : ∀ t ∈ b, t.length ≤ 120) (hl : b.length ≤ 8) :
    run Z f_l_table [.lst ((stands b).map eS), .dic false (eNum b (numK b))] = some (.ok (.lst ((tab b).map eRow)) .fr []) := by
  have hR := reps_len hb hl
  unfold f_l_table
  simp
  have hz : (stands b).map (fun a => (eS a, Kd.st)) = (reps b).map fun u => (eS (cls b u), Kd.st) := by
    unfold stands
    rw [List.map_map]
    rfl
  rw [hz]
  have h := loopF_flat (body := denSs Z f_l_table_b3) (tg := .nm 3) (ks := [3, 4, 5, 6]) (tbE b none none none none) (fun u : W => ((eS (cls b u), .st) : D × Kd)) (fun u => [row b u]) 1 (reps b) [] (ρ := tbE b none none none none []) rfl (fun _ _ => by simp) (fun u hu s hs => ?_)
  · unfold tbE at h
    simp only [List.map_nil] at h
    rw [h, List.nil_append, flatMap_one]
    simp [f_l_table_r4, tab]
  · have hup := (mem_reps.mp hu).1
    have h0 := cls_0 hu
    have h1 := cls_last hup
    have hsl : s.length < 16777216 := by simp at hs; omega
    have hul : u.length ≤ 960 := by
      have := part_len hup
      have h2 := total_le 120 b hb
      omega
    have hul2 : u.length + 1 ≤ 16777216 := by omega
    simp [f_l_table_b3, tbE]
    have hw := loopF_coll (body := denSs Z f_l_table_b1) (tg := .nm 5) (ks := [5]) (fun ws : List (Nat × Nat) => [some (.lst ((stands b).map eS), .st), some (.dic false (eNum b (numK b)), .st), some (.lst (s.map eRow), .fr), some (eS (cls b u), .st), some (.lst (ws.map eWay), .fr), none, none]) (fun c : Nat => ((.str [c], .st) : D × Kd)) (fun c => decide (Part b (u ++ [c]))) (fun c => (c, num b (u ++ [c]))) AZ []
      (ρ := [some (.lst ((stands b).map eS), .st), some (.dic false (eNum b (numK b)), .st), some (.lst (s.map eRow), .fr), some (eS (cls b u), .st), some (.lst [], .fr), none, none]) rfl (fun c hc ws hws => ?_)
    · unfold AZ at hw
      simp only [List.map_cons, List.map_nil] at hw
      rw [hw]
      simp [f_l_table_r2, eS, h0, h1]
      by_cases hu0 : u = []
      · subst hu0
        simp [hsl, row, eRow, eOpt, ways, AZ]
      · have hpt := part_tail hup
        have hin := fun k l => idx_num hpt k l
        have hd : List.drop 1 u = u.tail := by simp
        simp [hu0, hin, hsl, h0, h1, eS, row, eRow, eOpt, ways, AZ]
    · have hwl : ws.length < 16777216 := by simp [AZ] at hws; omega
      by_cases hp : Part b (u ++ [c])
      · have hin := fun k l => idx_num hp k l
        simp [f_l_table_b1, eS, h0, hul2, isin_num, hp, hin, hwl, eWay]
      · simp [f_l_table_b1, eS, h0, hul2, isin_num, hp]
end Al.B
/-! B15: walks through the table. -/
namespace Al.B
def eT (b : List W) : D := .lst ((tab b).map eRow)
def eNs (ns : List Nat) : D := .lst (ns.map fun n : Nat => D.int (n : Nat))
@[simp] theorem isNon_opt (o : Option Nat) : isNon (eOpt o) = o.isNone := by cases o <;> rfl
theorem find_ways {b : List W} {w : W} {c : Nat} (hc : isSg c ∨ ¬ Part b (w ++ [c])) :
    ((ways b w).find? fun p => decide (p.1 = c)).map (·.2) = if Part b (w ++ [c]) then some (num b (w ++ [c])) else none := by
  by_cases hp : Part b (w ++ [c])
  · rw [if_pos hp]
    have hc := hc.resolve_right (fun z => z hp)
    have hm : (c, num b (w ++ [c])) ∈ ways b w := mem_ways.mpr ⟨hc, hp, rfl⟩
    cases e : (ways b w).find? fun p => decide (p.1 = c) with
    | none =>
      have := List.find?_eq_none.mp e _ hm
      simp at this
    | some p =>
      have h1 := List.find?_some e
      have h2 := List.mem_of_find?_eq_some e
      obtain ⟨x, n⟩ := p
      have h3 := of_decide_eq_true h1
      simp only at h3
      subst h3
      obtain ⟨_, _, h4⟩ := mem_ways.mp h2
      rw [h4]; rfl
  · rw [if_neg hp]
    cases e : (ways b w).find? fun p => decide (p.1 = c) with
    | none => rfl
    | some p =>
      have h1 := List.find?_some e
      simp only [decide_eq_true_eq] at h1
      have h2 := List.mem_of_find?_eq_some e
      obtain ⟨x, n⟩ := p
      simp only at h1
      subst h1
      exact absurd (mem_ways.mp h2).2.1 hp
/-- where a sign leads from a word's stand -/
def nxt (b : List W) (w : W) (c : Nat) : Option Nat := if Part b (w ++ [c]) then some (num b (w ++ [c])) else none
theorem tab_at {b : List W} {w : W} (hw : Part b w) : (tab b)[num b w]? = some ((rep b (num b w)).length, (lng b w).length, if rep b (num b w) = [] then none else some (num b (rep b (num b w)).tail), ways b w) := by
  rw [tab_get (num_lt hw)]
  unfold row
  rw [lng_congr (rep_num hw), ways_congr (rep_num hw)]
theorem snoc_sg {b : List W} (hB : Bk b) (w : W) (c : Nat) : isSg c ∨ ¬ Part b (w ++ [c]) := by
  by_cases h : Part b (w ++ [c])
  · exact .inl (part_sg hB.sg h c (by simp))
  · exact .inr h
def woE (b : List W) (w : W) (c : Nat) (o t : Option (D × Kd)) : Env := [some (eT b, .st), some (.int (num b w : Nat), .st), some (.str [c], .st), o, t]
theorem loopF_findE {β : Type} {body : Env → Option Fl} {tg : Tg} {ks : List Nat} (enc : Env) (it : β → D × Kd) (p : β → Bool) (r : β → Fl) (xs : List β) {ρ : Env} (hk : kill ρ ks = enc)
    (h : ∀ b ∈ xs, turn body tg ks (it b) enc = some (if p b then .inl (r b) else .inr enc)) (hk' : kill enc ks = enc := by rfl) :
    loopF body tg ks (xs.map it) ρ = some (((xs.find? p).map r).getD (.nx enc)) := by
  rw [loopF_find enc it p r xs hk h hk']
  cases xs.find? p <;> rfl
theorem run_way_of (Z : Far) {b : List W} (hB : Bk b) {w : W} (hw : Part b w) (c : Nat) :
    run Z f_way_of [eT b, .int (num b w : Nat), .str [c]] = some (.ok (eOpt (nxt b w c)) .st []) := by
  have hf := find_ways (snoc_sg hB w c)
  unfold f_way_of
  simp [eT, tab_at hw, eRow]
  have h := loopF_findE (body := denSs Z f_way_of_b1) (tg := .tp [3, 4]) (ks := [3, 4]) (woE b w c none none) (fun p : Nat × Nat => ((eWay p, .st) : D × Kd)) (fun p => decide (p.1 = c)) (fun p => .rt (.int (p.2 : Nat)) .st [some (eT b, .st), some (.int (num b w : Nat), .st), some (.str [c], .st), some (.str [p.1], .st), none]) (ways b w) (ρ := woE b w c none none) rfl (fun p hp => ?_)
  · simp only [woE, eT] at h
    rw [h]
    cases e : (ways b w).find? fun p => decide (p.1 = c) with
    | none =>
      rw [e] at hf
      unfold nxt
      rw [← hf]
      simp [f_way_of_r2, eOpt]
    | some p =>
      rw [e] at hf
      unfold nxt
      rw [← hf]
      simp [eOpt]
  · by_cases hc : p.1 = c
    · simp [f_way_of_b1, woE, eWay, hc]
    · simp [f_way_of_b1, woE, eWay, hc]
/-- the longest beginning that is a part, v being one already -/
def mp (b : List W) : W → W → W
  | v, [] => v
  | v, c :: r => if Part b (v ++ [c]) then mp b (v ++ [c]) r else v
/-- the stands of all beginnings -/
def pre (b : List W) (w : W) : List Nat := (List.range (w.length + 1)).map fun i => num b (w.take i)
def walkS (b : List W) (w : W) : List Nat := pre b (mp b [] w)
theorem pre_snoc (b : List W) (w : W) (c : Nat) : pre b (w ++ [c]) = pre b w ++ [num b (w ++ [c])] := by
  unfold pre
  rw [List.length_append, List.length_singleton, List.range_succ, List.map_append]
  congr 1
  · apply List.map_congr_left
    intro i hi
    rw [List.mem_range] at hi
    rw [List.take_append_of_le_length (by omega)]
  · rw [List.map_singleton, List.take_of_length_le (by simp)]
@[simp] theorem pre_len (b : List W) (w : W) : (pre b w).length = w.length + 1 := by simp [pre]
theorem pre_last (b : List W) (w : W) : (pre b w).getLast? = some (num b w) := by
  unfold pre
  rw [List.range_succ, List.map_append]
  simp
@[simp] theorem pre_nil (b : List W) : pre b [] = [0] := by simp [pre, num_nil]
theorem mp_part {b : List W} : ∀ {r v : W}, Part b v → Part b (mp b v r)
  | [], v, h => h
  | c :: r, v, h => by
    rw [mp]
    split
    · next q => exact mp_part q
    · exact h
theorem mp_le {b : List W} : ∀ {r v : W}, (mp b v r).length ≤ v.length + r.length
  | [], v => by simp [mp]
  | c :: r, v => by
    rw [mp]
    split
    · have := mp_le (b := b) (r := r) (v := v ++ [c])
      simp at this ⊢
      omega
    · simp
theorem goF_mp {b : List W} {R : W → Nat → Fl} : ∀ (r v : W), (mp b v r = v ++ r ∧ goF (fun v c => if Part b (v ++ [c]) then .inr (v ++ [c]) else (.inl (R v c) : Fl ⊕ W)) r v = .inr (mp b v r)) ∨ ∃ c, goF (fun v c => if Part b (v ++ [c]) then .inr (v ++ [c]) else (.inl (R v c) : Fl ⊕ W)) r v = .inl (R (mp b v r) c)
  | [], v => .inl ⟨by simp [mp], rfl⟩
  | c :: r, v => by
    rw [goF, mp]
    by_cases h : Part b (v ++ [c])
    · simp only [h, if_true]
      have := goF_mp (b := b) (R := R) r (v ++ [c])
      simpa using this
    · simp only [h, if_false]
      exact .inr ⟨c, rfl⟩
def wkE (b : List W) (w : W) (c t : Option (D × Kd)) (v : W) : Env := [some (eT b, .st), some (.str w, .st), some (eNs (pre b v), .fr), c, t]
theorem run_walk (Z : Far) {b : List W} (hB : Bk b) (w : W) (hw : w.length ≤ 1000) :
    run Z f_walk [eT b, .str w] = some (.ok (eNs (walkS b w)) .fr []) := by
  unfold f_walk
  simp
  have h := (loopF_go (body := denSs Z f_walk_b1) (tg := .nm 3) (ks := [3, 4]) (fun i (v : W) => v.length = i ∧ Part b v) (wkE b w none none) (fun c : Nat => ((.str [c], .st) : D × Kd)) (fun v c => if Part b (v ++ [c]) then .inr (v ++ [c]) else .inl (.rt (eNs (pre b v)) .fr [some (eT b, .st), some (.str w, .st), none, some (.str [c], .st), some (.non, .st)])) w 0 [] (wkE b w none none []) rfl ⟨rfl, part_nil b⟩ (fun i v c hc hp => ?_)).1
  · have hE : wkE b w none none [] = [some (eT b, .st), some (.str w, .st), some (.lst [.int 0], .fr), none, none] := by
      unfold wkE eNs
      rw [pre_nil]
      rfl
    rw [hE] at h
    rw [h]
    rcases goF_mp (b := b) (R := fun v c => .rt (eNs (pre b v)) .fr [some (eT b, .st), some (.str w, .st), none, some (.str [c], .st), some (.non, .st)]) w [] with ⟨_, hg⟩ | ⟨c, hg⟩
    · rw [hg]
      simp [wkE, f_walk_r2, eNs, walkS]
    · rw [hg]
      simp [eNs, walkS]
  · obtain ⟨h1, h2⟩ := hp
    have hi : i < w.length := (List.getElem?_eq_some_iff.mp hc).1
    have e1 := run_way_of Z hB h2 c
    have e2 : (pre b v).getLast? = some (num b v) := pre_last b v
    have e3 : (pre b v).length < 16777216 := by rw [pre_len]; omega
    by_cases hp : Part b (v ++ [c])
    · refine ⟨?_, fun s' z => ?_⟩
      · rw [if_pos hp]
        have e4 : nxt b v c = some (num b (v ++ [c])) := if_pos hp
        rw [e4] at e1
        have e5 : v.length + 1 < 16777216 := by omega
        simp [f_walk_b1, wkE, eNs, e1, e2, e5, eOpt, pre_snoc]
      · rw [if_pos hp] at z
        cases z
        exact ⟨⟨by simp; omega, hp⟩, rfl⟩
    · refine ⟨?_, fun s' z => ?_⟩
      · rw [if_neg hp]
        have e4 : nxt b v c = none := if_neg hp
        rw [e4] at e1
        simp [f_walk_b1, wkE, eNs, e1, e2, eOpt]
      · rw [if_neg hp] at z
        cases z
end Al.B
/-! B15b: law k13. -/
namespace Al.B
theorem goF_map {σ β γ : Type} (step : σ → γ → Fl ⊕ σ) (g : β → γ) : ∀ (xs : List β) (s : σ), goF (fun s b => step s (g b)) xs s = goF step (xs.map g) s
  | [], _ => rfl
  | b :: r, s => by
    rw [goF, List.map_cons, goF]
    cases step s (g b) with
    | inl f => rfl
    | inr s' => exact goF_map step g r s'
theorem zipIdx_fst {α : Type} (xs : List α) (n : Nat) : (xs.zipIdx n).map (·.1) = xs := by
  induction xs generalizing n with
  | nil => rfl
  | cons x r ih => rw [List.zipIdx_cons, List.map_cons, ih]
theorem range_zip {α β : Type} (f : Nat → β) (xs : List α) : (List.range xs.length).map f = xs.zipIdx.map fun p => f p.2 := by
  apply List.ext_getElem
  · simp
  · intro i h1 h2
    simp
theorem notin_num (b : List W) (w : W) (k l : Kd) : p_notin [(.str w, k), (.dic false (eNum b (numK b)), l)] = some (.bl (!decide (Part b w)), .st) := by
  show (if keyOk false (.str w) then some (D.bl (!(getK (eNum b (numK b)) (.str w)).isSome), Kd.st) else none) = _
  rw [keyOk_str, if_pos rfl, eNum_get]
  by_cases h : Part b w
  · rw [if_pos h, decide_eq_true h]; rfl
  · rw [if_neg h, decide_eq_false h]; rfl
def dwE (b : List W) (w : W) (c : Option (D × Kd)) (v : W) : Env := [some (.dic false (eNum b (numK b)), .st), some (.str w, .st), some (eNs (pre b v), .fr), c]
theorem run_due13 (Z : Far) {b : List W} (w : W) (hw : w.length ≤ 1000) :
    run Z f_l_due_k13 [.dic false (eNum b (numK b)), .str w] = some (.ok (eNs (walkS b w)) .fr []) := by
  have h1 : (1 : Int) < 1000000000 ∧ ((w.length : Int) + 1 - 1 ≤ 16777216) := by omega
  have h2 : ((w.length : Int) + 1 - 1).toNat = w.length := by omega
  have h3 : (-1000000000 : Int) < (w.length : Int) + 1 ∧ (w.length : Int) + 1 < 1000000000 := by omega
  unfold f_l_due_k13
  simp [h1, h3]
  rw [if_pos (by omega), range_zip (fun n : Nat => ((D.int (1 + (n : Nat)), Kd.st) : D × Kd)) w]
  have h := (loopF_go (body := denSs Z f_l_due_k13_b1) (tg := .nm 3) (ks := [3]) (fun i (v : W) => v = w.take i) (dwE b w none) (fun p : Nat × Nat => ((.int (1 + (p.2 : Nat)), .st) : D × Kd)) (fun v p => if Part b (v ++ [p.1]) then .inr (v ++ [p.1]) else .inl (.rt (eNs (pre b v)) .fr [some (.dic false (eNum b (numK b)), .st), some (.str w, .st), none, some (.int (1 + ((v.length : Nat) : Int)), .st)])) w.zipIdx 0 [] (dwE b w none []) rfl rfl (fun i v p hp hv => ?_)).1
  · have hE : dwE b w none [] = [some (.dic false (eNum b (numK b)), .st), some (.str w, .st), some (.lst [.int 0], .fr), none] := by
      unfold dwE eNs
      rw [pre_nil]
      rfl
    rw [hE] at h
    simp
    rw [h]
    rw [goF_map (fun (v : W) (c : Nat) => if Part b (v ++ [c]) then (.inr (v ++ [c]) : Fl ⊕ W) else .inl (.rt (eNs (pre b v)) .fr [some (.dic false (eNum b (numK b)), .st), some (.str w, .st), none, some (.int (1 + ((v.length : Nat) : Int)), .st)])) (fun p : Nat × Nat => p.1), zipIdx_fst]
    rcases goF_mp (b := b) (R := fun v c => .rt (eNs (pre b v)) .fr [some (.dic false (eNum b (numK b)), .st), some (.str w, .st), none, some (.int (1 + ((v.length : Nat) : Int)), .st)]) w [] with ⟨_, hg⟩ | ⟨c, hg⟩
    · rw [hg]
      simp [dwE, f_l_due_k13_r2, eNs, walkS]
    · rw [hg]
      simp [eNs, walkS]
  · obtain ⟨c, n⟩ := p
    obtain ⟨hi, hp2⟩ := List.getElem?_eq_some_iff.mp hp
    simp at hi hp2
    obtain ⟨hc, rfl⟩ := hp2
    have hv' : v = w.take i := by simpa using hv
    have hlen : v.length = i := by rw [hv', List.length_take]; omega
    have e1 : w.take (i + 1) = v ++ [c] := by rw [hv', List.take_succ, List.getElem?_eq_getElem hi, hc]; rfl
    have e2 : (1 : Int) + i = ((i + 1 : Nat) : Int) := by omega
    have e3 : v.length + 1 < 16777216 := by omega
    by_cases hq : Part b (v ++ [c])
    · refine ⟨?_, fun s' z => ?_⟩
      · simp [-Int.natCast_add, f_l_due_k13_b1, dwE, eNs, e2, e1, hq, notin_num, idx_num hq, pre_snoc, e3]
      · simp only [hq, if_true, Sum.inr.injEq] at z
        subst z
        exact ⟨by simpa using e1.symm, rfl⟩
    · refine ⟨?_, fun s' z => ?_⟩
      · simp [-Int.natCast_add, f_l_due_k13_b1, dwE, eNs, e2, e1, hq, notin_num, hlen]
      · simp only [hq, if_false] at z
        cases z
theorem run_whole13 (Z : Far) (n : Int) : run Z f_l_whole_k13 [.int n] = some (.ok (.bl true) .st []) := by
  unfold f_l_whole_k13
  simp
theorem filter_true {α : Type} (xs : List α) : xs.filter (fun _ => true) = xs := by simp
theorem run_same13 (Z : Far) (a c : List Nat) : run Z f_l_same_k13 [eNs a, eNs c] = some (.ok (.bl (decide (a = c))) .st []) := by
  unfold f_l_same_k13
  have hE : eqL (eqN 7) (a.map fun n : Nat => D.int (n : Nat)) (c.map fun n : Nat => D.int (n : Nat)) = decide (a = c) := by
    have : ∀ a c : List Nat, eqL (eqN 7) (a.map fun n : Nat => D.int (n : Nat)) (c.map fun n : Nat => D.int (n : Nat)) = decide (a = c) := by
      intro a
      induction a with
      | nil => intro c; cases c <;> rfl
      | cons x r ih =>
        intro c
        cases c with
        | nil => rfl
        | cons y t =>
          rw [List.map_cons, List.map_cons, eqL_cons, ih, eqN_int]
          by_cases h1 : x = y <;> by_cases h2 : r = t <;> simp [h1, h2] <;> omega
    exact this a c
  have hP : ∀ a : List Nat, (a.map fun n : Nat => D.int (n : Nat)).all (plainN 7) = true := by
    intro a
    rw [List.all_map]
    exact List.all_eq_true.mpr fun _ _ => rfl
  by_cases h : a = c
  · subst h
    simp [eNs, hE, hP]
    rw [lcF_map (g := fun n : Nat => (.int (n : Nat), .st)) (fun n _ => by simp [f_l_same_k13_e1, lcI_nmc, run_whole13])]
    simp
  · simp [eNs, hE, hP, h]
@[simp] theorem int1_bl (b : Bool) (k : Kd) : p_int1 [(.bl b, k)] = some (.int (b2i b), .st) := id rfl
theorem run_word13 (Z : Far) (ns : List Int) {b : List W} (hB : Bk b) (k : Nat) (hk : k ≤ 100) : ∃ w, run Z f_l_word [.scr ns, .lst (b.map .str), .int k] = some (.ok (.str w) .st []) ∧ w.length ≤ 1000 := by
  have e1 := run_mixed13 Z ns (300 + 7 * (k : Int)) (by omega)
  have e2 := run_mixed13 Z ns (301 + 7 * (k : Int)) (by omega)
  have e3 := run_mixed13 Z ns (302 + 7 * (k : Int)) (by omega)
  have n1 := mixed13_nn ns (300 + 7 * (k : Int))
  generalize mixed13 ns (300 + 7 * (k : Int)) = n at *
  generalize mixed13 ns (301 + 7 * (k : Int)) = m at *
  generalize mixed13 ns (302 + 7 * (k : Int)) = q at *
  have m3 := mod_in q 26 (by decide)
  have m6 := mod_in (n / 3) 6 (by decide)
  obtain ⟨sg, _, c1⟩ := atL_in AZ (q % 26) m3.1 (by unfold AZ; simp; omega)
  unfold AZ at c1
  have six : ∀ a1 a2 a3 a4 a5 a6 : W, a1.length ≤ 1000 → a2.length ≤ 1000 → a3.length ≤ 1000 → a4.length ≤ 1000 → a5.length ≤ 1000 → a6.length ≤ 1000 → ∃ w : W, atL [D.str a1, .str a2, .str a3, .str a4, .str a5, .str a6] (n / 3 % 6) = some (.str w) ∧ w.length ≤ 1000 := by
    intro a1 a2 a3 a4 a5 a6 l1 l2 l3 l4 l5 l6
    obtain ⟨w, hw, e⟩ := atL_in [a1, a2, a3, a4, a5, a6] (n / 3 % 6) m6.1 (by simpa using m6.2)
    have e' := atL_map D.str [a1, a2, a3, a4, a5, a6] (n / 3 % 6)
    rw [e] at e'
    refine ⟨w, e', ?_⟩
    simp at hw
    rcases hw with rfl | rfl | rfl | rfl | rfl | rfl <;> assumption
  unfold f_l_word
  cases hb : b with
  | nil =>
    have c2 : m % (0 + 1 : Int) = 0 := by simp
    obtain ⟨w, e, hl⟩ := six [] [sg] [sg] [sg] [] [] (by simp) (by simp) (by simp) (by simp) (by simp) (by simp)
    refine ⟨w, ?_, hl⟩
    simp [e1, e2, e3, c1, e, m3]
  | cons t0 r =>
    rw [← hb]
    have hb0 : b ≠ [] := by rw [hb]; simp
    have hp : 0 < b.length := List.length_pos_iff.mpr hb0
    obtain ⟨t, ht, d1⟩ := atL_in b (n % (b.length : Int)) (mod_in n b.length (by omega)).1 (mod_in n b.length (by omega)).2
    have d2 := atL_map D.str b (n % (b.length : Int))
    rw [d1] at d2
    have htl := hB.len ht
    have m8 := mod_in (n / 8) ((t.length : Int) + 1) (by omega)
    obtain ⟨p, hpn⟩ : ∃ p : Nat, n / 8 % ((t.length : Int) + 1) = p := ⟨(n / 8 % ((t.length : Int) + 1)).toNat, by omega⟩
    obtain ⟨z, hz, hz2⟩ : ∃ z : Nat, atL [D.int 30, D.int 121] (b2i (decide ((60 : Int) < t.length))) = some (.int (z : Nat)) ∧ 0 < z ∧ z < 1000 := by
      by_cases h : (60 : Int) < t.length
      · exact ⟨121, by rw [decide_eq_true h]; rfl, by omega, by omega⟩
      · exact ⟨30, by rw [decide_eq_false h]; rfl, by omega, by omega⟩
    have mz := mod_in (n / 1000) (z : Int) (by omega)
    obtain ⟨s, hs⟩ : ∃ s : Nat, n / 1000 % (z : Int) = s := ⟨(n / 1000 % (z : Int)).toNat, by omega⟩
    have hcut : cutL t (some (p : Int)) (some ((p : Int) + (s : Int))) = (t.drop p).take s := cutL_at t p s
    generalize hw0 : (t.drop p).take s = w0 at hcut
    have hw0l : w0.length ≤ 120 := by rw [← hw0]; simp; omega
    have ma := mod_in m ((w0.length : Int) + 1) (by omega)
    obtain ⟨a, haa⟩ : ∃ a : Nat, m % ((w0.length : Int) + 1) = a := ⟨(m % ((w0.length : Int) + 1)).toNat, by omega⟩
    have hzp : 0 < z := hz2.1
    have hpos1 : (0 : Int) < (t.length : Int) + 1 := by omega
    have hpos2 : (0 : Int) < (w0.length : Int) + 1 := by omega
    have ht0' : (b.map D.str)[0]? = some (.str t0) := by rw [hb]; rfl
    have ht0'' : b[0]? = some t0 := by rw [hb]; rfl
    have hg0 : b[0]'hp = t0 := by simp [hb]
    have h5 : ((a : Int) + 1) = ((a + 1 : Nat) : Int) := by omega
    have f1 : w0.length + 1 ≤ 16777216 := by omega
    have f2 : min a w0.length + 1 + (w0.length - (a + 1)) ≤ 16777216 := by omega
    have f3 : min a w0.length + 1 ≤ 16777216 := by omega
    have f4 : t.length + w0.length ≤ 16777216 := by omega
    have f5 : t.length + w0.length + t.length ≤ 16777216 := by omega
    have f6 : 1 + w0.length ≤ 16777216 := by omega
    have f7 : min a w0.length + (1 + (w0.length - (a + 1))) ≤ 16777216 := by omega
    have f8 : t.length + (w0.length + t.length) ≤ 16777216 := by omega
    have hem : b.isEmpty = false := by rw [hb]; rfl
    have fin : ∀ g : Nat, ∃ w : W, atL [D.str w0, .str (w0.take a ++ g :: w0.drop (a + 1)), .str (w0 ++ [g]), .str (g :: w0), .str [], .str ((t ++ (w0 ++ t)).take 200)] (n / 3 % 6) = some (.str w) ∧ w.length ≤ 1000 := fun g =>
      six _ _ _ _ _ _ (by omega) (by simp; omega) (by simp; omega) (by simp; omega) (by simp) (by simp; omega)
    by_cases hc : 0 < t0.length ∧ n % 3 = 0
    · obtain ⟨hc1, hc2⟩ := hc
      obtain ⟨g, _, g1⟩ := atL_in t0 (q % (t0.length : Int)) (mod_in q t0.length (by omega)).1 (mod_in q t0.length (by omega)).2
      obtain ⟨w, e, hl⟩ := fin g
      refine ⟨w, ?_, hl⟩
      simp [-List.map_take, -Int.natCast_add, e1, e2, e3, c1, hp, d2, hpn, hz, hs, hcut, haa, hpos1, hpos2, hzp, hem, hg0, ht0', ht0'', hc1, hc2, g1, h5, f1, f2, f3, f4, f5, f6, f7, f8, e, big_of]
    · obtain ⟨w, e, hl⟩ := fin sg
      refine ⟨w, ?_, hl⟩
      by_cases hc1 : 0 < t0.length
      · have hc2 : ¬ n % 3 = 0 := fun z => hc ⟨hc1, z⟩
        simp [-List.map_take, -Int.natCast_add, e1, e2, e3, c1, hp, d2, hpn, hz, hs, hcut, haa, hpos1, hpos2, hzp, hem, hg0, ht0', ht0'', hc1, hc2, h5, f1, f2, f3, f4, f5, f6, f7, f8, e, big_of]
      · simp [-List.map_take, -Int.natCast_add, e1, e2, e3, c1, hp, d2, hpn, hz, hs, hcut, haa, hpos1, hpos2, hzp, hem, hg0, ht0', ht0'', hc1, h5, f1, f2, f3, f4, f5, f6, f7, f8, e, big_of]
end Al.B
/-! B15c: law k13. -/
namespace Al.B
/-- plain data is itself again -/
theorem eqN_refl : ∀ (n : Nat) (d : D), plainN n d = true → eqN n d d = true := by
  have hL : ∀ (e : D → D → Bool) (xs : List D), (∀ x ∈ xs, e x x = true) → eqL e xs xs = true := by
    intro e xs
    induction xs with
    | nil => intro _; rfl
    | cons x r ih => intro h; rw [eqL_cons, h x List.mem_cons_self, ih fun y hy => h y (List.mem_cons_of_mem _ hy)]; rfl
  intro n
  induction n with
  | zero => intro d h; cases d <;> first | simp | (simp [plainN] at h)
  | succ n ih =>
    intro d h
    cases d with
    | non => rfl
    | bl b => simp
    | int i => simp
    | str w => simp
    | lst xs => rw [eqN_lst]; exact hL _ _ fun x hx => ih x (List.all_eq_true.mp h x hx)
    | tup xs => rw [eqN_tup]; exact hL _ _ fun x hx => ih x (List.all_eq_true.mp h x hx)
    | scr ns => simp [plainN] at h
    | dic t kvs => simp [plainN] at h
    | obj c fs => simp [plainN] at h
    | exc c => simp [plainN] at h
theorem eOpt_plain (n : Nat) (o : Option Nat) : plainN n (eOpt o) = true := by cases o <;> simp [eOpt]
theorem eRow_plain (n : Nat) (r : Row) : plainN (n + 3) (eRow r) = true := by
  have h : (r.2.2.2.map eWay).all (plainN (n + 1)) = true := by
    rw [List.all_map]
    exact List.all_eq_true.mpr fun _ _ => by simp [eWay]
  simp [eRow, eOpt_plain, -List.all_map, h]
theorem eT_plain (n : Nat) (b : List W) : plainN (n + 4) (eT b) = true := by
  unfold eT
  rw [plainN_lst, List.all_map]
  exact List.all_eq_true.mpr fun r _ => eRow_plain n r
@[simp] theorem eT_pl (b : List W) : plainN 8 (eT b) = true := eT_plain 4 b
@[simp] theorem eT_eqs (b : List W) : eqN 8 (eT b) (eT b) = true := eqN_refl 8 _ (eT_plain 4 b)
@[simp] theorem eT_flat (n : Nat) (b : List W) : flatN n (eT b) = false := flatN_lst n _
@[simp] theorem eT_kd (b : List W) (k : Kd) : kd (eT b) k = k := id rfl
@[simp] theorem eNs_flat (n : Nat) (b : List Nat) : flatN n (eNs b) = false := flatN_lst n _
@[simp] theorem eNs_kd (b : List Nat) (k : Kd) : kd (eNs b) k = k := id rfl
@[simp] theorem list_eT (b : List W) (k : Kd) : p_list [(eT b, k)] = some (eT b, .fr) := by
  unfold eT
  simp
def Z_k13 : Far := fun _ _ => none
def l13E (ns : List Int) (b : List W) (ws : List W) (w f : Option (D × Kd)) : Env := [some (.scr ns, .st), some (.lst (b.map .str), .st), some (.lst ((stands b).map eS), .st), some (.dic false (eNum b (numK b)), .st), some (eT b, .st), some (eT b, .st), some (.lst (ws.map .str), .st), w, f, none]
theorem run_k13 (ns : List Int) (hns : ns.length ≤ 63) : ∃ k out, run Z_k13 f_law_k13 [.scr ns] = some (.ok (.bl true) k out) := by
  obtain ⟨b, e1, hB⟩ := run_book13 Z_k13 ns 60 (by omega)
  rw [show (((60 : Nat) : Int)) = 60 from rfl] at e1
  have hb : ∀ t ∈ b, t.length ≤ 120 := fun t ht => hB.len ht
  have hl := hB.n
  have e2 := run_l_places Z_k13 b hb hl
  have e3 := run_l_stands Z_k13 b hb hl
  have e4 := run_l_numbers Z_k13 b hb hl
  have e5 := run_l_table Z_k13 b hb hl
  rw [show D.lst ((tab b).map eRow) = eT b from rfl] at e5
  have hw : ∀ k : Nat, ∃ w, k ≤ 100 → run Z_k13 f_l_word [.scr ns, .lst (b.map .str), .int k] = some (.ok (.str w) .st []) ∧ w.length ≤ 1000 := fun k => by
    by_cases hk : k ≤ 100
    · obtain ⟨w, h⟩ := run_word13 Z_k13 ns hB k hk
      exact ⟨w, fun _ => h⟩
    · exact ⟨[], fun z => absurd z hk⟩
  obtain ⟨f, hf⟩ := Classical.axiomOfChoice hw
  refine ⟨.st, [], ?_⟩
  unfold f_law_k13
  simp [e1, e2, e3, e4, e5]
  rw [show ((List.range 8).map fun n : Nat => ((D.int (n : Nat), Kd.st) : D × Kd)) = (List.range 8).map fun n : Nat => ((D.int (n : Nat), Kd.st) : D × Kd) from rfl]
  rw [lcF_map (g := fun k : Nat => (.str (f k), .st)) (fun k hk => by
    rw [List.mem_range] at hk
    simp [f_law_k13_e1, lcI_nm, (hf k (by omega)).1])]
  obtain ⟨ws, hws, hl8, hlw⟩ : ∃ ws : List W, ((List.range 8).map fun k : Nat => ((D.str (f k), Kd.st) : D × Kd)) = ws.map (fun w => (.str w, .st)) ∧ ws.length = 8 ∧ ∀ w ∈ ws, w.length ≤ 1000 :=
    ⟨(List.range 8).map f, by rw [List.map_map]; rfl, by simp, fun w hw => by
      obtain ⟨k, hk, rfl⟩ := List.mem_map.mp hw
      rw [List.mem_range] at hk
      exact (hf k (by omega)).2⟩
  rw [hws]
  have hlen : ws.length + (ws.take 1).length ≤ 16777216 := by simp; omega
  have hlen2 : ws.length + min 1 ws.length ≤ 16777216 := by omega
  simp [-List.map_take, take_mapD, hlen2]
  rw [← List.map_append]
  simp [-List.map_take, -List.map_append, take_mapD]
  have h := loopF_same (body := denSs Z_k13 f_law_k13_b2) (tg := .nm 7) (ks := [7, 8]) (l13E ns b ws none none) (fun w : W => ((.str w, .st) : D × Kd)) (ws ++ ws.take 1) (ρ := l13E ns b ws none none) rfl (fun w hw => ?_)
  · unfold l13E at h
    rw [h]
    simp [f_law_k13_r3]
  · have hw2 : w.length ≤ 1000 := by
      rcases List.mem_append.mp hw with h | h
      · exact hlw w h
      · exact hlw w (List.mem_of_mem_take h)
    have g1 := run_walk Z_k13 hB w hw2
    have g2 := run_due13 Z_k13 (b := b) w hw2
    have g3 := run_same13 Z_k13 (walkS b w) (walkS b w)
    have g4 : (walkS b w).length < 16777216 := by
      have := mp_le (b := b) (r := w) (v := [])
      unfold walkS
      rw [pre_len]
      simp at this
      omega
    simp [f_law_k13_b2, l13E, g1, g2, g3]
    simp [eNs, g4]
end Al.B
/-! C3: how many parts there are, by stands. -/
namespace Al.B
theorem cls_disj {b : List W} {u v w : W} (hu : u ∈ reps b) (hv : v ∈ reps b) (h1 : w ∈ cls b u) (h2 : w ∈ cls b v) : u = v :=
  rep_eq hu hv ((mem_cls.mp h1).2.symm.trans (mem_cls.mp h2).2)
/-- each part stands in one stand -/
theorem flat_cls (b : List W) : ((reps b).flatMap (cls b)).Perm (allW b) := by
  refine (List.perm_ext_iff_of_nodup ?_ (allW_nodup b)).mpr fun w => ?_
  · unfold List.Nodup
    rw [List.pairwise_flatMap]
    refine ⟨fun u _ => cls_nodup b u, List.Pairwise.imp_of_mem (fun {u v} hu hv h x hx y hy z => ?_) (reps_nodup b)⟩
    subst z
    exact h (cls_disj hu hv hx hy)
  · rw [List.mem_flatMap, mem_allW]
    constructor
    · rintro ⟨u, _, h⟩; exact (mem_cls.mp h).1
    · intro h
      obtain ⟨u, h1, h2, _⟩ := rep_ex _ rfl h
      exact ⟨u, h1, mem_cls.mpr ⟨h, h2.symm⟩⟩
theorem sum_cls (b : List W) : ((reps b).map fun u => (cls b u).length).sum = (allW b).length := by
  rw [← (flat_cls b).length_eq, List.length_flatMap]
theorem rep_self {b : List W} {u : W} (hu : u ∈ reps b) : rep b (num b u) = u :=
  rep_eq (rep_mem (num_lt (mem_reps.mp hu).1)) hu (rep_num (mem_reps.mp hu).1)
theorem rep_le_lng {b : List W} {u : W} (hu : u ∈ reps b) : u.length ≤ (lng b u).length := (suf_lng (mem_reps.mp hu).1).length_le
theorem cls_length {b : List W} {u : W} (hu : u ∈ reps b) : (cls b u).length = (lng b u).length + 1 - u.length := by
  rw [cls_eq (mem_reps.mp hu).1, rep_self hu]
  simp
/-- the words of a stand of a length -/
theorem cls_len_count {b : List W} {u : W} (hu : u ∈ reps b) (n : Nat) : ((cls b u).filter fun w => decide (w.length = n)).length = if u.length ≤ n ∧ n ≤ (lng b u).length then 1 else 0 := by
  have hl := rep_le_lng hu
  rw [cls_eq (mem_reps.mp hu).1, rep_self hu]
  rw [List.filter_map, List.length_map]
  have e : (fun w : W => decide (w.length = n)) ∘ (fun i => (lng b u).drop ((lng b u).length - (u.length + i))) = fun i => decide (min (lng b u).length (u.length + i) = n) := by
    funext i
    simp only [Function.comp, List.length_drop]
    congr 1
    apply propext
    omega
  rw [e]
  by_cases h : u.length ≤ n ∧ n ≤ (lng b u).length
  · rw [if_pos h]
    have : (List.range ((lng b u).length + 1 - u.length)).filter (fun i => decide (min (lng b u).length (u.length + i) = n)) = [n - u.length] := by
      have hp : ((List.range ((lng b u).length + 1 - u.length)).filter (fun i => decide (min (lng b u).length (u.length + i) = n))).Perm [n - u.length] := by
        refine (List.perm_ext_iff_of_nodup (List.nodup_range.filter _) (by simp)).mpr fun i => ?_
        rw [List.mem_filter, List.mem_range, decide_eq_true_eq, List.mem_singleton]
        omega
      exact List.perm_singleton.mp hp
    rw [this]
    rfl
  · rw [if_neg h, List.length_eq_zero_iff, List.filter_eq_nil_iff]
    intro i hi
    rw [List.mem_range] at hi
    simp only [decide_eq_true_eq]
    omega
theorem count_len (b : List W) (n : Nat) : ((allW b).filter fun w => decide (w.length = n)).length = ((reps b).filter fun u => decide (u.length ≤ n) && decide (n ≤ (lng b u).length)).length := by
  rw [← ((flat_cls b).filter _).length_eq, List.filter_flatMap, List.length_flatMap]
  have : ∀ us : List W, (∀ u ∈ us, u ∈ reps b) → (us.map fun u => ((cls b u).filter fun w => decide (w.length = n)).length).sum = (us.filter fun u => decide (u.length ≤ n) && decide (n ≤ (lng b u).length)).length := by
    intro us
    induction us with
    | nil => intro _; rfl
    | cons u r ih =>
      intro h
      rw [List.map_cons, List.sum_cons, ih fun v hv => h v (List.mem_cons_of_mem _ hv), cls_len_count (h u List.mem_cons_self), List.filter_cons]
      by_cases hc : u.length ≤ n ∧ n ≤ (lng b u).length
      · rw [if_pos hc, if_pos (by simp [hc])]; simp; omega
      · rw [if_neg hc, if_neg (by simp; omega)]; omega
  exact this (reps b) fun _ h => h
end Al.B
/-! B14f: stands and numbers again, under the later laws' names. -/
namespace Al.B
@[simp] theorem run_by_size14 (Z : Far) (w : W) : run Z f_l_by_size_k14 [.str w] = some (.ok (eLW w) .st []) := by
  unfold f_l_by_size_k14
  simp [eLW]
theorem run_l_stands14 (Z : Far) (b : List W) (hb : ∀ t ∈ b, t.length ≤ 120) (hl : b.length ≤ 8) :
    run Z f_l_stands_k14 [.dic false (eWP (foundD b))] = some (.ok (.lst ((stands b).map eS)) .st []) := by
  have hA := allW_len hb hl
  have hks : keysOf (.dic false (eWP (foundD b))) = some ((dkeys (foundD b)).map .str) := by
    show some ((eWP (foundD b)).map (·.1)) = _
    unfold eWP
    rw [eDL_keys]
    rfl
  have hkl : (dkeys (foundD b)).length ≤ 16777216 := by
    have := congrArg List.length (found_sorted b)
    rw [List.length_mergeSort] at this
    omega
  have hs := sortKD_LW (g := fun x => run Z f_l_by_size_k14 [x]) (fun w => ⟨.st, [], run_by_size14 Z w⟩) hks hkl
  rw [found_sorted] at hs
  unfold f_l_stands_k14
  simp [v_sortK, hs]
  have h := loopF_daps (body := denSs Z f_l_stands_k14_b1) (tg := .nm 2) (ks := [2]) (stE (.dic false (eWP (foundD b))) none) (fun w : W => ((.str w, .st) : D × Kd)) (fun w => [(places b w, w)]) 1 (allW b) [] (ρ := stE (.dic false (eWP (foundD b))) none []) rfl (fun _ _ => by simp) 0 (fun k => by simp [dgetL, dget]) (fun w hw s hs hm => ?_)
  · rw [flatMap_one] at h
    unfold stE at h
    rw [show (some (D.dic true [], Kd.fr)) = some (D.dic true (eGW []), Kd.fr) from rfl, h]
    rw [show daps [] ((allW b).map fun w => (places b w, w)) = groups b (allW b) from rfl]
    have hflat : (eGW (groups b (allW b))).all (fun p => flat p.1) = true := by
      unfold eGW eDL
      rw [List.all_map, List.all_eq_true]
      intro p _
      show flatN 4 (.tup (p.1.map eP)) = true
      rw [flatN_tup]
      exact flt_all eP 3 p.1
    have hkeys : ((eGW (groups b (allW b))).map fun p => (p.1, Kd.st)) = (reps b).map fun u => (eK (places b u), Kd.st) := by
      have : ((eGW (groups b (allW b))).map fun p => (p.1, Kd.st)) = ((eGW (groups b (allW b))).map (·.1)).map fun k => (k, Kd.st) := by rw [List.map_map]; rfl
      rw [this]
      unfold eGW
      rw [eDL_keys, groups_keys, List.map_map, List.map_map]
      rfl
    simp [-flat_eq, f_l_stands_k14_r3, keyO, hflat, hkeys]
    rw [lcF_map (g := fun u : W => (eS (cls b u), .st)) (fun u hu => ?_)]
    · have hne : reps b ≠ [] := List.length_pos_iff.mp (reps_pos b)
      have e1 := jnA_st (fun u : W => eS (cls b u)) (fun a => rfl) (reps b) hne
      have e2 := kdL_lsts (fun u : W => eS (cls b u)) (fun a => rfl) .st (reps b) hne
      simp [e1, e2, stands, Function.comp_def]
    · have hg : getK (eGW (groups b (allW b))) (eK (places b u)) = some (eS (cls b u)) := by
        unfold eGW
        rw [eDL_getK ke_K sW, groups_dget hu]
        rfl
      have hi : p_idx [(.dic true (eGW (groups b (allW b))), .st), (eK (places b u), .st)] = some (eS (cls b u), .st) := by
        show (if keyOk true (eK (places b u)) then (getK (eGW (groups b (allW b))) (eK (places b u))).map fun d => (d, kd d (jn .st .st)) else none) = _
        rw [keyOk_K, hg]
        rfl
      have hfk : flatN 4 (eK (places b u)) = true := by
        show flatN 4 (.tup ((places b u).map eP)) = true
        rw [flatN_tup]
        exact flt_all eP 3 _
      have hkd : ∀ k, kd (eK (places b u)) k = .st := fun k => by unfold kd; rw [flat_eq, hfk]; rfl
      simp [f_l_stands_k14_e2, lcI_nm, hkd, hi]
  · have hs1 : s.length < 16777216 := by simp at hs; omega
    have hm1 : (dgetL s (places b w)).length < 16777216 := by have := hm (places b w); omega
    have hw' := mem_allW.mp hw
    have hi : p_idx [(.dic false (eWP (foundD b)), .st), (.str w, .st)] = some (.lst ((places b w).map eP), .st) := by
      show (if keyOk false (.str w) then (getK (eWP (foundD b)) (.str w)).map fun d => (d, kd d (jn .st .st)) else none) = _
      rw [found_getK hw']
      rfl
    simp [f_l_stands_k14_b1, stE]
    rw [show eGW s = eDL eK sW s from rfl]
    rw [sdApp_eq ke_K sW Z (x := places b w) (v := w) (kk := .st) (kv := .st) rfl rfl rfl (by simp [hi, eK]) (by simp [sW]; rfl) (keyOk_K _) rfl hs1 hm1]
    rfl
theorem run_l_numbers14 (Z : Far) (b : List W) (hb : ∀ t ∈ b, t.length ≤ 120) (hl : b.length ≤ 8) :
    run Z f_l_numbers_k14 [.lst ((stands b).map eS)] = some (.ok (.dic false (eNum b (numK b))) .fr []) := by
  unfold f_l_numbers_k14
  simp
  have hz : (stands b).zipIdx.map (fun a => ((D.tup [D.int (a.2 : Nat), eS a.1], kdT [D.int (a.2 : Nat), eS a.1] (jn (kd (eS a.1) .st) .st)) : D × Kd)) = (stands b).zipIdx.map fun a => (D.tup [D.int (a.2 : Nat), eS a.1], Kd.st) := by
    apply List.map_congr_left
    intro a _
    rfl
  have h := (loopF_fold (body := denSs Z f_l_numbers_k14_b2) (tg := .tp [2, 3]) (ks := [2, 3, 4]) (fun _ (ks : List W) => ks.Nodup ∧ ∀ k ∈ ks, Part b k) (nuE b none none none) (fun a : List W × Nat => ((D.tup [D.int (a.2 : Nat), eS a.1], Kd.st) : D × Kd)) (fun ks a => addKs ks a.1) (stands b).zipIdx [] (ρ := nuE b none none none []) rfl ⟨.nil, fun _ z => nomatch z⟩ (fun i ks a ha hp => ?_)).1
  · unfold nuE at h
    rw [show (some (D.dic false [], Kd.fr)) = some (D.dic false (eNum b []), Kd.fr) from rfl]
    rw [h]
    have hf : ∀ (xs : List (List W)) (n : Nat) (s : List W), (xs.zipIdx n).foldl (fun ks a => addKs ks a.1) s = addKs s xs.flatten := by
      intro xs
      induction xs with
      | nil => intro n s; rfl
      | cons x r ih => intro n s; rw [List.zipIdx_cons, List.foldl_cons, ih, List.flatten_cons, addKs_app]
    rw [hf]
    simp [f_l_numbers_k14_r3]
    rfl
  · obtain ⟨ws, k⟩ := a
    have hk := List.mem_zipIdx_iff_getElem?.mp (List.mem_of_getElem? ha)
    simp only [stands, List.getElem?_map, Option.map_eq_some_iff] at hk
    obtain ⟨u, hu, rfl⟩ := hk
    obtain ⟨hlt, hu2⟩ := List.getElem?_eq_some_iff.mp hu
    have hrep : rep b k = u := by rw [rep_get hlt]; exact hu2
    have hpart : ∀ w ∈ cls b u, Part b w := fun w hw => (mem_cls.mp hw).1
    refine ⟨?_, addKs_nodup_part hp.1 hp.2 hpart, rfl⟩
    simp [f_l_numbers_k14_b2, nuE, eS]
    have hin := (loopF_fold (body := denSs Z f_l_numbers_k14_b1) (tg := .nm 4) (ks := [4]) (fun _ (ks : List W) => ks.Nodup ∧ ∀ k ∈ ks, Part b k) (nuE b (some (.int k, .st)) (some (eS (cls b u), .st)) none) (fun w : W => ((.str w, .st) : D × Kd)) addK (cls b u) ks (ρ := nuE b (some (.int k, .st)) (some (eS (cls b u), .st)) none ks) rfl hp (fun j ks2 w hw hp2 => ?_)).1
    · unfold nuE at hin
      rw [show eS (cls b u) = .lst ((cls b u).map .str) from rfl] at hin
      rw [hin]
      simp
      rfl
    · have hwc := List.mem_of_getElem? hw
      have hnum : num b w = k := num_cls hlt (by rw [hrep]; exact hwc)
      have hsm := keys_small hb hl hp2.1 hp2.2
      have hlen : (eNum b ks2).length < 16777216 := by unfold eNum; rw [List.length_map]; exact hsm
      have hput : putK (eNum b ks2) (.str w) (.int (k : Nat)) = eNum b (addK ks2 w) := by
        have := putK_fn ke_sW (ev := fun w => D.int (num b w : Nat)) ks2 w
        rw [hnum] at this
        exact this
      refine ⟨?_, ⟨nodup_addK hp2.1, fun x hx => (mem_addK.mp hx).elim (hp2.2 x) fun z => z ▸ hpart w hwc⟩, rfl⟩
      simp [f_l_numbers_k14_b1, nuE, hlen, hput]
end Al.B
/-! B16: law k25. -/
namespace Al.B
theorem tail_mapD {α β : Type} (f : α → β) (xs : List α) : (xs.map f).tail = xs.tail.map f := List.map_tail.symm
theorem row_sum (b : List W) : ((tab b).tail.map fun r : Row => ((r.2.1 : Nat) : Int) - ((r.1 : Nat) : Int) + 1).sum = ((allW b).length : Int) - 1 := by
  obtain ⟨r, hr⟩ := reps_cons b
  have h1 := sum_cls b
  have h2 : ∀ us : List W, (∀ u ∈ us, u ∈ reps b) → ((us.map (row b)).map fun r : Row => ((r.2.1 : Nat) : Int) - ((r.1 : Nat) : Int) + 1).sum = (((us.map fun u => (cls b u).length).sum : Nat) : Int) := by
    intro us
    induction us with
    | nil => intro _; rfl
    | cons u t ih =>
      intro h
      simp only [List.map_cons, List.sum_cons, ih fun v hv => h v (List.mem_cons_of_mem _ hv)]
      rw [cls_length (h u List.mem_cons_self)]
      have := rep_le_lng (h u List.mem_cons_self)
      simp only [row]
      omega
  unfold tab
  rw [hr] at h1 ⊢
  simp only [List.map_cons, List.tail_cons]
  rw [h2 r fun u hu => by rw [hr]; exact List.mem_cons_of_mem _ hu]
  have h3 : (cls b []).length = 1 := by
    have := cls_length (b := b) (u := []) (by rw [hr]; simp)
    rw [lng_nil] at this
    simpa using this
  simp only [List.map_cons, List.sum_cons, h3] at h1
  omega
theorem run_unlike (Z : Far) (b : List W) : run Z f_unlike [eT b] = some (.ok (.int (((allW b).length : Int) - 1)) .st []) := by
  unfold f_unlike
  simp [-List.map_tail, eT, tail_mapD]
  rw [lcF_map (g := fun r : Row => (.int (((r.2.1 : Nat) : Int) - ((r.1 : Nat) : Int) + 1), .st)) (fun r _ => by
    rw [lcI_tp (is := [1, 2, 3, 4]) (h := rfl)]
    simp [f_unlike_e1, eRow])]
  have := row_sum b
  simp [-List.map_tail, this, Function.comp_def]
/-- how many parts have so many signs -/
def cnt (b : List W) (n : Int) : Nat := ((allW b).filter fun w => decide ((w.length : Int) = n)).length
theorem cnt_zero (b : List W) : cnt b 0 = 1 := by
  unfold cnt
  have : ((allW b).filter fun w => decide ((w.length : Int) = 0)).Perm [[]] := by
    refine (List.perm_ext_iff_of_nodup ((allW_nodup b).filter _) (by simp)).mpr fun w => ?_
    rw [List.mem_filter, mem_allW, decide_eq_true_eq, List.mem_singleton]
    constructor
    · rintro ⟨_, h⟩; exact List.length_eq_zero_iff.mp (by omega)
    · rintro rfl; exact ⟨part_nil b, rfl⟩
  rw [this.length_eq]
  rfl
theorem cnt_rows (b : List W) (n : Int) (hn : n ≠ 0) : ((tab b).tail.filter fun r : Row => decide ((r.1 : Int) ≤ n) && decide (n ≤ (r.2.1 : Int))).length = cnt b n := by
  unfold cnt
  by_cases h0 : n < 0
  · have e1 : (tab b).tail.filter (fun r : Row => decide ((r.1 : Int) ≤ n) && decide (n ≤ (r.2.1 : Int))) = [] := by
      rw [List.filter_eq_nil_iff]
      intro r _
      simp
      omega
    have e2 : (allW b).filter (fun w => decide ((w.length : Int) = n)) = [] := by
      rw [List.filter_eq_nil_iff]
      intro r _
      simp
      omega
    rw [e1, e2]
    rfl
  · obtain ⟨m, rfl⟩ : ∃ m : Nat, n = m := ⟨n.toNat, by omega⟩
    have h1 := count_len b m
    have e2 : (fun w : W => decide ((w.length : Int) = (m : Int))) = fun w => decide (w.length = m) := by
      funext w; exact decide_eq_decide.mpr (by omega)
    rw [e2, h1]
    obtain ⟨r, hr⟩ := reps_cons b
    unfold tab
    rw [hr]
    simp only [List.map_cons, List.tail_cons]
    rw [List.filter_map, List.length_map, List.filter_cons, if_neg (by rw [lng_nil]; simp; omega)]
    congr 2
    funext u
    simp only [Function.comp, row]
    congr 1 <;> exact decide_eq_decide.mpr (by omega)
theorem v_chain (Z : Far) (ρ : Env) (p q : Pr) {b c : E} (a : E) (hb : b.eff = false) (hc : c.eff = false) : denE Z (.chain p q a b c) ρ = bnd (denE Z a ρ) fun d k ρ1 => bnd (denE Z b ρ1) fun e l ρ2 => match prD p [(d, k), (e, l)] with
    | some (.bl true, _) => bnd (denE Z c ρ2) fun f m ρ3 => match prD q [(e, l), (f, m)] with
      | some (.bl r, _) => some (.ok (.bl r) .st ρ3)
      | _ => none
    | some (.bl false, _) => some (.ok (.bl false) .st ρ2)
    | _ => none := by
  simp only [denE, hb, hc, Bool.or_self, Bool.false_eq_true, if_false] <;> rfl
/-- the end of two comparisons -/
def chnO (x : Option (D × Kd)) (a : Option Out) (b : Option Out) : Option Out := match x with
  | some (.bl true, _) => a
  | some (.bl false, _) => b
  | _ => none
@[simp] theorem chnO_bl (c : Bool) (k : Kd) (a b : Option Out) : chnO (some (.bl c, k)) a b = if c then a else b := by cases c <;> rfl
def blO (x : Option (D × Kd)) (ρ : Env) : Option Out := match x with
  | some (.bl r, _) => some (.ok (.bl r) .st ρ)
  | _ => none
@[simp] theorem blO_bl (c : Bool) (k : Kd) (ρ : Env) : blO (some (.bl c, k)) ρ = some (.ok (.bl c) .st ρ) := id rfl
@[simp] theorem v_chain' (Z : Far) (ρ : Env) (p q : Pr) {b c : E} (a : E) (hb : b.eff = false) (hc : c.eff = false) : denE Z (.chain p q a b c) ρ = bnd (denE Z a ρ) fun d k ρ1 => bnd (denE Z b ρ1) fun e l ρ2 =>
    chnO (prD p [(d, k), (e, l)]) (bnd (denE Z c ρ2) fun f m ρ3 => blO (prD q [(e, l), (f, m)]) ρ3) (some (.ok (.bl false) .st ρ2)) := by
  rw [v_chain Z ρ p q a hb hc]
  rfl
theorem run_counted (Z : Far) (b : List W) (n : Int) : run Z f_counted [eT b, .int n] = some (.ok (.int (cnt b n : Nat)) .st []) := by
  unfold f_counted
  by_cases h : n = 0
  · subst h
    simp [cnt_zero]
  · have := cnt_rows b n h
    simp [-List.map_tail, eT, tail_mapD, h]
    rw [lcF_filt (p := fun r : Row => decide ((r.1 : Int) ≤ n) && decide (n ≤ (r.2.1 : Int))) (g := fun r : Row => (eRow r, .st)) (fun r _ => by
      by_cases h1 : (r.1 : Int) ≤ n <;> by_cases h2 : n ≤ (r.2.1 : Int) <;> simp [f_counted_e1, lcI_nmc, eRow, eOpt_flat, h1, h2])]
    simp [-List.map_tail, this, Function.comp_def]
end Al.B
/-! B16b: law k25. -/
namespace Al.B
/-- a book and all that is made of it -/
theorem setup14 (Z : Far) (ns : List Int) (most : Nat) (hm : most ≤ 100) : ∃ b, Bk b ∧ run Z f_l_book_k13 [.scr ns, .int most] = some (.ok (.lst (b.map .str)) .fr []) ∧
    run Z f_l_places [.lst (b.map .str)] = some (.ok (.dic false (eWP (foundD b))) .fr []) ∧
    run Z f_l_stands_k14 [.dic false (eWP (foundD b))] = some (.ok (.lst ((stands b).map eS)) .st []) ∧
    run Z f_l_numbers_k14 [.lst ((stands b).map eS)] = some (.ok (.dic false (eNum b (numK b))) .fr []) ∧
    run Z f_l_table [.lst ((stands b).map eS), .dic false (eNum b (numK b))] = some (.ok (eT b) .fr []) := by
  obtain ⟨b, e1, hB⟩ := run_book13 Z ns most hm
  have hb : ∀ t ∈ b, t.length ≤ 120 := fun t ht => hB.len ht
  have hl := hB.n
  exact ⟨b, hB, e1, run_l_places Z b hb hl, run_l_stands14 Z b hb hl, run_l_numbers14 Z b hb hl, run_l_table Z b hb hl⟩
theorem addKs_head {α : Type} [DecidableEq α] (x : α) (l xs : List α) : ∃ r, addKs (x :: l) xs = x :: r := by
  induction xs generalizing l with
  | nil => exact ⟨l, rfl⟩
  | cons y r ih =>
    have : ∃ l', addK (x :: l) y = x :: l' := by
      unfold addK
      split
      · exact ⟨l, rfl⟩
      · exact ⟨l ++ [y], rfl⟩
    obtain ⟨l', e⟩ := this
    obtain ⟨r', e'⟩ := ih l'
    exact ⟨r', by rw [show addKs (x :: l) (y :: r) = addKs (addK (x :: l) y) r from rfl, e, e']⟩
theorem found_head (b : List W) : ∃ r, dkeys (foundD b) = [] :: r := by rw [found_keys]; exact addKs_head _ _ _
theorem found_perm (b : List W) : (dkeys (foundD b)).Perm (allW b) := by
  rw [← found_sorted]
  exact (List.mergeSort_perm _ _).symm
theorem foundD_len (b : List W) : (eWP (foundD b)).length = (allW b).length := by
  unfold eWP eDL
  rw [List.length_map, ← dkeys_len, (found_perm b).length_eq]
theorem keyO_found (b : List W) (ρ : Env) : keyO (some (.dic false (eWP (foundD b)), .st)) ρ = some (.ok ((dkeys (foundD b)).map fun w => (.str w, .st)) ρ) := by
  have hflat : (eWP (foundD b)).all (fun p => flat p.1) = true := by
    unfold eWP eDL
    rw [List.all_map, List.all_eq_true]
    intro p _
    rfl
  have hkeys : ((eWP (foundD b)).map fun p => (p.1, Kd.st)) = (dkeys (foundD b)).map fun w => (D.str w, Kd.st) := by
    have : ((eWP (foundD b)).map fun p => (p.1, Kd.st)) = ((eWP (foundD b)).map (·.1)).map fun k => (k, Kd.st) := by rw [List.map_map]; rfl
    rw [this]
    unfold eWP
    rw [eDL_keys, List.map_map]
    rfl
  show (if (eWP (foundD b)).all (fun p => flat p.1) then some (OutL.ok ((eWP (foundD b)).map fun p => (p.1, Kd.st)) ρ) else none) = _
  rw [hflat, hkeys]
  rfl
theorem found_cnt (b : List W) (n : Int) : ((dkeys (foundD b)).filter fun w => decide ((w.length : Int) = n)).length = cnt b n := by
  unfold cnt
  exact ((found_perm b).filter _).length_eq
@[simp] theorem run_is25 (Z : Far) (a c : Int) : run Z f_l_is_k25 [.int a, .int c] = some (.ok (.bl (decide (a = c))) .st []) := by
  unfold f_l_is_k25
  simp
def Z_k25 : Far := fun _ _ => none
def sizeD (b : List W) : D := .lst ((dkeys (foundD b)).map fun w => .int (w.length : Nat))
def l25E (ns : List Int) (b : List W) (n : Option (D × Kd)) : Env := [some (.scr ns, .st), some (.lst (b.map .str), .st), some (.dic false (eWP (foundD b)), .st), some (.lst ((stands b).map eS), .st), some (eT b, .st), some (eT b, .st), some (sizeD b, .st), n, none, none, none]
theorem cnt_far {b : List W} (hB : Bk b) (n : Int) (hn : 120 < n) : cnt b n = 0 := by
  unfold cnt
  rw [List.length_eq_zero_iff, List.filter_eq_nil_iff]
  intro w hw
  have := part_len (mem_allW.mp hw)
  have := hB.t
  simp
  omega
theorem run_k25 (ns : List Int) (hns : ns.length ≤ 63) : ∃ k out, run Z_k25 f_law_k25 [.scr ns] = some (.ok (.bl true) k out) := by
  obtain ⟨b, hB, e1, e2, e3, e4, e5⟩ := setup14 Z_k25 ns 60 (by omega)
  rw [show (((60 : Nat) : Int)) = 60 from rfl] at e1
  have e6 := run_mixed13 Z_k25 ns 300 (by omega)
  have n1 := mixed13_nn ns 300
  have hu := run_unlike Z_k25 b
  have hl := foundD_len b
  obtain ⟨r, hr⟩ := found_head b
  have hm : ∀ k, p_max1 [(sizeD b, k)] = some (.int (((r.map List.length).foldl max 0 : Nat) : Int), .st) := fun k => by
    have := max1_nats (r.map List.length) 0 k
    unfold sizeD
    rw [hr]
    rw [List.map_map] at this
    exact this
  have hmb : (r.map List.length).foldl max 0 ≤ 1000 := by
    have gen : ∀ (ws : List W) (m : Nat), m ≤ 1000 → (∀ w ∈ ws, w.length ≤ 1000) → (ws.map List.length).foldl max m ≤ 1000 := by
      intro ws
      induction ws with
      | nil => intro m h _; exact h
      | cons w t ih =>
        intro m h hw
        rw [List.map_cons, List.foldl_cons]
        have := hw w List.mem_cons_self
        exact ih _ (by omega) fun v hv => hw v (List.mem_cons_of_mem _ hv)
    refine gen r 0 (by omega) fun w hw => ?_
    have := part_len (mem_found.mp (show w ∈ dkeys (foundD b) by rw [hr]; exact List.mem_cons_of_mem _ hw))
    have := hB.t
    omega
  generalize (r.map List.length).foldl max 0 = M at *
  have hM : (M : Int) + 4 ≤ 16777216 ∧ -1000000000 < (M : Int) + 4 := by omega
  have hM2 : ((M : Int) + 4).toNat = M + 4 := by omega
  refine ⟨.st, [], ?_⟩
  unfold f_law_k25
  simp [e1, e2, e3, e4, e5, keyO_found]
  rw [lcF_map (g := fun w : W => (.int (w.length : Nat), .st)) (fun w _ => by simp [f_law_k25_e1, lcI_nm])]
  have hs : D.lst ((dkeys (foundD b)).map fun w => .int (w.length : Nat)) = sizeD b := rfl
  simp [hu, hl, hs, hm, hM, hM2]
  have h := loopF_same (body := denSs Z_k25 f_law_k25_b3) (tg := .nm 7) (ks := [7]) (l25E ns b none) (fun n : Nat => ((.int (n : Nat), .st) : D × Kd)) (List.range (M + 4)) (ρ := l25E ns b none) rfl (fun n hn => ?_)
  · unfold l25E at h
    rw [h]
    have hc := run_counted Z_k25 b (200 + mixed13 ns 300 * 10000000000000000000000000000000000000000000000000)
    have hz := cnt_far hB (200 + mixed13 ns 300 * 10000000000000000000000000000000000000000000000000) (by omega)
    have hb2 : -18446744073709551616 < mixed13 ns 300 ∧ mixed13 ns 300 < 18446744073709551616 := by
      have : mixed13 ns 300 < 2147483563 := by
        unfold mixed13
        have := Int.emod_lt_of_pos (m13c (cell13 ns 300) 300 * m13c (cell13 ns 300) 300) (show (0 : Int) < 2147483563 by decide)
        omega
      omega
    rw [hz] at hc
    have hp : ∀ k l, p_pow [(.int 10, k), (.int 49, l)] = some (.int 10000000000000000000000000000000000000000000000000, .st) := fun k l => by
      show (if (0 : Int) ≤ 49 ∧ (49 : Int) ≤ 100 ∧ (10 : Int).natAbs < 1000 then some (D.int (10 ^ (49 : Int).toNat), Kd.st) else none) = _
      rw [if_pos (by decide)]
      rfl
    have hm2 : ∀ k l, p_mul [(.int (mixed13 ns 300), k), (.int 10000000000000000000000000000000000000000000000000, l)] = some (.int (mixed13 ns 300 * 10000000000000000000000000000000000000000000000000), .st) := fun k l => by
      rw [mul_int, if_pos (.inl hb2)]
    simp [-mul_int, f_law_k25_r4, e6, hp, hm2, hc]
  · have hc := run_counted Z_k25 b n
    have hf := found_cnt b n
    simp [f_law_k25_b3, l25E, hc, sizeD]
    rw [lcF_filt (p := fun w : W => decide ((w.length : Int) = (n : Int))) (g := fun w : W => (.int (w.length : Nat), .st)) (fun w _ => by
      by_cases h : (w.length : Int) = (n : Int) <;> simp [f_law_k25_e2, lcI_nmc, h])]
    simp [hf]
end Al.B
/-! The join of k25. -/
namespace Al
open PySem L2
namespace J_k25
def fns : List (Str × Nat) := [("_law_signs", 63), ("_law_mixed", 62), ("_law_by_mixing", 65), ("_law_by_digits", 64), ("_law_great", 66), ("_law_cell", 61), ("_law_book", 67), ("_law_places", 68), ("_law_by_size", 80), ("_law_stands", 81), ("_law_table", 72), ("_law_numbers", 82), ("_law_is", 121), ("unlike", 119), ("counted", 120), ("law", 122)]
def cst : List (Str × Al.D) := []
def bl : List Str := ["list", "int", "bool", "tuple", "len", "min", "max", "sum", "sorted", "range", "enumerate", "isinstance"]
abbrev top (i : Nat) : Stmt := PySem.Challenge.pw_allparts_k25_how_many_parts.main.body.getD i (.Pass ⟨0, 0, 0, 0⟩)
abbrev s0 : Stmt := top 6
abbrev T0 : Tab := { N := ["_law_cell_here", "_law_start", "_law_step", "_law_k"], fns := fns, mts := [], cls := [], cst := cst, bl := bl }
theorem sc0 : FnScope T0.N ["_law_cell_here"] (defScope s0) := ⟨rfl, rfl, rfl, by decide +kernel, rfl, by decide +kernel, by decide +kernel⟩
theorem ck0 : (chkSs T0 (defScope s0).names f_l_signs.body (defBody s0) && (decide (T0.N.length = 4) && decide ((["_law_cell_here"] : List Str).length = 1))) = true := by decide +kernel
theorem nk0 : nmOk fns "_law_signs" 63 = true := by decide +kernel
abbrev s1 : Stmt := top 5
abbrev T1 : Tab := { N := ["_law_script", "_law_k", "_law_cell_here", "_law_number"], fns := fns, mts := [], cls := [], cst := cst, bl := bl }
theorem sc1 : FnScope T1.N ["_law_script", "_law_k"] (defScope s1) := ⟨rfl, rfl, rfl, by decide +kernel, rfl, by decide +kernel, by decide +kernel⟩
theorem ck1 : (chkSs T1 (defScope s1).names f_l_mixed_k13.body (defBody s1) && (decide (T1.N.length = 4) && decide ((["_law_script", "_law_k"] : List Str).length = 2))) = true := by decide +kernel
theorem nk1 : nmOk fns "_law_mixed" 62 = true := by decide +kernel
abbrev s2 : Stmt := top 8
abbrev T2 : Tab := { N := ["_law_script", "_law_most", "_law_signs_here", "_law_some", "_law_room", "_law_book_here", "_law_k", "_law_size", "_law_back", "_law_text", "_law_j", "_law_number"], fns := fns, mts := [], cls := [], cst := cst, bl := bl }
theorem sc2 : FnScope T2.N ["_law_script", "_law_most"] (defScope s2) := ⟨rfl, rfl, rfl, by decide +kernel, rfl, by decide +kernel, by decide +kernel⟩
theorem ck2 : (chkSs T2 (defScope s2).names f_l_by_mixing.body (defBody s2) && (decide (T2.N.length = 12) && decide ((["_law_script", "_law_most"] : List Str).length = 2))) = true := by decide +kernel
theorem nk2 : nmOk fns "_law_by_mixing" 65 = true := by decide +kernel
abbrev s3 : Stmt := top 7
abbrev T3 : Tab := { N := ["_law_cell_here", "_law_signs_here", "_law_some", "_law_many", "_law_room", "_law_book_here", "_law_k", "_law_size", "_law_text", "_law_j"], fns := fns, mts := [], cls := [], cst := cst, bl := bl }
theorem sc3 : FnScope T3.N ["_law_cell_here"] (defScope s3) := ⟨rfl, rfl, rfl, by decide +kernel, rfl, by decide +kernel, by decide +kernel⟩
theorem ck3 : (chkSs T3 (defScope s3).names f_l_by_digits.body (defBody s3) && (decide (T3.N.length = 10) && decide ((["_law_cell_here"] : List Str).length = 1))) = true := by decide +kernel
theorem nk3 : nmOk fns "_law_by_digits" 64 = true := by decide +kernel
abbrev s4 : Stmt := top 9
abbrev T4 : Tab := { N := ["_law_script", "_law_signs_here", "_law_text", "_law_at"], fns := fns, mts := [], cls := [], cst := cst, bl := bl }
theorem sc4 : FnScope T4.N ["_law_script"] (defScope s4) := ⟨rfl, rfl, rfl, by decide +kernel, rfl, by decide +kernel, by decide +kernel⟩
theorem ck4 : (chkSs T4 (defScope s4).names f_l_great.body (defBody s4) && (decide (T4.N.length = 4) && decide ((["_law_script"] : List Str).length = 1))) = true := by decide +kernel
theorem nk4 : nmOk fns "_law_great" 66 = true := by decide +kernel
abbrev s5 : Stmt := top 4
abbrev T5 : Tab := { N := ["_law_script", "_law_k"], fns := fns, mts := [], cls := [], cst := cst, bl := bl }
theorem sc5 : FnScope T5.N ["_law_script", "_law_k"] (defScope s5) := ⟨rfl, rfl, rfl, by decide +kernel, rfl, by decide +kernel, by decide +kernel⟩
theorem ck5 : (chkSs T5 (defScope s5).names f_l_cell.body (defBody s5) && (decide (T5.N.length = 2) && decide ((["_law_script", "_law_k"] : List Str).length = 2))) = true := by decide +kernel
theorem nk5 : nmOk fns "_law_cell" 61 = true := by decide +kernel
abbrev s6 : Stmt := top 10
abbrev T6 : Tab := { N := ["_law_script", "_law_most"], fns := fns, mts := [], cls := [], cst := cst, bl := bl }
theorem sc6 : FnScope T6.N ["_law_script", "_law_most"] (defScope s6) := ⟨rfl, rfl, rfl, by decide +kernel, rfl, by decide +kernel, by decide +kernel⟩
theorem ck6 : (chkSs T6 (defScope s6).names f_l_book_k13.body (defBody s6) && (decide (T6.N.length = 2) && decide ((["_law_script", "_law_most"] : List Str).length = 2))) = true := by decide +kernel
theorem nk6 : nmOk fns "_law_book" 67 = true := by decide +kernel
abbrev s7 : Stmt := top 11
abbrev T7 : Tab := { N := ["_law_book_here", "_law_found", "_law_number", "_law_text", "_law_end", "_law_start"], fns := fns, mts := [], cls := [], cst := cst, bl := bl }
theorem sc7 : FnScope T7.N ["_law_book_here"] (defScope s7) := ⟨rfl, rfl, rfl, by decide +kernel, rfl, by decide +kernel, by decide +kernel⟩
theorem ck7 : (chkSs T7 (defScope s7).names f_l_places.body (defBody s7) && (decide (T7.N.length = 6) && decide ((["_law_book_here"] : List Str).length = 1))) = true := by decide +kernel
theorem nk7 : nmOk fns "_law_places" 68 = true := by decide +kernel
abbrev s8 : Stmt := top 12
abbrev T8 : Tab := { N := ["_law_word"], fns := fns, mts := [], cls := [], cst := cst, bl := bl }
theorem sc8 : FnScope T8.N ["_law_word"] (defScope s8) := ⟨rfl, rfl, rfl, by decide +kernel, rfl, by decide +kernel, by decide +kernel⟩
theorem ck8 : (chkSs T8 (defScope s8).names f_l_by_size_k14.body (defBody s8) && (decide (T8.N.length = 1) && decide ((["_law_word"] : List Str).length = 1))) = true := by decide +kernel
theorem nk8 : nmOk fns "_law_by_size" 80 = true := by decide +kernel
abbrev s9 : Stmt := top 13
abbrev T9 : Tab := { N := ["_law_found", "_law_groups", "_law_word", "_law_some"], fns := fns, mts := [], cls := [], cst := cst, bl := bl }
theorem sc9 : FnScope T9.N ["_law_found"] (defScope s9) := ⟨rfl, rfl, rfl, by decide +kernel, rfl, by decide +kernel, by decide +kernel⟩
theorem ck9 : (chkSs T9 (defScope s9).names f_l_stands_k14.body (defBody s9) && (decide (T9.N.length = 4) && decide ((["_law_found"] : List Str).length = 1))) = true := by decide +kernel
theorem nk9 : nmOk fns "_law_stands" 81 = true := by decide +kernel
abbrev s10 : Stmt := top 15
abbrev T10 : Tab := { N := ["_law_stands_here", "_law_numbers_here", "_law_table_here", "_law_some", "_law_ways", "_law_sign", "_law_link"], fns := fns, mts := [], cls := [], cst := cst, bl := bl }
theorem sc10 : FnScope T10.N ["_law_stands_here", "_law_numbers_here"] (defScope s10) := ⟨rfl, rfl, rfl, by decide +kernel, rfl, by decide +kernel, by decide +kernel⟩
theorem ck10 : (chkSs T10 (defScope s10).names f_l_table.body (defBody s10) && (decide (T10.N.length = 7) && decide ((["_law_stands_here", "_law_numbers_here"] : List Str).length = 2))) = true := by decide +kernel
theorem nk10 : nmOk fns "_law_table" 72 = true := by decide +kernel
abbrev s11 : Stmt := top 14
abbrev T11 : Tab := { N := ["_law_stands_here", "_law_numbers_here", "_law_k", "_law_some", "_law_word"], fns := fns, mts := [], cls := [], cst := cst, bl := bl }
theorem sc11 : FnScope T11.N ["_law_stands_here"] (defScope s11) := ⟨rfl, rfl, rfl, by decide +kernel, rfl, by decide +kernel, by decide +kernel⟩
theorem ck11 : (chkSs T11 (defScope s11).names f_l_numbers_k14.body (defBody s11) && (decide (T11.N.length = 5) && decide ((["_law_stands_here"] : List Str).length = 1))) = true := by decide +kernel
theorem nk11 : nmOk fns "_law_numbers" 82 = true := by decide +kernel
abbrev s12 : Stmt := top 16
abbrev T12 : Tab := { N := ["_law_found", "_law_due"], fns := fns, mts := [], cls := [], cst := cst, bl := bl }
theorem sc12 : FnScope T12.N ["_law_found", "_law_due"] (defScope s12) := ⟨rfl, rfl, rfl, by decide +kernel, rfl, by decide +kernel, by decide +kernel⟩
theorem ck12 : (chkSs T12 (defScope s12).names f_l_is_k25.body (defBody s12) && (decide (T12.N.length = 2) && decide ((["_law_found", "_law_due"] : List Str).length = 2))) = true := by decide +kernel
theorem nk12 : nmOk fns "_law_is" 121 = true := by decide +kernel
abbrev s13 : Stmt := top 1
abbrev T13 : Tab := { N := ["table", "short", "long", "link", "ways"], fns := fns, mts := [], cls := [], cst := cst, bl := bl }
theorem sc13 : FnScope T13.N ["table"] (defScope s13) := ⟨rfl, rfl, rfl, by decide +kernel, rfl, by decide +kernel, by decide +kernel⟩
theorem ck13 : (chkSs T13 (defScope s13).names f_unlike.body (defBody s13) && (decide (T13.N.length = 5) && decide ((["table"] : List Str).length = 1))) = true := by decide +kernel
theorem nk13 : nmOk fns "unlike" 119 = true := by decide +kernel
abbrev s14 : Stmt := top 2
abbrev T14 : Tab := { N := ["table", "long", "row"], fns := fns, mts := [], cls := [], cst := cst, bl := bl }
theorem sc14 : FnScope T14.N ["table", "long"] (defScope s14) := ⟨rfl, rfl, rfl, by decide +kernel, rfl, by decide +kernel, by decide +kernel⟩
theorem ck14 : (chkSs T14 (defScope s14).names f_counted.body (defBody s14) && (decide (T14.N.length = 3) && decide ((["table", "long"] : List Str).length = 2))) = true := by decide +kernel
theorem nk14 : nmOk fns "counted" 120 = true := by decide +kernel
abbrev s15 : Stmt := top 17
abbrev T15 : Tab := { N := ["_law_script", "_law_book_here", "_law_found", "_law_stands_here", "_law_table_here", "_law_handed", "_law_sizes", "_law_long", "_law_far", "_law_word", "_law_size"], fns := fns, mts := [], cls := [], cst := cst, bl := bl }
theorem sc15 : FnScope T15.N ["_law_script"] (defScope s15) := ⟨rfl, rfl, rfl, by decide +kernel, rfl, by decide +kernel, by decide +kernel⟩
theorem ck15 : (chkSs T15 (defScope s15).names f_law_k25.body (defBody s15) && (decide (T15.N.length = 11) && decide ((["_law_script"] : List Str).length = 1))) = true := by decide +kernel
theorem nk15 : nmOk fns "law" 122 = true := by decide +kernel
theorem all_mk {Z : Far} {l : PySem.W.OpenLaw} {w : World} {K : PySem.W.Frag} {h : Heap} {mg : Str → Option Value} {fa : Addr} (X : K.In h) (G : h.Ns mainGlobals mg) (hfa : mg "law" = some (.ref fa))
    {f0 f1 f2 f3 f4 f5 f6 f7 f8 f9 f10 f11 f12 f13 f14 f15 : Addr} {od0 an0 od1 an1 od2 an2 od3 an3 od4 an4 od5 an5 od6 an6 od7 an7 od8 an8 od9 an9 od10 an10 od11 an11 od12 an12 od13 an13 od14 an14 od15 an15 : Option Addr} {sl0 sl1 sl2 sl3 sl4 sl5 sl6 sl7 sl8 sl9 sl10 sl11 sl12 sl13 sl14 sl15 : Array (Option Value)} {oc0 kV0 dc0 pm0 cd0 ct0 oc1 kV1 dc1 pm1 cd1 ct1 oc2 kV2 dc2 pm2 cd2 ct2 oc3 kV3 dc3 pm3 cd3 ct3 oc4 kV4 dc4 pm4 cd4 ct4 oc5 kV5 dc5 pm5 cd5 ct5 oc6 kV6 dc6 pm6 cd6 ct6 oc7 kV7 dc7 pm7 cd7 ct7 oc8 kV8 dc8 pm8 cd8 ct8 oc9 kV9 dc9 pm9 cd9 ct9 oc10 kV10 dc10 pm10 cd10 ct10 oc11 kV11 dc11 pm11 cd11 ct11 oc12 kV12 dc12 pm12 cd12 ct12 oc13 kV13 dc13 pm13 cd13 ct13 oc14 kV14 dc14 pm14 cd14 ct14 oc15 kV15 dc15 pm15 cd15 ct15 : Value}
    (a0 : PySem.W.nsIn K mainGlobals "_law_signs" = some (some (.ref f0))) (l0 : K.lookup f0 = some ⟨oc0, od0, .func (PySem.W.fnOf "_law_signs" "_law_signs" (defArgs s0) (defBody s0) (defScope s0) .none kV0 dc0 pm0 an0 cd0 ct0), sl0⟩) (c0 : PySem.W.codeIn K cd0 "_law_signs" = true) (k0 : PySem.W.keepIn K (.ref f0) = true)
    (a1 : PySem.W.nsIn K mainGlobals "_law_mixed" = some (some (.ref f1))) (l1 : K.lookup f1 = some ⟨oc1, od1, .func (PySem.W.fnOf "_law_mixed" "_law_mixed" (defArgs s1) (defBody s1) (defScope s1) .none kV1 dc1 pm1 an1 cd1 ct1), sl1⟩) (c1 : PySem.W.codeIn K cd1 "_law_mixed" = true) (k1 : PySem.W.keepIn K (.ref f1) = true)
    (a2 : PySem.W.nsIn K mainGlobals "_law_by_mixing" = some (some (.ref f2))) (l2 : K.lookup f2 = some ⟨oc2, od2, .func (PySem.W.fnOf "_law_by_mixing" "_law_by_mixing" (defArgs s2) (defBody s2) (defScope s2) .none kV2 dc2 pm2 an2 cd2 ct2), sl2⟩) (c2 : PySem.W.codeIn K cd2 "_law_by_mixing" = true) (k2 : PySem.W.keepIn K (.ref f2) = true)
    (a3 : PySem.W.nsIn K mainGlobals "_law_by_digits" = some (some (.ref f3))) (l3 : K.lookup f3 = some ⟨oc3, od3, .func (PySem.W.fnOf "_law_by_digits" "_law_by_digits" (defArgs s3) (defBody s3) (defScope s3) .none kV3 dc3 pm3 an3 cd3 ct3), sl3⟩) (c3 : PySem.W.codeIn K cd3 "_law_by_digits" = true) (k3 : PySem.W.keepIn K (.ref f3) = true)
    (a4 : PySem.W.nsIn K mainGlobals "_law_great" = some (some (.ref f4))) (l4 : K.lookup f4 = some ⟨oc4, od4, .func (PySem.W.fnOf "_law_great" "_law_great" (defArgs s4) (defBody s4) (defScope s4) .none kV4 dc4 pm4 an4 cd4 ct4), sl4⟩) (c4 : PySem.W.codeIn K cd4 "_law_great" = true) (k4 : PySem.W.keepIn K (.ref f4) = true)
    (a5 : PySem.W.nsIn K mainGlobals "_law_cell" = some (some (.ref f5))) (l5 : K.lookup f5 = some ⟨oc5, od5, .func (PySem.W.fnOf "_law_cell" "_law_cell" (defArgs s5) (defBody s5) (defScope s5) .none kV5 dc5 pm5 an5 cd5 ct5), sl5⟩) (c5 : PySem.W.codeIn K cd5 "_law_cell" = true) (k5 : PySem.W.keepIn K (.ref f5) = true)
    (a6 : PySem.W.nsIn K mainGlobals "_law_book" = some (some (.ref f6))) (l6 : K.lookup f6 = some ⟨oc6, od6, .func (PySem.W.fnOf "_law_book" "_law_book" (defArgs s6) (defBody s6) (defScope s6) .none kV6 dc6 pm6 an6 cd6 ct6), sl6⟩) (c6 : PySem.W.codeIn K cd6 "_law_book" = true) (k6 : PySem.W.keepIn K (.ref f6) = true)
    (a7 : PySem.W.nsIn K mainGlobals "_law_places" = some (some (.ref f7))) (l7 : K.lookup f7 = some ⟨oc7, od7, .func (PySem.W.fnOf "_law_places" "_law_places" (defArgs s7) (defBody s7) (defScope s7) .none kV7 dc7 pm7 an7 cd7 ct7), sl7⟩) (c7 : PySem.W.codeIn K cd7 "_law_places" = true) (k7 : PySem.W.keepIn K (.ref f7) = true)
    (a8 : PySem.W.nsIn K mainGlobals "_law_by_size" = some (some (.ref f8))) (l8 : K.lookup f8 = some ⟨oc8, od8, .func (PySem.W.fnOf "_law_by_size" "_law_by_size" (defArgs s8) (defBody s8) (defScope s8) .none kV8 dc8 pm8 an8 cd8 ct8), sl8⟩) (c8 : PySem.W.codeIn K cd8 "_law_by_size" = true) (k8 : PySem.W.keepIn K (.ref f8) = true)
    (a9 : PySem.W.nsIn K mainGlobals "_law_stands" = some (some (.ref f9))) (l9 : K.lookup f9 = some ⟨oc9, od9, .func (PySem.W.fnOf "_law_stands" "_law_stands" (defArgs s9) (defBody s9) (defScope s9) .none kV9 dc9 pm9 an9 cd9 ct9), sl9⟩) (c9 : PySem.W.codeIn K cd9 "_law_stands" = true) (k9 : PySem.W.keepIn K (.ref f9) = true)
    (a10 : PySem.W.nsIn K mainGlobals "_law_table" = some (some (.ref f10))) (l10 : K.lookup f10 = some ⟨oc10, od10, .func (PySem.W.fnOf "_law_table" "_law_table" (defArgs s10) (defBody s10) (defScope s10) .none kV10 dc10 pm10 an10 cd10 ct10), sl10⟩) (c10 : PySem.W.codeIn K cd10 "_law_table" = true) (k10 : PySem.W.keepIn K (.ref f10) = true)
    (a11 : PySem.W.nsIn K mainGlobals "_law_numbers" = some (some (.ref f11))) (l11 : K.lookup f11 = some ⟨oc11, od11, .func (PySem.W.fnOf "_law_numbers" "_law_numbers" (defArgs s11) (defBody s11) (defScope s11) .none kV11 dc11 pm11 an11 cd11 ct11), sl11⟩) (c11 : PySem.W.codeIn K cd11 "_law_numbers" = true) (k11 : PySem.W.keepIn K (.ref f11) = true)
    (a12 : PySem.W.nsIn K mainGlobals "_law_is" = some (some (.ref f12))) (l12 : K.lookup f12 = some ⟨oc12, od12, .func (PySem.W.fnOf "_law_is" "_law_is" (defArgs s12) (defBody s12) (defScope s12) .none kV12 dc12 pm12 an12 cd12 ct12), sl12⟩) (c12 : PySem.W.codeIn K cd12 "_law_is" = true) (k12 : PySem.W.keepIn K (.ref f12) = true)
    (a13 : PySem.W.nsIn K mainGlobals "unlike" = some (some (.ref f13))) (l13 : K.lookup f13 = some ⟨oc13, od13, .func (PySem.W.fnOf "unlike" "unlike" (defArgs s13) (defBody s13) (defScope s13) .none kV13 dc13 pm13 an13 cd13 ct13), sl13⟩) (c13 : PySem.W.codeIn K cd13 "unlike" = true) (k13 : PySem.W.keepIn K (.ref f13) = true)
    (a14 : PySem.W.nsIn K mainGlobals "counted" = some (some (.ref f14))) (l14 : K.lookup f14 = some ⟨oc14, od14, .func (PySem.W.fnOf "counted" "counted" (defArgs s14) (defBody s14) (defScope s14) .none kV14 dc14 pm14 an14 cd14 ct14), sl14⟩) (c14 : PySem.W.codeIn K cd14 "counted" = true) (k14 : PySem.W.keepIn K (.ref f14) = true)
    (a15 : PySem.W.nsIn K mainGlobals "law" = some (some (.ref f15))) (l15 : K.lookup f15 = some ⟨oc15, od15, .func (PySem.W.fnOf "law" "law" (defArgs s15) (defBody s15) (defScope s15) .none kV15 dc15 pm15 an15 cd15 ct15), sl15⟩) (c15 : PySem.W.codeIn K cd15 "law" = true) (k15 : PySem.W.keepIn K (.ref f15) = true)
    (z0 : PySem.W.nsIn K mainGlobals "list" = some none)
    (z1 : PySem.W.nsIn K mainGlobals "int" = some none)
    (z2 : PySem.W.nsIn K mainGlobals "bool" = some none)
    (z3 : PySem.W.nsIn K mainGlobals "tuple" = some none)
    (z4 : PySem.W.nsIn K mainGlobals "len" = some none)
    (z5 : PySem.W.nsIn K mainGlobals "min" = some none)
    (z6 : PySem.W.nsIn K mainGlobals "max" = some none)
    (z7 : PySem.W.nsIn K mainGlobals "sum" = some none)
    (z8 : PySem.W.nsIn K mainGlobals "sorted" = some none)
    (z9 : PySem.W.nsIn K mainGlobals "range" = some none)
    (z10 : PySem.W.nsIn K mainGlobals "enumerate" = some none)
    (z11 : PySem.W.nsIn K mainGlobals "isinstance" = some none)
    : ∃ fd : FuncData, (∀ (s : Shared) (v : Value), BindsTo s fd ⟨[v], []⟩ [("_law_script", v)]) ∧ ∀ base : Heap, K.In base → base.Ns mainGlobals mg → FnOk l.prog w K mg base CX0 32 fa fd ["_law_script"] (spFn w K (fun _ => 0) Z f_law_k25) := by
  have e := hfa.symm.trans (PySem.W.mg_of X G a15)
  cases e
  have F0 := fun_mk (st := s0) l0 c0 k0
  have b0 := F0.binds (ps := ["_law_cell_here"]) fun _ _ _ _ _ _ us hl => match us, hl with | [_], _ => rfl
  have F1 := fun_mk (st := s1) l1 c1 k1
  have b1 := F1.binds (ps := ["_law_script", "_law_k"]) fun _ _ _ _ _ _ us hl => match us, hl with | [_, _], _ => rfl
  have F2 := fun_mk (st := s2) l2 c2 k2
  have b2 := F2.binds (ps := ["_law_script", "_law_most"]) fun _ _ _ _ _ _ us hl => match us, hl with | [_, _], _ => rfl
  have F3 := fun_mk (st := s3) l3 c3 k3
  have b3 := F3.binds (ps := ["_law_cell_here"]) fun _ _ _ _ _ _ us hl => match us, hl with | [_], _ => rfl
  have F4 := fun_mk (st := s4) l4 c4 k4
  have b4 := F4.binds (ps := ["_law_script"]) fun _ _ _ _ _ _ us hl => match us, hl with | [_], _ => rfl
  have F5 := fun_mk (st := s5) l5 c5 k5
  have b5 := F5.binds (ps := ["_law_script", "_law_k"]) fun _ _ _ _ _ _ us hl => match us, hl with | [_, _], _ => rfl
  have F6 := fun_mk (st := s6) l6 c6 k6
  have b6 := F6.binds (ps := ["_law_script", "_law_most"]) fun _ _ _ _ _ _ us hl => match us, hl with | [_, _], _ => rfl
  have F7 := fun_mk (st := s7) l7 c7 k7
  have b7 := F7.binds (ps := ["_law_book_here"]) fun _ _ _ _ _ _ us hl => match us, hl with | [_], _ => rfl
  have F8 := fun_mk (st := s8) l8 c8 k8
  have b8 := F8.binds (ps := ["_law_word"]) fun _ _ _ _ _ _ us hl => match us, hl with | [_], _ => rfl
  have F9 := fun_mk (st := s9) l9 c9 k9
  have b9 := F9.binds (ps := ["_law_found"]) fun _ _ _ _ _ _ us hl => match us, hl with | [_], _ => rfl
  have F10 := fun_mk (st := s10) l10 c10 k10
  have b10 := F10.binds (ps := ["_law_stands_here", "_law_numbers_here"]) fun _ _ _ _ _ _ us hl => match us, hl with | [_, _], _ => rfl
  have F11 := fun_mk (st := s11) l11 c11 k11
  have b11 := F11.binds (ps := ["_law_stands_here"]) fun _ _ _ _ _ _ us hl => match us, hl with | [_], _ => rfl
  have F12 := fun_mk (st := s12) l12 c12 k12
  have b12 := F12.binds (ps := ["_law_found", "_law_due"]) fun _ _ _ _ _ _ us hl => match us, hl with | [_, _], _ => rfl
  have F13 := fun_mk (st := s13) l13 c13 k13
  have b13 := F13.binds (ps := ["table"]) fun _ _ _ _ _ _ us hl => match us, hl with | [_], _ => rfl
  have F14 := fun_mk (st := s14) l14 c14 k14
  have b14 := F14.binds (ps := ["table", "long"]) fun _ _ _ _ _ _ us hl => match us, hl with | [_, _], _ => rfl
  have F15 := fun_mk (st := s15) l15 c15 k15
  have b15 := F15.binds (ps := ["_law_script"]) fun _ _ _ _ _ _ us hl => match us, hl with | [_], _ => rfl
  refine ⟨PySem.W.fnOf "law" "law" (defArgs s15) (defBody s15) (defScope s15) .none kV15 dc15 pm15 an15 cd15 ct15, fun s v => .of_eq rfl, fun base _ _ => ?_⟩
  let wd : Wd := { prog := l.prog, w := w, K := K, mg := mg, base := base, cad := fun _ => 0, Z := Z }
  have hB : ∀ x ∈ bl, wd.mg x = none := by
    intro x hx
    simp only [bl, List.mem_cons, List.not_mem_nil, or_false] at hx
    rcases hx with rfl | rfl | rfl | rfl | rfl | rfl | rfl | rfl | rfl | rfl | rfl | rfl
    · exact PySem.W.mg_none_of X G z0
    · exact PySem.W.mg_none_of X G z1
    · exact PySem.W.mg_none_of X G z2
    · exact PySem.W.mg_none_of X G z3
    · exact PySem.W.mg_none_of X G z4
    · exact PySem.W.mg_none_of X G z5
    · exact PySem.W.mg_none_of X G z6
    · exact PySem.W.mg_none_of X G z7
    · exact PySem.W.mg_none_of X G z8
    · exact PySem.W.mg_none_of X G z9
    · exact PySem.W.mg_none_of X G z10
    · exact PySem.W.mg_none_of X G z11
  have hC : ∀ p ∈ cst, ∃ u v, wd.mg p.1 = some u ∧ RelV v u ∧ Atom v p.2 := by
    intro p hp
    simp only [cst, List.mem_cons, List.not_mem_nil, or_false] at hp
  have g0 : FnOk wd.prog wd.w wd.K wd.mg wd.base CX0 2 f0 _ ["_law_cell_here"] (spFn wd.w wd.K wd.cad wd.Z f_l_signs) := fn0_ok (T := T0) F0 sc0 ⟨hB, hC, fun z => by cases z⟩ (by repeat' first | exact True.intro | refine And.intro ?_ ?_) ck0
  have p0 : PF wd T0 2 f_l_signs := pf_of (x := "_law_signs") nk0 ⟨_, _, _, 2, g0, by decide, PySem.W.mg_of X G a0, k0, b0⟩
  have g1 : FnOk wd.prog wd.w wd.K wd.mg wd.base CX0 4 f1 _ ["_law_script", "_law_k"] (spFn wd.w wd.K wd.cad wd.Z f_l_mixed_k13) := fn0_ok (T := T1) F1 sc1 ⟨hB, hC, fun z => by cases z⟩ (by repeat' first | exact True.intro | refine And.intro ?_ ?_) ck1
  have p1 : PF wd T0 4 f_l_mixed_k13 := pf_of (x := "_law_mixed") nk1 ⟨_, _, _, 4, g1, by decide, PySem.W.mg_of X G a1, k1, b1⟩
  have g2 : FnOk wd.prog wd.w wd.K wd.mg wd.base CX0 6 f2 _ ["_law_script", "_law_most"] (spFn wd.w wd.K wd.cad wd.Z f_l_by_mixing) := fn0_ok (T := T2) F2 sc2 ⟨hB, hC, fun z => by cases z⟩ (by repeat' first | exact True.intro | exact p0.le (by decide) | exact p1.le (by decide) | refine And.intro ?_ ?_) ck2
  have p2 : PF wd T0 6 f_l_by_mixing := pf_of (x := "_law_by_mixing") nk2 ⟨_, _, _, 6, g2, by decide, PySem.W.mg_of X G a2, k2, b2⟩
  have g3 : FnOk wd.prog wd.w wd.K wd.mg wd.base CX0 8 f3 _ ["_law_cell_here"] (spFn wd.w wd.K wd.cad wd.Z f_l_by_digits) := fn0_ok (T := T3) F3 sc3 ⟨hB, hC, fun z => by cases z⟩ (by repeat' first | exact True.intro | exact p0.le (by decide) | refine And.intro ?_ ?_) ck3
  have p3 : PF wd T0 8 f_l_by_digits := pf_of (x := "_law_by_digits") nk3 ⟨_, _, _, 8, g3, by decide, PySem.W.mg_of X G a3, k3, b3⟩
  have g4 : FnOk wd.prog wd.w wd.K wd.mg wd.base CX0 10 f4 _ ["_law_script"] (spFn wd.w wd.K wd.cad wd.Z f_l_great) := fn0_ok (T := T4) F4 sc4 ⟨hB, hC, fun z => by cases z⟩ (by repeat' first | exact True.intro | exact p0.le (by decide) | exact p1.le (by decide) | refine And.intro ?_ ?_) ck4
  have p4 : PF wd T0 10 f_l_great := pf_of (x := "_law_great") nk4 ⟨_, _, _, 10, g4, by decide, PySem.W.mg_of X G a4, k4, b4⟩
  have g5 : FnOk wd.prog wd.w wd.K wd.mg wd.base CX0 12 f5 _ ["_law_script", "_law_k"] (spFn wd.w wd.K wd.cad wd.Z f_l_cell) := fn0_ok (T := T5) F5 sc5 ⟨hB, hC, fun z => by cases z⟩ (by repeat' first | exact True.intro | refine And.intro ?_ ?_) ck5
  have p5 : PF wd T0 12 f_l_cell := pf_of (x := "_law_cell") nk5 ⟨_, _, _, 12, g5, by decide, PySem.W.mg_of X G a5, k5, b5⟩
  have g6 : FnOk wd.prog wd.w wd.K wd.mg wd.base CX0 14 f6 _ ["_law_script", "_law_most"] (spFn wd.w wd.K wd.cad wd.Z f_l_book_k13) := fn0_ok (T := T6) F6 sc6 ⟨hB, hC, fun z => by cases z⟩ (by repeat' first | exact True.intro | exact p2.le (by decide) | exact p3.le (by decide) | exact p4.le (by decide) | exact p5.le (by decide) | exact p1.le (by decide) | refine And.intro ?_ ?_) ck6
  have p6 : PF wd T0 14 f_l_book_k13 := pf_of (x := "_law_book") nk6 ⟨_, _, _, 14, g6, by decide, PySem.W.mg_of X G a6, k6, b6⟩
  have g7 : FnOk wd.prog wd.w wd.K wd.mg wd.base CX0 16 f7 _ ["_law_book_here"] (spFn wd.w wd.K wd.cad wd.Z f_l_places) := fn0_ok (T := T7) F7 sc7 ⟨hB, hC, fun z => by cases z⟩ (by repeat' first | exact True.intro | refine And.intro ?_ ?_) ck7
  have p7 : PF wd T0 16 f_l_places := pf_of (x := "_law_places") nk7 ⟨_, _, _, 16, g7, by decide, PySem.W.mg_of X G a7, k7, b7⟩
  have g8 : FnOk wd.prog wd.w wd.K wd.mg wd.base CX0 18 f8 _ ["_law_word"] (spFn wd.w wd.K wd.cad wd.Z f_l_by_size_k14) := fn0_ok (T := T8) F8 sc8 ⟨hB, hC, fun z => by cases z⟩ (by repeat' first | exact True.intro | refine And.intro ?_ ?_) ck8
  have p8 : PF wd T0 18 f_l_by_size_k14 := pf_of (x := "_law_by_size") nk8 ⟨_, _, _, 18, g8, by decide, PySem.W.mg_of X G a8, k8, b8⟩
  have g9 : FnOk wd.prog wd.w wd.K wd.mg wd.base CX0 20 f9 _ ["_law_found"] (spFn wd.w wd.K wd.cad wd.Z f_l_stands_k14) := fn0_ok (T := T9) F9 sc9 ⟨hB, hC, fun z => by cases z⟩ (by repeat' first | exact True.intro | exact p8.le (by decide) | refine And.intro ?_ ?_) ck9
  have p9 : PF wd T0 20 f_l_stands_k14 := pf_of (x := "_law_stands") nk9 ⟨_, _, _, 20, g9, by decide, PySem.W.mg_of X G a9, k9, b9⟩
  have g10 : FnOk wd.prog wd.w wd.K wd.mg wd.base CX0 22 f10 _ ["_law_stands_here", "_law_numbers_here"] (spFn wd.w wd.K wd.cad wd.Z f_l_table) := fn0_ok (T := T10) F10 sc10 ⟨hB, hC, fun z => by cases z⟩ (by repeat' first | exact True.intro | refine And.intro ?_ ?_) ck10
  have p10 : PF wd T0 22 f_l_table := pf_of (x := "_law_table") nk10 ⟨_, _, _, 22, g10, by decide, PySem.W.mg_of X G a10, k10, b10⟩
  have g11 : FnOk wd.prog wd.w wd.K wd.mg wd.base CX0 24 f11 _ ["_law_stands_here"] (spFn wd.w wd.K wd.cad wd.Z f_l_numbers_k14) := fn0_ok (T := T11) F11 sc11 ⟨hB, hC, fun z => by cases z⟩ (by repeat' first | exact True.intro | refine And.intro ?_ ?_) ck11
  have p11 : PF wd T0 24 f_l_numbers_k14 := pf_of (x := "_law_numbers") nk11 ⟨_, _, _, 24, g11, by decide, PySem.W.mg_of X G a11, k11, b11⟩
  have g12 : FnOk wd.prog wd.w wd.K wd.mg wd.base CX0 26 f12 _ ["_law_found", "_law_due"] (spFn wd.w wd.K wd.cad wd.Z f_l_is_k25) := fn0_ok (T := T12) F12 sc12 ⟨hB, hC, fun z => by cases z⟩ (by repeat' first | exact True.intro | refine And.intro ?_ ?_) ck12
  have p12 : PF wd T0 26 f_l_is_k25 := pf_of (x := "_law_is") nk12 ⟨_, _, _, 26, g12, by decide, PySem.W.mg_of X G a12, k12, b12⟩
  have g13 : FnOk wd.prog wd.w wd.K wd.mg wd.base CX0 28 f13 _ ["table"] (spFn wd.w wd.K wd.cad wd.Z f_unlike) := fn0_ok (T := T13) F13 sc13 ⟨hB, hC, fun z => by cases z⟩ (by repeat' first | exact True.intro | refine And.intro ?_ ?_) ck13
  have p13 : PF wd T0 28 f_unlike := pf_of (x := "unlike") nk13 ⟨_, _, _, 28, g13, by decide, PySem.W.mg_of X G a13, k13, b13⟩
  have g14 : FnOk wd.prog wd.w wd.K wd.mg wd.base CX0 30 f14 _ ["table", "long"] (spFn wd.w wd.K wd.cad wd.Z f_counted) := fn0_ok (T := T14) F14 sc14 ⟨hB, hC, fun z => by cases z⟩ (by repeat' first | exact True.intro | refine And.intro ?_ ?_) ck14
  have p14 : PF wd T0 30 f_counted := pf_of (x := "counted") nk14 ⟨_, _, _, 30, g14, by decide, PySem.W.mg_of X G a14, k14, b14⟩
  have g15 : FnOk wd.prog wd.w wd.K wd.mg wd.base CX0 32 fa _ ["_law_script"] (spFn wd.w wd.K wd.cad wd.Z f_law_k25) := fn0_ok (T := T15) F15 sc15 ⟨hB, hC, fun z => by cases z⟩ (by repeat' first | exact True.intro | exact p6.le (by decide) | exact p7.le (by decide) | exact p9.le (by decide) | exact p10.le (by decide) | exact p11.le (by decide) | exact p12.le (by decide) | exact p13.le (by decide) | exact p1.le (by decide) | exact p14.le (by decide) | refine And.intro ?_ ?_) ck15
  have p15 : PF wd T0 32 f_law_k25 := pf_of (x := "law") nk15 ⟨_, _, _, 32, g15, by decide, PySem.W.mg_of X G a15, k15, b15⟩
  exact g15
end J_k25
end Al
open PySem PySem.W PyProof.Rows
set_option maxRecDepth 100000 in
set_option maxHeartbeats 0 in
theorem PySem.Challenge.cw_allparts_k25_how_many_parts_holds : PySem.Challenge.rw_allparts_k25_how_many_parts.Holds := by
  w_on; o_law; k_head; (case hw => w_witness2)
  k_fill
  refine L2.walk_of (l := PySem.Challenge.rw_allparts_k25_how_many_parts) (n := 63) (k := 32) (x := "_law_script") (CX := fun _ => L2.CX0) (sp := fun w => Al.spFn w _ (fun _ => 0) Al.B.Z_k25 Al.f_law_k25) rfl (by decide) rfl ⟨rfl, by decide, by decide⟩ (fun w h Y => PySem.W.kIn_of Y) ?F (fun w H a ns hl hO hS => Al.law_sp rfl (fun ns hl => Al.B.run_k25 ns hl) hl hO hS) fun _ _ _ _ _ z => z
  case F =>
    intro w mg fa h KX G hmg
    refine' Al.J_k25.all_mk KX G hmg ?a0 ?l0 ?c0 ?k0 ?a1 ?l1 ?c1 ?k1 ?a2 ?l2 ?c2 ?k2 ?a3 ?l3 ?c3 ?k3 ?a4 ?l4 ?c4 ?k4 ?a5 ?l5 ?c5 ?k5 ?a6 ?l6 ?c6 ?k6 ?a7 ?l7 ?c7 ?k7 ?a8 ?l8 ?c8 ?k8 ?a9 ?l9 ?c9 ?k9 ?a10 ?l10 ?c10 ?k10 ?a11 ?l11 ?c11 ?k11 ?a12 ?l12 ?c12 ?k12 ?a13 ?l13 ?c13 ?k13 ?a14 ?l14 ?c14 ?k14 ?a15 ?l15 ?c15 ?k15 ?z0 ?z1 ?z2 ?z3 ?z4 ?z5 ?z6 ?z7 ?z8 ?z9 ?z10 ?z11
    (case a0 => k_is)
    (case l0 => k_is)
    (case c0 => k_is)
    (case k0 => k_is)
    (case a1 => k_is)
    (case l1 => k_is)
    (case c1 => k_is)
    (case k1 => k_is)
    (case a2 => k_is)
    (case l2 => k_is)
    (case c2 => k_is)
    (case k2 => k_is)
    (case a3 => k_is)
    (case l3 => k_is)
    (case c3 => k_is)
    (case k3 => k_is)
    (case a4 => k_is)
    (case l4 => k_is)
    (case c4 => k_is)
    (case k4 => k_is)
    (case a5 => k_is)
    (case l5 => k_is)
    (case c5 => k_is)
    (case k5 => k_is)
    (case a6 => k_is)
    (case l6 => k_is)
    (case c6 => k_is)
    (case k6 => k_is)
    (case a7 => k_is)
    (case l7 => k_is)
    (case c7 => k_is)
    (case k7 => k_is)
    (case a8 => k_is)
    (case l8 => k_is)
    (case c8 => k_is)
    (case k8 => k_is)
    (case a9 => k_is)
    (case l9 => k_is)
    (case c9 => k_is)
    (case k9 => k_is)
    (case a10 => k_is)
    (case l10 => k_is)
    (case c10 => k_is)
    (case k10 => k_is)
    (case a11 => k_is)
    (case l11 => k_is)
    (case c11 => k_is)
    (case k11 => k_is)
    (case a12 => k_is)
    (case l12 => k_is)
    (case c12 => k_is)
    (case k12 => k_is)
    (case a13 => k_is)
    (case l13 => k_is)
    (case c13 => k_is)
    (case k13 => k_is)
    (case a14 => k_is)
    (case l14 => k_is)
    (case c14 => k_is)
    (case k14 => k_is)
    (case a15 => k_is)
    (case l15 => k_is)
    (case c15 => k_is)
    (case k15 => k_is)
    (case z0 => k_is)
    (case z1 => k_is)
    (case z2 => k_is)
    (case z3 => k_is)
    (case z4 => k_is)
    (case z5 => k_is)
    (case z6 => k_is)
    (case z7 => k_is)
    (case z8 => k_is)
    (case z9 => k_is)
    (case z10 => k_is)
    (case z11 => k_is)

