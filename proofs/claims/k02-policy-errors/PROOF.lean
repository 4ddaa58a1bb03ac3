import PyProof.Rows.All
import Wide.All
import OpenK.AllK
import Wide.FinOn
import HandS.ForMost
import HandS.Exc
import HandS.Head0
import HandS.Head1
import HandS.Head2
import HandS.HeadEnd
import HandS.HeadHook1
import HandS.HeadHook2
import HandS.HeadHook3
import HandS.ExcIs
import KE.KIsAll
import KE.KDictKeyed
import HandS.TupAny
import HandS.TupLe
import HandS.Deep
import HandS.IsInst
import HandS.Wide
import HandS.WideBits
import HandS.WordsExc
import HandS.Iter
import HandS.Zip
import HandS.Small
import HandS.Style
import HandS.Steps
import HandS.TupLen
import HandS.Codes
import HandS.RaiseMore
import HandS.Replace
import HandS.Conv
import KE.GoesEnum
import KE.GoesMore
import KE.KTurns
import KE.KDictDisplayH
import HandS.Strs
import HandS.TupSets
import HandS.SortInts
import KE.SortData
import HandS.Defaults
import HandS.HotCalls
import HandS.SetFor
import PyProof.TableCode
import PySem.Challenge.RW_passrules_k02_policy_errors
set_option Elab.async false
set_option maxHeartbeats 4000000
set_option maxRecDepth 100000
set_option linter.all false
namespace Mi
/-! ## Mini: a small language with values as plain data; its meaning as a predicate transformer. Core Lean alone. -/

/-- data: texts are lists of code points; lst is a list object that nobody changes any more; loc a mutable object; scr the script -/
inductive D where
  | non
  | bl (b : Bool)
  | int (i : Int)
  | str (s : List Nat)
  | tup (ds : List D)
  | lst (ds : List D)
  | loc (n : Nat)
  | fn (f : Nat)
  | scr (ns : List Int)
  deriving Inhabited

/-- mutable objects: list, dict by texts, dict by tuples, instance; a dict by tuples that is walked -/
inductive MO where
  | lst (ds : List D)
  | sd (kvs : List (List Nat × D))
  | kd (kvs : List (D × D))
  | ins (c : Nat) (fs : List (Nat × D))
  | frz (kvs : List (D × D))
  deriving Inhabited

abbrev Hm := List MO
abbrev Sl := List (Option D)
abbrev PD := D → Hm → Prop
abbrev PX := Nat → Hm → Prop

/-- the longest list, tuple, text that is reckoned with -/
def lim : Nat := 16000000

/-! ### equality -/
mutual
def eqD : D → D → Bool
  | .non, .non => true
  | .bl a, .bl b => a == b
  | .bl a, .int j => (if a then 1 else 0) == j
  | .int i, .bl b => i == (if b then 1 else 0)
  | .int i, .int j => i == j
  | .str x, .str y => x == y
  | .tup xs, .tup ys => eqDs xs ys
  | .lst xs, .lst ys => eqDs xs ys
  | _, _ => false
def eqDs : List D → List D → Bool
  | [], [] => true
  | x :: xs, y :: ys => eqD x y && eqDs xs ys
  | _, _ => false
end

/- data without objects, nested at most n deep -/
mutual
def flat : Nat → D → Bool
  | _, .non => true
  | _, .bl _ => true
  | _, .int _ => true
  | _, .str s => s.all (· < 1114112)
  | 0, .tup _ => false
  | n + 1, .tup ds => flats n ds
  | 0, .lst _ => false
  | n + 1, .lst ds => flats n ds
  | _, .loc _ => false
  | _, .fn _ => false
  | _, .scr _ => false
def flats : Nat → List D → Bool
  | _, [] => true
  | n, d :: ds => flat n d && flats n ds
end
/- what may be a key of a dict by tuples, or an item of a set: ints, texts, None, tuples of such -/
mutual
def hsh : Nat → D → Bool
  | _, .non => true
  | _, .int _ => true
  | _, .str _ => true
  | 0, .tup _ => false
  | n + 1, .tup ds => hshs n ds
  | _, _ => false
def hshs : Nat → List D → Bool
  | _, [] => true
  | n, d :: ds => hsh n d && hshs n ds
end
def isKey : D → Bool
  | .tup ds => hshs 6 ds
  | _ => false

/-! ### reading -/
/-- the items of a list (by value or an object) -/
def lstOf (h : Hm) : D → Option (List D)
  | .lst ds => some ds
  | .loc n => match h[n]? with
    | some (.lst ds) => some ds
    | _ => none
  | _ => none
/-- the items of a list or a tuple -/
def seqOf (h : Hm) : D → Option (List D)
  | .tup ds => some ds
  | d => lstOf h d
/-- a list object by its items -/
def deref (h : Hm) : D → D
  | .loc n => match h[n]? with
    | some (.lst ds) => .lst ds
    | _ => .loc n
  | .scr ns => .lst (ns.map .int)
  | d => d
/-- a place among n -/
def ixN (n : Nat) (i : Int) : Option Nat :=
  if 0 ≤ i then (if i < n then some i.toNat else none) else if 0 ≤ i + n then some (i + n).toNat else none
def at_ {α : Type} (xs : List α) (i : Int) : Option α := (ixN xs.length i).bind fun j => xs[j]?
def kget (kvs : List (D × D)) (k : D) : Option D := (kvs.find? fun p => eqD p.1 k).map (·.2)
def kput (kvs : List (D × D)) (k v : D) : List (D × D) :=
  if (kget kvs k).isSome then kvs.map fun p => if eqD p.1 k then (p.1, v) else p else kvs ++ [(k, v)]
def sget (kvs : List (List Nat × D)) (k : List Nat) : Option D := (kvs.find? fun p => p.1 == k).map (·.2)
def sput (kvs : List (List Nat × D)) (k : List Nat) (v : D) : List (List Nat × D) :=
  if (sget kvs k).isSome then kvs.map fun p => if p.1 == k then (p.1, v) else p else kvs ++ [(k, v)]
def fget (fs : List (Nat × D)) (f : Nat) : Option D := (fs.find? fun p => p.1 == f).map (·.2)
def fput (fs : List (Nat × D)) (f : Nat) (v : D) : List (Nat × D) :=
  if (fget fs f).isSome then fs.map fun p => if p.1 == f then (p.1, v) else p else fs ++ [(f, v)]

def ixD (h : Hm) (a i : D) : Option D :=
  match a, i with
  | .tup ds, .int i => at_ ds i
  | .lst ds, .int i => at_ ds i
  | .str s, .int i => if s.length ≤ lim then (at_ s i).map fun c => .str [c] else none
  | .scr ns, .int i => (at_ ns i).map .int
  | .loc n, .int i => match h[n]? with
    | some (.lst ds) => at_ ds i
    | _ => none
  | .loc n, .str k => match h[n]? with
    | some (.sd kvs) => sget kvs k
    | _ => none
  | .loc n, .tup ks => match h[n]? with
    | some (.kd kvs) => if isKey (.tup ks) then kget kvs (.tup ks) else none
    | some (.frz kvs) => if isKey (.tup ks) then kget kvs (.tup ks) else none
    | _ => none
  | _, _ => none

/-- a slice's bound as a place among n (d where it is left out) -/
def sIx (n d : Nat) : Option Int → Nat
  | none => d
  | some v => if v < 0 then (v + (n : Int)).toNat else min v.toNat n
def cut {α : Type} (xs : List α) (lo hi : Option Int) : List α := (xs.drop (sIx xs.length 0 lo)).take (sIx xs.length xs.length hi - sIx xs.length 0 lo)
def slD (h : Hm) (a : D) (lo hi : Option Int) : Option D :=
  match a with
  | .tup ds => some (.tup (cut ds lo hi))
  | .str s => if s.length ≤ lim then some (.str (cut s lo hi)) else none
  | d => match lstOf h d with
    | some ds => some (.lst (cut ds lo hi))
    | none => none

/-! ### operators -/
inductive Op where | add | sub | mul | fdiv | mod | pow
  deriving DecidableEq
inductive Cm where | eq | ne | lt | le | gt | ge | is_ | isnt | in_ | notin
  deriving DecidableEq

def small (i : Int) : Bool := decide (-(2 ^ 63) < i ∧ i < 2 ^ 63)
def opD (h : Hm) : Op → D → D → Option D
  | .add, .int i, .int j => some (.int (i + j))
  | .add, .str x, .str y => if x.length + y.length ≤ lim then some (.str (x ++ y)) else none
  | .add, .tup x, .tup y => if x.length + y.length ≤ lim then some (.tup (x ++ y)) else none
  | .sub, .int i, .int j => some (.int (i - j))
  | .mul, .int i, .int j => if small i || small j || decide (i.natAbs < 2 ^ 1000 ∧ j.natAbs < 2 ^ 1000) then some (.int (i * j)) else none
  | .mul, .str x, .int j => if 0 ≤ j ∧ j ≤ 1000 ∧ x.length ≤ 1000 then some (.str (List.replicate j.toNat x).flatten) else none
  | .fdiv, .int i, .int j => if 0 < j ∧ j < 1073741824 then some (.int (i / j)) else none
  | .mod, .int i, .int j => if 0 < j then some (.int (i % j)) else none
  | .pow, .int i, .int j => if 0 ≤ j ∧ j ≤ 1000 ∧ small i then some (.int (i ^ j.toNat)) else none
  | _, _, _ => none
/-- x op= y -/
def augD : Op → D → D → Option D
  | .add, .int i, .int j => some (.int (i + j))
  | .sub, .int i, .int j => some (.int (i - j))
  | .add, .str x, .str y => if x.length + y.length ≤ lim then some (.str (x ++ y)) else none
  | _, _, _ => none
/-- operators that make a list -/
def opL (h : Hm) : Op → D → D → Option (List D)
  | .add, a, b => match lstOf h a, lstOf h b with
    | some x, some y => if x.length + y.length ≤ lim then some (x ++ y) else none
    | _, _ => none
  | .mul, a, .int j => match lstOf h a with
    | some x => if 0 ≤ j ∧ j ≤ 1000 ∧ x.length ≤ 1000 then some (List.replicate j.toNat x).flatten else none
    | none => none
  | _, _, _ => none

/-- x stands in y somewhere -/
def infixB : List Nat → List Nat → Bool
  | x, [] => x.isPrefixOf []
  | x, y :: ys => x.isPrefixOf (y :: ys) || infixB x ys
def eqQ (h : Hm) (a b : D) : Option Bool :=
  let x := deref h a
  let y := deref h b
  if flat 20 x && flat 20 y then some (eqD x y) else none
def inD (h : Hm) (a b : D) : Option Bool :=
  match a, b with
  | .str x, .str y => some (infixB x y)
  | a, .tup ds => if flat 20 a && flats 20 ds then some (ds.any fun z => eqD z a) else none
  | a, .loc n => match h[n]? with
    | some (.lst ds) => if flat 20 a && flats 20 ds then some (ds.any fun z => eqD z a) else none
    | some (.kd kvs) => if isKey a then some (kget kvs a).isSome else none
    | some (.frz kvs) => if isKey a then some (kget kvs a).isSome else none
    | _ => none
  | a, .lst ds => if flat 20 a && flats 20 ds then some (ds.any fun z => eqD z a) else none
  | _, _ => none
def cmB (h : Hm) : Cm → D → D → Option Bool
  | .eq, a, b => eqQ h a b
  | .ne, a, b => (eqQ h a b).map (! ·)
  | .lt, .int i, .int j => some (decide (i < j))
  | .le, .int i, .int j => some (decide (i ≤ j))
  | .gt, .int i, .int j => some (decide (j < i))
  | .ge, .int i, .int j => some (decide (j ≤ i))
  | .is_, a, .non => some (match a with | .non => true | _ => false)
  | .isnt, a, .non => some (match a with | .non => false | _ => true)
  | .is_, .bl a, .bl b => some (a == b)
  | .isnt, .bl a, .bl b => some (a != b)
  | .in_, a, b => inD h a b
  | .notin, a, b => (inD h a b).map (! ·)
  | _, _, _ => none
def truD (h : Hm) : D → Option Bool
  | .non => some false
  | .bl b => some b
  | .int i => some (i != 0)
  | .str s => if s.length ≤ lim then some (s.length != 0) else none
  | .tup ds => some !ds.isEmpty
  | .lst ds => some !ds.isEmpty
  | _ => none

/-- the classes of isinstance -/
inductive Ty where | int | bool | str | tuple
  deriving DecidableEq
def isiD (h : Hm) (t : Ty) : D → Option Bool
  | .non => some false
  | .bl _ => some (t == .int || t == .bool)
  | .int _ => some (t == .int)
  | .str _ => some (t == .str)
  | .tup _ => some (t == .tuple)
  | .lst _ => some false
  | .loc n => match h[n]? with
    | some (.lst _) => some false
    | _ => none
  | .fn _ => none
  | .scr _ => none

/-! ### built-in functions and methods -/
inductive Bi where
  | len | all | any | sum | min2 | max1 | setlen | tuple | lrange
  | sortedS | sortedI | sortedP | strOf | intOf | dzip | dpairs
  | join | startswith | endswith | index | split
  | append | extend | pop | get1 | get2 | starts
  deriving DecidableEq

def allBl : List D → Option (List Bool)
  | [] => some []
  | .bl b :: r => (allBl r).map (b :: ·)
  | _ => none
def allInt : List D → Option (List Int)
  | [] => some []
  | .int i :: r => (allInt r).map (i :: ·)
  | _ => none
def allStr : List D → Option (List (List Nat))
  | [] => some []
  | .str s :: r => (allStr r).map (s :: ·)
  | _ => none
def joinL (sep : List Nat) : List (List Nat) → List Nat
  | [] => []
  | [x] => x
  | x :: y :: r => x ++ sep ++ joinL sep (y :: r)
/-- the different ones -/
def dedup : List D → List D
  | [] => []
  | x :: r => let t := dedup r; if t.any (fun z => eqD z x) then t else x :: t
/-- order of texts by code points -/
def leS : List Nat → List Nat → Bool
  | [], _ => true
  | _ :: _, [] => false
  | x :: xs, y :: ys => if x < y then true else if y < x then false else leS xs ys
def insS (x : List Nat) : List (List Nat) → List (List Nat)
  | [] => [x]
  | y :: r => if leS x y then x :: y :: r else y :: insS x r
def sortS : List (List Nat) → List (List Nat)
  | [] => []
  | x :: r => insS x (sortS r)
def insI (x : Int) : List Int → List Int
  | [] => [x]
  | y :: r => if x ≤ y then x :: y :: r else y :: insI x r
def sortI : List Int → List Int
  | [] => []
  | x :: r => insI x (sortI r)
/-- pairs of a number and a list of numbers, in order -/
def leI : List Int → List Int → Bool
  | [], _ => true
  | _ :: _, [] => false
  | x :: xs, y :: ys => if x < y then true else if y < x then false else leI xs ys
def leP (a b : Int × List Int) : Bool := if a.1 < b.1 then true else if b.1 < a.1 then false else leI a.2 b.2
def insP (x : Int × List Int) : List (Int × List Int) → List (Int × List Int)
  | [] => [x]
  | y :: r => if leP x y then x :: y :: r else y :: insP x r
def sortP : List (Int × List Int) → List (Int × List Int)
  | [] => []
  | x :: r => insP x (sortP r)
def prOf : D → Option (Int × List Int)
  | .tup [.int i, .lst xs] => (allInt xs).map fun ns => (i, ns)
  | _ => none
def allPr : List D → Option (List (Int × List Int))
  | [] => some []
  | d :: r => match prOf d, allPr r with
    | some p, some t => some (p :: t)
    | _, _ => none
def prD (p : Int × List Int) : D := .tup [.int p.1, .lst (p.2.map .int)]
def digs : Nat → Nat → List Nat
  | 0, _ => []
  | f + 1, n => if n < 10 then [48 + n] else digs f (n / 10) ++ [48 + n % 10]
/-- the number of these digits -/
def digV (s : List Nat) : Nat := s.foldl (fun n c => n * 10 + (c - 48)) 0
/-- the places from i on where the sign c stands in s -/
def splitC (c : Nat) : List Nat → List (List Nat)
  | [] => [[]]
  | x :: r => if x = c then [] :: splitC c r else match splitC c r with
    | [] => [[x]]
    | y :: t => (x :: y) :: t
def findC (c : Nat) : List Nat → Option Nat
  | [] => none
  | x :: r => if x = c then some 0 else (findC c r).map (· + 1)

def isTx : D → Bool
  | .str _ => true
  | _ => false
/-- the states that rules begin with (a written dict) -/
def startsOf (k : List Nat) : D :=
  if k = [115, 105, 122, 101] then .int 0 else if k = [108, 101, 97, 115, 116] then .int 0 else if k = [109, 111, 115, 116] then .int 0 else
  if k = [107, 105, 110, 100, 115] then .tup [] else if k = [114, 117, 110] then .tup [.str [], .int 0] else if k = [114, 111, 119] then .tup [.str [], .int 0] else .str []
/-- a built-in by the values of its arguments: what it gives, and the heap -/
def biD (h : Hm) : Bi → List D → Option (D × Hm)
  | .len, [a] => match a with
    | .str s => if s.length ≤ lim then some (.int s.length, h) else none
    | .tup ds => some (.int ds.length, h)
    | .lst ds => some (.int ds.length, h)
    | .scr ns => some (.int ns.length, h)
    | .loc n => match h[n]? with
      | some (.lst ds) => some (.int ds.length, h)
      | some (.kd kvs) => if kvs.length < lim then some (.int kvs.length, h) else none
      | _ => none
    | _ => none
  | .all, [a] => ((lstOf h a).bind allBl).map fun bs => (.bl (bs.all id), h)
  | .any, [a] => ((lstOf h a).bind allBl).map fun bs => (.bl (bs.any id), h)
  | .sum, [a] => ((lstOf h a).bind allInt).map fun ns => (.int ns.sum, h)
  | .min2, [.int i, .int j] => some (.int (if j < i then j else i), h)
  | .max1, [a] => ((lstOf h a).bind allInt).bind fun ns => match ns with
    | [] => none
    | n :: r => some (.int (r.foldl max n), h)
  | .setlen, [a] => match a with
    | .str s => if s.length ≤ 1000 then some (.int (dedup (s.map fun c => .str [c])).length, h) else none
    | d => (seqOf h d).bind fun ds => if (ds.all isTx && decide ((dedup ds).length < 60)) || (decide (ds.length < 60) && ds.all isKey) then some (.int (dedup ds).length, h) else none
  | .tuple, [a] => (seqOf h a).map fun ds => (.tup ds, h)
  | .lrange, [.int n] => if 0 ≤ n ∧ n ≤ 1000 then some (.lst ((List.range n.toNat).map fun (k : Nat) => .int k), h) else none
  | .sortedS, [a] => ((seqOf h a).bind allStr).bind fun ss => if ss.length < 64 then some (.lst ((sortS ss).map .str), h) else none
  | .sortedI, [a] => ((lstOf h a).bind allInt).bind fun ns => if ns.length < 64 then some (.lst ((sortI ns).map .int), h) else none
  | .sortedP, [a] => ((lstOf h a).bind allPr).bind fun ps => if ps.length ≤ 1000 then some (.lst ((sortP ps).map prD), h) else none
  | .strOf, [.int i] => if 0 ≤ i ∧ i < 1000000 then some (.str (digs 7 i.toNat), h) else none
  | .intOf, [.str s] => if s ≠ [] ∧ s.length ≤ 20 ∧ s.all (fun c => decide (48 ≤ c ∧ c ≤ 57)) then some (.int (digV s), h) else none
  | .strOf, [.str s] => some (.str s, h)
  | .join, [.str sep, a] => ((seqOf h a).bind allStr).bind fun ss => if (joinL sep ss).length ≤ lim ∧ sep.length ≤ 1000 then some (.str (joinL sep ss), h) else none
  | .startswith, [.str a, .str b] => some (.bl (b.isPrefixOf a), h)
  | .endswith, [.str a, .str b] => some (.bl (b.isSuffixOf a), h)
  | .index, [.str a, .str [c]] => (findC c a).map fun (k : Nat) => (.int (k : Int), h)
  | .split, [.str a, .str [c]] => if a.length ≤ lim ∧ c < 256 then some (.lst ((splitC c a).map .str), h) else none
  | .append, [.loc n, d] => match h[n]? with
    | some (.lst ds) => if ds.length < lim then some (.non, h.set n (.lst (ds ++ [d]))) else none
    | _ => none
  | .extend, [.loc n, d] => match h[n]?, lstOf h d with
    | some (.lst ds), some es => if ds.length + es.length ≤ lim then some (.non, h.set n (.lst (ds ++ es))) else none
    | _, _ => none
  | .pop, [.loc n] => match h[n]? with
    | some (.lst ds) => match ds.getLast? with
      | some d => some (d, h.set n (.lst ds.dropLast))
      | none => none
    | _ => none
  | .starts, [.str k] => some (startsOf k, h)
  | .get1, [.loc n, .str k] => match h[n]? with
    | some (.sd kvs) => some ((sget kvs k).getD .non, h)
    | _ => none
  | .get2, [.loc n, .str k, d] => match h[n]? with
    | some (.sd kvs) => some ((sget kvs k).getD d, h)
    | _ => none
  | .get2, [.loc n, .int _, d] => match h[n]? with
    | some (.sd kvs) => some (d, h)
    | _ => none
  | _, _ => none

/-- the receiver of a method is of its type -/
def kindB (h : Hm) : Bi → D → Bool
  | .append, .loc n => match h[n]? with | some (.lst _) => true | _ => false
  | .extend, .loc n => match h[n]? with | some (.lst _) => true | _ => false
  | .pop, .loc n => match h[n]? with | some (.lst _) => true | _ => false
  | .get1, .loc n => match h[n]? with | some (.sd _) => true | _ => false
  | .get2, .loc n => match h[n]? with | some (.sd _) => true | _ => false
  | .join, .str _ => true
  | .startswith, .str _ => true
  | .endswith, .str _ => true
  | .index, .str _ => true
  | .split, .str _ => true
  | _, _ => false

/-! ### the language -/
mutual
inductive E where
  | non
  | bl (b : Bool)
  | int (i : Int)
  | str (s : List Nat)
  | var (i : Nat)
  | gl (g : Nat)
  | fn (f : Nat)
  | tup (es : Es)
  | lst (es : Es)
  | mk (e : E)
  | dnew (k : Bool)
  | done (k v : E)
  | fld (e : E) (f : Nat)
  | ix (a b : E)
  | sl (a lo hi : E)
  | neg (a : E)
  | op (o : Op) (a b : E)
  | opl (o : Op) (a b : E)
  | cmp (o : Cm) (a b : E)
  | chain (a b c : E)
  | and (a b : E)
  | or (a b : E)
  | not (a : E)
  | tru (a : E)
  | ite (t a b : E)
  | call (f : Nat) (es : Es)
  | make (c : Nat) (es : Es)
  | meth (m : Nat) (o : E) (es : Es)
  | callv (f : E) (es : Es)
  | bi (b : Bi) (es : Es)
  | bim (b : Bi) (o : E) (es : Es)
  | isi (e : E) (t : Ty)
  | comp (tp : Bool) (tg : List Nat) (it t e : E)
  | dcomp (tg : Nat) (it v : E)
  | rng (a : E)
  | rng2 (a b : E)
  | zip (a b : E)
  | enum (a : E)
  | keys (a : E)
inductive Es where
  | nil
  | cons (e : E) (es : Es)
end

/-- a slice's bound as it is written (non: left out) -/
def bnd : E → D → Option (Option Int)
  | .non, _ => some none
  | _, .int i => some (some i)
  | _, _ => none

/-- what the program around means: functions (at a level), global constants, the classes of methods, the __init__ of classes -/
structure Gam where
  call : Nat → List D → Hm → PD → PX → Prop
  gl : Nat → Option D
  mcls : Nat → Nat
  init : Nat → Nat
  okf : Nat → Nat → Bool

def onSome {α : Type} (o : Option α) (Q : α → Prop) : Prop := ∃ a, o = some a ∧ Q a

/-- the slots behind a target's store -/
def setAll : Sl → List Nat → List D → Sl
  | σ, i :: is, d :: ds => setAll (σ.set i (some d)) is ds
  | σ, _, _ => σ
def bindT (tp : Bool) (tg : List Nat) (σ : Sl) (d : D) : Option Sl :=
  match tp, tg, d with
  | false, [i], d => some (σ.set i (some d))
  | true, tg, .tup ds => if ds.length = tg.length then some (setAll σ tg ds) else none
  | _, _, _ => none
def wipe (σ : Sl) : List Nat → Sl
  | [] => σ
  | v :: vs => (wipe σ vs).set v none

/-- what is walked: its items; the object that must stay as it is -/
abbrev Src := Option (Nat × MO)
def still (s : Src) (h : Hm) : Prop := match s with
  | none => True
  | some (n, o) => h[n]? = some o
def srcOf (h : Hm) : D → Option (List D × Src)
  | .tup ds => some (ds, none)
  | .lst ds => some (ds, none)
  | .str s => some (s.map fun c => .str [c], none)
  | .loc n => match h[n]? with
    | some (.lst ds) => some (ds, some (n, .lst ds))
    | _ => none
  | _ => none

/-- the pairs of two tuples, of two texts -/
def zipOf : D → D → Option (List (D × D))
  | .tup xs, .tup ys => some (xs.zip ys)
  | .str x, .str y => some ((x.map fun c => D.str [c]).zip (y.map fun c => D.str [c]))
  | _, _ => none
/-- what is counted through: a tuple or a text -/
def enumOf : D → Option (List D)
  | .tup xs => some xs
  | .str x => some (x.map fun c => .str [c])
  | _ => none

/-- the turns of a comprehension; acc: what is made so far -/
def compW (tp : Bool) (tg : List Nat) (σ : Sl) (src : Src) (T V : Sl → Hm → PD → Prop) : List D → List D → Hm → (List D → Hm → Prop) → Prop
  | [], acc, h, Q => still src h ∧ Q acc h
  | x :: xs, acc, h, Q => still src h ∧ onSome (bindT tp tg (wipe σ tg) x) fun σ1 =>
      T σ1 h fun b h1 => (b = .bl true ∧ V σ1 h1 fun y h2 => compW tp tg σ src T V xs (acc ++ [y]) h2 Q) ∨ (b = .bl false ∧ compW tp tg σ src T V xs acc h1 Q)

mutual
/-- what must hold so that e ends well -/
def wpE (Γ : Gam) (X : PX) : E → Sl → Hm → PD → Prop
  | .non, _, h, Q => Q .non h
  | .bl b, _, h, Q => Q (.bl b) h
  | .int i, _, h, Q => Q (.int i) h
  | .str s, _, h, Q => Q (.str s) h
  | .var i, σ, h, Q => ∃ d, σ[i]? = some (some d) ∧ Q d h
  | .gl g, _, h, Q => onSome (Γ.gl g) fun d => Q d h
  | .fn f, _, h, Q => Q (.fn f) h
  | .tup es, σ, h, Q => wpEs Γ X es σ h fun ds h => ds.length ≤ lim ∧ Q (.tup ds) h
  | .lst es, σ, h, Q => wpEs Γ X es σ h fun ds h => ds.length ≤ lim ∧ Q (.lst ds) h
  | .mk e, σ, h, Q => wpE Γ X e σ h fun d h => ∃ ds, d = .lst ds ∧ Q (.loc h.length) (h ++ [.lst ds])
  | .dnew k, _, h, Q => Q (.loc h.length) (h ++ [if k then .kd [] else .sd []])
  | .done k v, σ, h, Q => wpE Γ X k σ h fun x h => wpE Γ X v σ h fun y h => isKey x = true ∧ Q (.loc h.length) (h ++ [.kd [(x, y)]])
  | .fld e f, σ, h, Q => wpE Γ X e σ h fun d h => ∃ n c fs v, d = .loc n ∧ (h[n]? = some (.ins c fs) ∧ Γ.okf c f = true) ∧ fget fs f = some v ∧ Q v h
  | .ix a b, σ, h, Q => wpE Γ X a σ h fun x h => wpE Γ X b σ h fun y h => onSome (ixD h x y) fun d => Q d h
  | .sl a lo hi, σ, h, Q => wpE Γ X a σ h fun x h => wpE Γ X lo σ h fun l h => onSome (bnd lo l) fun l => wpE Γ X hi σ h fun u h => onSome (bnd hi u) fun u =>
      onSome (slD h x l u) fun d => Q d h
  | .neg a, σ, h, Q => wpE Γ X a σ h fun x h => ∃ i, x = .int i ∧ Q (.int (-i)) h
  | .op o a b, σ, h, Q => wpE Γ X a σ h fun x h => wpE Γ X b σ h fun y h => onSome (opD h o x y) fun d => Q d h
  | .opl o a b, σ, h, Q => wpE Γ X a σ h fun x h => wpE Γ X b σ h fun y h => onSome (opL h o x y) fun ds => Q (.lst ds) h
  | .cmp o a b, σ, h, Q => wpE Γ X a σ h fun x h => wpE Γ X b σ h fun y h => onSome (cmB h o x y) fun c => Q (.bl c) h
  | .chain a b c, σ, h, Q => wpE Γ X a σ h fun x h => wpE Γ X b σ h fun y h => ∃ i j, x = .int i ∧ y = .int j ∧
      (i ≤ j → wpE Γ X c σ h fun z h => ∃ k, z = .int k ∧ Q (.bl (decide (j ≤ k))) h) ∧ (¬ i ≤ j → Q (.bl false) h)
  | .and a b, σ, h, Q => wpE Γ X a σ h fun x h => (x = .bl true ∧ wpE Γ X b σ h Q) ∨ (x = .bl false ∧ Q (.bl false) h)
  | .or a b, σ, h, Q => wpE Γ X a σ h fun x h => (x = .bl true ∧ Q (.bl true) h) ∨ (x = .bl false ∧ wpE Γ X b σ h Q)
  | .not a, σ, h, Q => wpE Γ X a σ h fun x h => ∃ b, x = .bl b ∧ Q (.bl !b) h
  | .tru a, σ, h, Q => wpE Γ X a σ h fun x h => onSome (truD h x) fun b => Q (.bl b) h
  | .ite t a b, σ, h, Q => wpE Γ X t σ h fun x h => (x = .bl true ∧ wpE Γ X a σ h Q) ∨ (x = .bl false ∧ wpE Γ X b σ h Q)
  | .call f es, σ, h, Q => wpEs Γ X es σ h fun ds h => Γ.call f ds h Q X
  | .make c es, σ, h, Q => wpEs Γ X es σ h fun ds h => Γ.call (Γ.init c) (.loc h.length :: ds) (h ++ [.ins c []]) (fun d h' => d = .non ∧ Q (.loc h.length) h') X
  | .meth m o es, σ, h, Q => wpE Γ X o σ h fun x h => ∃ n fs, x = .loc n ∧ h[n]? = some (.ins (Γ.mcls m) fs) ∧ wpEs Γ X es σ h fun ds h => Γ.call m (x :: ds) h Q X
  | .callv f es, σ, h, Q => wpE Γ X f σ h fun x h => ∃ f, x = .fn f ∧ wpEs Γ X es σ h fun ds h => Γ.call f ds h Q X
  | .bi b es, σ, h, Q => wpEs Γ X es σ h fun ds h => onSome (biD h b ds) fun r => Q r.1 r.2
  | .bim b o es, σ, h, Q => wpE Γ X o σ h fun x h => kindB h b x = true ∧ wpEs Γ X es σ h fun ds h => onSome (biD h b (x :: ds)) fun r => Q r.1 r.2
  | .isi e t, σ, h, Q => wpE Γ X e σ h fun x h => onSome (isiD h t x) fun b => Q (.bl b) h
  | .comp tp tg it t e, σ, h, Q => wpI Γ X it σ h fun xs src h => xs.length ≤ lim ∧ compW tp tg σ src (wpE Γ (fun _ _ => False) t) (wpE Γ (fun _ _ => False) e) xs [] h fun ds h => Q (.lst ds) h
  | _, _, _, _ => False
def wpEs (Γ : Gam) (X : PX) : Es → Sl → Hm → (List D → Hm → Prop) → Prop
  | .nil, _, h, Q => Q [] h
  | .cons e es, σ, h, Q => wpE Γ X e σ h fun d h => wpEs Γ X es σ h fun ds h => Q (d :: ds) h
/-- what is walked -/
def wpI (Γ : Gam) (X : PX) : E → Sl → Hm → (List D → Src → Hm → Prop) → Prop
  | .rng a, σ, h, Q => wpE Γ X a σ h fun x h => ∃ n, x = .int n ∧ -(2 ^ 60) ≤ n ∧ n ≤ 2 ^ 60 ∧ Q ((List.range n.toNat).map fun (k : Nat) => .int (0 + (k : Int))) none h
  | .rng2 a b, σ, h, Q => wpE Γ X a σ h fun x h => wpE Γ X b σ h fun y h => ∃ i j, x = .int i ∧ y = .int j ∧ (-(2 ^ 60) ≤ i ∧ i ≤ 2 ^ 60 ∧ -(2 ^ 60) ≤ j ∧ j ≤ 2 ^ 60) ∧
      Q ((List.range (j - i).toNat).map fun (k : Nat) => .int (i + (k : Int))) none h
  | .zip a b, σ, h, Q => wpE Γ X a σ h fun x h => wpE Γ X b σ h fun y h => onSome (zipOf x y) fun u => Q (u.map fun p => .tup [p.1, p.2]) none h
  | .enum a, σ, h, Q => wpE Γ X a σ h fun x h => onSome (enumOf x) fun u => Q (u.zipIdx.map fun p => .tup [.int ((p.2 : Nat) : Int), p.1]) none h
  | e, σ, h, Q => wpE Γ X e σ h fun x h => onSome (srcOf h x) fun u => Q u.1 u.2 h
end

mutual
inductive S where
  | ex (e : E)
  | set (i : Nat) (e : E)
  | par (is : List Nat) (es : Es)
  | sub (o k v : E)
  | fld (o : E) (f : Nat) (v : E)
  | aug (i : Nat) (o : Op) (e : E)
  | augs (o k : E) (op : Op) (e : E)
  | augf (o : E) (f : Nat) (op : Op) (e : E)
  | ite (t : E) (a b : Ss)
  | for (tp : Bool) (tg : List Nat) (it : E) (b : Ss)
  | fork (tg : Nat) (it : E) (b : Ss)
  | whl (t : E) (b : Ss)
  | ret (e : E)
  | rai (c : Nat)
  | brk
  | pss
  | try (b : Ss)
inductive Ss where
  | nil
  | cons (s : S) (ss : Ss)
end

/-- the ways on from a statement -/
structure Ks where
  nx : Sl → Hm → Prop
  rt : PD
  bk : Sl → Hm → Prop
  ct : Sl → Hm → Prop

/-- o[k] = v -/
def subD (h : Hm) (o k v : D) : Option Hm :=
  match o, k with
  | .loc n, .int i => match h[n]? with
    | some (.lst ds) => (ixN ds.length i).map fun j => h.set n (.lst (ds.set j v))
    | _ => none
  | .loc n, .str k => match h[n]? with
    | some (.sd kvs) => if kvs.length < lim then some (h.set n (.sd (sput kvs k v))) else none
    | _ => none
  | .loc n, .tup ks => match h[n]? with
    | some (.kd kvs) => if isKey (.tup ks) ∧ kvs.length < lim then some (h.set n (.kd (kput kvs (.tup ks) v))) else none
    | _ => none
  | _, _ => none

/-- the turns of a for -/
def forW (tp : Bool) (tg : List Nat) (src : Src) (B : Sl → Hm → Ks → Prop) (K : Ks) : List D → Sl → Hm → Prop
  | [], σ, h => still src h ∧ K.nx σ h
  | x :: xs, σ, h => still src h ∧ onSome (bindT tp tg σ x) fun σ1 => B σ1 h { nx := forW tp tg src B K xs, rt := K.rt, bk := K.nx, ct := forW tp tg src B K xs }
/-- at most n turns of a while -/
def whlW (T : Sl → Hm → PD → Prop) (B : Sl → Hm → Ks → Prop) (K : Ks) : Nat → Sl → Hm → Prop
  | 0, _, _ => False
  | n + 1, σ, h => T σ h fun b h1 => (b = .bl true ∧ B σ h1 { nx := whlW T B K n, rt := K.rt, bk := K.nx, ct := whlW T B K n }) ∨ (b = .bl false ∧ K.nx σ h1)

/-- the text «raised» -/
def raisedT : List Nat := [114, 97, 105, 115, 101, 100]

mutual
def wpS (Γ : Gam) (X : PX) : S → Sl → Hm → Ks → Prop
  | .ex e, σ, h, K => wpE Γ X e σ h fun _ h => K.nx σ h
  | .set i e, σ, h, K => wpE Γ X e σ h fun d h => K.nx (σ.set i (some d)) h
  | .par is es, σ, h, K => wpEs Γ X es σ h fun ds h => K.nx (setAll σ is ds) h
  | .sub o k v, σ, h, K => wpE Γ X v σ h fun z h => wpE Γ X o σ h fun x h => wpE Γ X k σ h fun y h => onSome (subD h x y z) fun h => K.nx σ h
  | .fld o f v, σ, h, K => wpE Γ X v σ h fun z h => wpE Γ X o σ h fun x h => ∃ n c fs, x = .loc n ∧ (h[n]? = some (.ins c fs) ∧ Γ.okf c f = true) ∧ fs.length < 100 ∧ K.nx σ (h.set n (.ins c (fput fs f z)))
  | .aug i o e, σ, h, K => ∃ x, σ[i]? = some (some x) ∧ wpE Γ X e σ h fun y h => onSome (augD o x y) fun z => K.nx (σ.set i (some z)) h
  | .augs o k op e, σ, h, K => wpE Γ X o σ h fun x h => wpE Γ X k σ h fun y h => ∃ n, x = .loc n ∧ onSome (ixD h x y) fun u => wpE Γ X e σ h fun v h => onSome (augD op u v) fun z => onSome (subD h x y z) fun h => K.nx σ h
  | .augf o f op e, σ, h, K => wpE Γ X o σ h fun x h => ∃ n c fs u, x = .loc n ∧ (h[n]? = some (.ins c fs) ∧ Γ.okf c f = true) ∧ fget fs f = some u ∧ wpE Γ X e σ h fun v h => ∃ fs', h[n]? = some (.ins c fs') ∧
      onSome (augD op u v) fun z => fs'.length < 100 ∧ K.nx σ (h.set n (.ins c (fput fs' f z)))
  | .ite t a b, σ, h, K => wpE Γ X t σ h fun x h => (x = .bl true ∧ wpSs Γ X a σ h K) ∨ (x = .bl false ∧ wpSs Γ X b σ h K)
  | .for tp tg it b, σ, h, K => wpI Γ X it σ h fun xs src h => forW tp tg src (wpSs Γ X b) K xs σ h
  | .whl t b, σ, h, K => ∃ n, whlW (wpE Γ X t) (wpSs Γ X b) K n σ h
  | .ret e, σ, h, K => wpE Γ X e σ h K.rt
  | .rai c, _, h, _ => X c h
  | .brk, σ, h, K => K.bk σ h
  | .pss, σ, h, K => K.nx σ h
  | .try b, σ, h, K => wpSs Γ (fun c h' => c < 8 ∧ K.rt (.tup [.str raisedT, .int c]) h') b σ h K
  | _, _, _, _ => False
def wpSs (Γ : Gam) (X : PX) : Ss → Sl → Hm → Ks → Prop
  | .nil, σ, h, K => K.nx σ h
  | .cons s ss, σ, h, K => wpS Γ X s σ h { K with nx := fun σ h => wpSs Γ X ss σ h K }
end

/-- a def: how many parameters, how many slots, its body -/
structure Df where
  np : Nat
  ns : Nat
  body : Ss
def start (ns : Nat) (ds : List D) : Sl := ds.map some ++ List.replicate (ns - ds.length) none
/- the objects of a value and of a heap stand below n -/
mutual
def below (n : Nat) : D → Bool
  | .tup ds => belows n ds
  | .lst ds => belows n ds
  | .loc m => decide (m < n)
  | _ => true
def belows (n : Nat) : List D → Bool
  | [] => true
  | d :: ds => below n d && belows n ds
end
def belowO (n : Nat) : MO → Bool
  | .lst ds => belows n ds
  | .sd kvs => kvs.all fun p => below n p.2
  | .kd kvs => kvs.all fun p => below n p.1 && below n p.2
  | .ins _ fs => fs.all fun p => below n p.2
  | .frz kvs => kvs.all fun p => below n p.1 && below n p.2
def WF (h : Hm) : Prop := ∀ o ∈ h, belowO h.length o = true
/-- what a def's body must reach: the wish Q at what it gives, where objects behind the n0-th that nobody needs are dropped -/
def dropQ (n0 : Nat) (Q : PD) : PD := fun d h => ∃ n, n0 ≤ n ∧ n ≤ h.length ∧ below n d = true ∧ (∀ o ∈ h.take n, belowO n o = true) ∧ Q d (h.take n)
def dropX (n0 : Nat) (X : PX) : PX := fun c h => ∃ n, n0 ≤ n ∧ n ≤ h.length ∧ (∀ o ∈ h.take n, belowO n o = true) ∧ X c (h.take n)
def wpF (Γ : Gam) (f : Df) (ds : List D) (h : Hm) (Q : PD) (X : PX) : Prop :=
  ds.length = f.np ∧ wpSs Γ (dropX h.length X) f.body (start f.ns ds) h { nx := fun _ h' => dropQ h.length Q .non h', rt := dropQ h.length Q, bk := fun _ _ => False, ct := fun _ _ => False }
end Mi

set_option linter.all false
namespace Mi
/-! ## monotonicity -/
theorem onSome_mono {α : Type} {o : Option α} {Q Q' : α → Prop} (h : ∀ a, Q a → Q' a) : onSome o Q → onSome o Q' := fun ⟨a, e, q⟩ => ⟨a, e, h a q⟩
/-- the meaning of the defs around is monotone in what is wanted -/
def Gam.Mono (Γ : Gam) : Prop := ∀ f ds h Q Q' X X', (∀ d h, Q d h → Q' d h) → (∀ c h, X c h → X' c h) → Γ.call f ds h Q X → Γ.call f ds h Q' X'

theorem compW_mono {tp tg σ src} {T V T' V' : Sl → Hm → PD → Prop} (hT : ∀ σ h Q Q', (∀ d h, Q d h → Q' d h) → T σ h Q → T' σ h Q') (hV : ∀ σ h Q Q', (∀ d h, Q d h → Q' d h) → V σ h Q → V' σ h Q') :
    ∀ (xs acc : List D) (h : Hm) (Q Q' : List D → Hm → Prop), (∀ d h, Q d h → Q' d h) → compW tp tg σ src T V xs acc h Q → compW tp tg σ src T' V' xs acc h Q'
  | [], acc, h, Q, Q', hQ, w => ⟨w.1, hQ _ _ w.2⟩
  | x :: xs, acc, h, Q, Q', hQ, w => ⟨w.1, onSome_mono (fun σ1 w => hT _ _ _ _ (fun b h1 w => by
      rcases w with ⟨e, w⟩ | ⟨e, w⟩
      · exact .inl ⟨e, hV _ _ _ _ (fun y h2 w => compW_mono hT hV xs _ _ _ _ hQ w) w⟩
      · exact .inr ⟨e, compW_mono hT hV xs _ _ _ _ hQ w⟩) w) w.2⟩

mutual
theorem wpE_mono {Γ : Gam} (hΓ : Γ.Mono) : ∀ (e : E) (X X' : PX) (σ : Sl) (h : Hm) (Q Q' : PD), (∀ c h, X c h → X' c h) → (∀ d h, Q d h → Q' d h) → wpE Γ X e σ h Q → wpE Γ X' e σ h Q'
  | .non, X, X', σ, h, Q, Q', hX, hQ, w => by simp only [wpE] at w ⊢; exact hQ _ _ w
  | .bl b, X, X', σ, h, Q, Q', hX, hQ, w => by simp only [wpE] at w ⊢; exact hQ _ _ w
  | .int i, X, X', σ, h, Q, Q', hX, hQ, w => by simp only [wpE] at w ⊢; exact hQ _ _ w
  | .str s, X, X', σ, h, Q, Q', hX, hQ, w => by simp only [wpE] at w ⊢; exact hQ _ _ w
  | .var i, X, X', σ, h, Q, Q', hX, hQ, w => by simp only [wpE] at w ⊢; obtain ⟨d, e, w⟩ := w; exact ⟨d, e, hQ _ _ w⟩
  | .gl g, X, X', σ, h, Q, Q', hX, hQ, w => by simp only [wpE] at w ⊢; exact onSome_mono (fun _ w => hQ _ _ w) w
  | .fn f, X, X', σ, h, Q, Q', hX, hQ, w => by simp only [wpE] at w ⊢; exact hQ _ _ w
  | .tup es, X, X', σ, h, Q, Q', hX, hQ, w => by simp only [wpE] at w ⊢; exact wpEs_mono hΓ es _ _ _ _ _ _ hX (fun _ _ w => ⟨w.1, hQ _ _ w.2⟩) w
  | .lst es, X, X', σ, h, Q, Q', hX, hQ, w => by simp only [wpE] at w ⊢; exact wpEs_mono hΓ es _ _ _ _ _ _ hX (fun _ _ w => ⟨w.1, hQ _ _ w.2⟩) w
  | .mk e, X, X', σ, h, Q, Q', hX, hQ, w => by simp only [wpE] at w ⊢; exact wpE_mono hΓ e _ _ _ _ _ _ hX (fun _ _ ⟨ds, e, w⟩ => ⟨ds, e, hQ _ _ w⟩) w
  | .dnew k, X, X', σ, h, Q, Q', hX, hQ, w => by simp only [wpE] at w ⊢; exact hQ _ _ w
  | .done k v, X, X', σ, h, Q, Q', hX, hQ, w => by
    simp only [wpE] at w ⊢
    exact wpE_mono hΓ k _ _ _ _ _ _ hX (fun _ _ w => wpE_mono hΓ v _ _ _ _ _ _ hX (fun _ _ w => ⟨w.1, hQ _ _ w.2⟩) w) w
  | .fld e f, X, X', σ, h, Q, Q', hX, hQ, w => by
    simp only [wpE] at w ⊢
    exact wpE_mono hΓ e _ _ _ _ _ _ hX (fun _ _ ⟨n, c, fs, v, a, b, d, w⟩ => ⟨n, c, fs, v, a, b, d, hQ _ _ w⟩) w
  | .ix a b, X, X', σ, h, Q, Q', hX, hQ, w => by
    simp only [wpE] at w ⊢
    exact wpE_mono hΓ a _ _ _ _ _ _ hX (fun _ _ w => wpE_mono hΓ b _ _ _ _ _ _ hX (fun _ _ w => onSome_mono (fun _ w => hQ _ _ w) w) w) w
  | .sl a lo hi, X, X', σ, h, Q, Q', hX, hQ, w => by
    simp only [wpE] at w ⊢
    exact wpE_mono hΓ a _ _ _ _ _ _ hX (fun _ _ w => wpE_mono hΓ lo _ _ _ _ _ _ hX (fun _ _ w => onSome_mono (fun _ w => wpE_mono hΓ hi _ _ _ _ _ _ hX (fun _ _ w =>
      onSome_mono (fun _ w => onSome_mono (fun _ w => hQ _ _ w) w) w) w) w) w) w
  | .neg a, X, X', σ, h, Q, Q', hX, hQ, w => by
    simp only [wpE] at w ⊢
    exact wpE_mono hΓ a _ _ _ _ _ _ hX (fun _ _ ⟨i, e, w⟩ => ⟨i, e, hQ _ _ w⟩) w
  | .op o a b, X, X', σ, h, Q, Q', hX, hQ, w => by
    simp only [wpE] at w ⊢
    exact wpE_mono hΓ a _ _ _ _ _ _ hX (fun _ _ w => wpE_mono hΓ b _ _ _ _ _ _ hX (fun _ _ w => onSome_mono (fun _ w => hQ _ _ w) w) w) w
  | .opl o a b, X, X', σ, h, Q, Q', hX, hQ, w => by
    simp only [wpE] at w ⊢
    exact wpE_mono hΓ a _ _ _ _ _ _ hX (fun _ _ w => wpE_mono hΓ b _ _ _ _ _ _ hX (fun _ _ w => onSome_mono (fun _ w => hQ _ _ w) w) w) w
  | .cmp o a b, X, X', σ, h, Q, Q', hX, hQ, w => by
    simp only [wpE] at w ⊢
    exact wpE_mono hΓ a _ _ _ _ _ _ hX (fun _ _ w => wpE_mono hΓ b _ _ _ _ _ _ hX (fun _ _ w => onSome_mono (fun _ w => hQ _ _ w) w) w) w
  | .chain a b c, X, X', σ, h, Q, Q', hX, hQ, w => by
    simp only [wpE] at w ⊢
    exact wpE_mono hΓ a _ _ _ _ _ _ hX (fun _ _ w => wpE_mono hΓ b _ _ _ _ _ _ hX (fun _ _ ⟨i, j, e1, e2, w1, w2⟩ => ⟨i, j, e1, e2,
      fun l => wpE_mono hΓ c _ _ _ _ _ _ hX (fun _ _ ⟨k, e, w⟩ => ⟨k, e, hQ _ _ w⟩) (w1 l), fun l => hQ _ _ (w2 l)⟩) w) w
  | .and a b, X, X', σ, h, Q, Q', hX, hQ, w => by
    simp only [wpE] at w ⊢
    exact wpE_mono hΓ a _ _ _ _ _ _ hX (fun _ _ w => w.elim (fun w => .inl ⟨w.1, wpE_mono hΓ b _ _ _ _ _ _ hX hQ w.2⟩) fun w => .inr ⟨w.1, hQ _ _ w.2⟩) w
  | .or a b, X, X', σ, h, Q, Q', hX, hQ, w => by
    simp only [wpE] at w ⊢
    exact wpE_mono hΓ a _ _ _ _ _ _ hX (fun _ _ w => w.elim (fun w => .inl ⟨w.1, hQ _ _ w.2⟩) fun w => .inr ⟨w.1, wpE_mono hΓ b _ _ _ _ _ _ hX hQ w.2⟩) w
  | .not a, X, X', σ, h, Q, Q', hX, hQ, w => by
    simp only [wpE] at w ⊢
    exact wpE_mono hΓ a _ _ _ _ _ _ hX (fun _ _ ⟨i, e, w⟩ => ⟨i, e, hQ _ _ w⟩) w
  | .tru a, X, X', σ, h, Q, Q', hX, hQ, w => by
    simp only [wpE] at w ⊢
    exact wpE_mono hΓ a _ _ _ _ _ _ hX (fun _ _ w => onSome_mono (fun _ w => hQ _ _ w) w) w
  | .ite t a b, X, X', σ, h, Q, Q', hX, hQ, w => by
    simp only [wpE] at w ⊢
    exact wpE_mono hΓ t _ _ _ _ _ _ hX (fun _ _ w => w.elim (fun w => .inl ⟨w.1, wpE_mono hΓ a _ _ _ _ _ _ hX hQ w.2⟩) fun w => .inr ⟨w.1, wpE_mono hΓ b _ _ _ _ _ _ hX hQ w.2⟩) w
  | .call f es, X, X', σ, h, Q, Q', hX, hQ, w => by
    simp only [wpE] at w ⊢
    exact wpEs_mono hΓ es _ _ _ _ _ _ hX (fun _ _ w => hΓ _ _ _ _ _ _ _ hQ hX w) w
  | .make c es, X, X', σ, h, Q, Q', hX, hQ, w => by
    simp only [wpE] at w ⊢
    exact wpEs_mono hΓ es _ _ _ _ _ _ hX (fun _ _ w => hΓ _ _ _ _ _ _ _ (fun _ _ w => ⟨w.1, hQ _ _ w.2⟩) hX w) w
  | .meth m o es, X, X', σ, h, Q, Q', hX, hQ, w => by
    simp only [wpE] at w ⊢
    exact wpE_mono hΓ o _ _ _ _ _ _ hX (fun _ _ ⟨n, fs, e1, e2, w⟩ => ⟨n, fs, e1, e2, wpEs_mono hΓ es _ _ _ _ _ _ hX (fun _ _ w => hΓ _ _ _ _ _ _ _ hQ hX w) w⟩) w
  | .callv f es, X, X', σ, h, Q, Q', hX, hQ, w => by
    simp only [wpE] at w ⊢
    exact wpE_mono hΓ f _ _ _ _ _ _ hX (fun _ _ ⟨n, e1, w⟩ => ⟨n, e1, wpEs_mono hΓ es _ _ _ _ _ _ hX (fun _ _ w => hΓ _ _ _ _ _ _ _ hQ hX w) w⟩) w
  | .bi b es, X, X', σ, h, Q, Q', hX, hQ, w => by
    simp only [wpE] at w ⊢
    exact wpEs_mono hΓ es _ _ _ _ _ _ hX (fun _ _ w => onSome_mono (fun _ w => hQ _ _ w) w) w
  | .bim b o es, X, X', σ, h, Q, Q', hX, hQ, w => by
    simp only [wpE] at w ⊢
    exact wpE_mono hΓ o _ _ _ _ _ _ hX (fun _ _ ⟨k, w⟩ => ⟨k, wpEs_mono hΓ es _ _ _ _ _ _ hX (fun _ _ w => onSome_mono (fun _ w => hQ _ _ w) w) w⟩) w
  | .isi e t, X, X', σ, h, Q, Q', hX, hQ, w => by
    simp only [wpE] at w ⊢
    exact wpE_mono hΓ e _ _ _ _ _ _ hX (fun _ _ w => onSome_mono (fun _ w => hQ _ _ w) w) w
  | .comp tp tg it t e, X, X', σ, h, Q, Q', hX, hQ, w => by
    simp only [wpE] at w ⊢
    exact wpI_mono hΓ it _ _ _ _ _ _ hX (fun _ _ _ w => ⟨w.1, compW_mono (T' := wpE Γ (fun _ _ => False) t) (V' := wpE Γ (fun _ _ => False) e) (fun σ h Q Q' hq w => wpE_mono hΓ t _ _ σ h Q Q' (fun _ _ z => z) hq w) (fun σ h Q Q' hq w => wpE_mono hΓ e _ _ σ h Q Q' (fun _ _ z => z) hq w) _ _ _ _ _ (fun _ _ w => hQ _ _ w) w.2⟩) w
  | .dcomp _ _ _, _, _, _, _, _, _, _, _, w => by simp only [wpE] at w
  | .rng _, _, _, _, _, _, _, _, _, w => by simp only [wpE] at w
  | .rng2 _ _, _, _, _, _, _, _, _, _, w => by simp only [wpE] at w
  | .zip _ _, _, _, _, _, _, _, _, _, w => by simp only [wpE] at w
  | .enum _, _, _, _, _, _, _, _, _, w => by simp only [wpE] at w
  | .keys _, _, _, _, _, _, _, _, _, w => by simp only [wpE] at w
theorem wpEs_mono {Γ : Gam} (hΓ : Γ.Mono) : ∀ (es : Es) (X X' : PX) (σ : Sl) (h : Hm) (Q Q' : List D → Hm → Prop), (∀ c h, X c h → X' c h) → (∀ d h, Q d h → Q' d h) → wpEs Γ X es σ h Q → wpEs Γ X' es σ h Q'
  | .nil, X, X', σ, h, Q, Q', hX, hQ, w => by simp only [wpEs] at w ⊢; exact hQ _ _ w
  | .cons e es, X, X', σ, h, Q, Q', hX, hQ, w => by
    simp only [wpEs] at w ⊢
    exact wpE_mono hΓ e _ _ _ _ _ _ hX (fun _ _ w => wpEs_mono hΓ es _ _ _ _ _ _ hX (fun _ _ w => hQ _ _ w) w) w
theorem wpI_mono {Γ : Gam} (hΓ : Γ.Mono) : ∀ (e : E) (X X' : PX) (σ : Sl) (h : Hm) (Q Q' : List D → Src → Hm → Prop), (∀ c h, X c h → X' c h) → (∀ d s h, Q d s h → Q' d s h) → wpI Γ X e σ h Q → wpI Γ X' e σ h Q' := by
  intro e X X' σ h Q Q' hX hQ w
  have D := wpE_mono hΓ e
  cases e <;> first
    | (simp only [wpI] at w ⊢; exact D _ _ _ _ _ _ hX (fun _ _ w => onSome_mono (fun _ w => hQ _ _ _ w) w) w)
    | skip
  case rng a =>
    simp only [wpI] at w ⊢
    exact wpE_mono hΓ a _ _ _ _ _ _ hX (fun _ _ ⟨n, e, b1, b2, w⟩ => ⟨n, e, b1, b2, hQ _ _ _ w⟩) w
  case rng2 a b =>
    simp only [wpI] at w ⊢
    exact wpE_mono hΓ a _ _ _ _ _ _ hX (fun _ _ w => wpE_mono hΓ b _ _ _ _ _ _ hX (fun _ _ ⟨i, j, e1, e2, b, w⟩ => ⟨i, j, e1, e2, b, hQ _ _ _ w⟩) w) w
  case zip a b =>
    simp only [wpI] at w ⊢
    exact wpE_mono hΓ a _ _ _ _ _ _ hX (fun _ _ w => wpE_mono hΓ b _ _ _ _ _ _ hX (fun _ _ w => onSome_mono (fun _ w => hQ _ _ _ w) w) w) w
  case enum a =>
    simp only [wpI] at w ⊢
    exact wpE_mono hΓ a _ _ _ _ _ _ hX (fun _ _ w => onSome_mono (fun _ w => hQ _ _ _ w) w) w
end

/-- one wish is weaker than another -/
structure Ks.Le (K K' : Ks) : Prop where
  nx : ∀ σ h, K.nx σ h → K'.nx σ h
  rt : ∀ d h, K.rt d h → K'.rt d h
  bk : ∀ σ h, K.bk σ h → K'.bk σ h
  ct : ∀ σ h, K.ct σ h → K'.ct σ h
theorem forW_mono {tp tg src} {B B' : Sl → Hm → Ks → Prop} (hB : ∀ σ h K K', K.Le K' → B σ h K → B' σ h K') {K K' : Ks} (hK : K.Le K') : ∀ (xs : List D) (σ : Sl) (h : Hm), forW tp tg src B K xs σ h → forW tp tg src B' K' xs σ h
  | [], σ, h, w => ⟨w.1, hK.nx _ _ w.2⟩
  | x :: xs, σ, h, w => ⟨w.1, onSome_mono (fun σ1 w => hB _ _ { nx := forW tp tg src B K xs, rt := K.rt, bk := K.nx, ct := forW tp tg src B K xs } _ ⟨fun _ _ w => forW_mono hB hK xs _ _ w, hK.rt, hK.nx, fun _ _ w => forW_mono hB hK xs _ _ w⟩ w) w.2⟩
theorem whlW_mono {T T' : Sl → Hm → PD → Prop} {B B' : Sl → Hm → Ks → Prop} (hT : ∀ σ h Q Q', (∀ d h, Q d h → Q' d h) → T σ h Q → T' σ h Q') (hB : ∀ σ h K K', K.Le K' → B σ h K → B' σ h K') {K K' : Ks} (hK : K.Le K') :
    ∀ (n : Nat) (σ : Sl) (h : Hm), whlW T B K n σ h → whlW T' B' K' n σ h
  | 0, _, _, w => w
  | n + 1, σ, h, w => hT _ _ _ _ (fun b h1 w => w.elim (fun w => .inl ⟨w.1, hB _ _ { nx := whlW T B K n, rt := K.rt, bk := K.nx, ct := whlW T B K n } _ ⟨fun _ _ w => whlW_mono hT hB hK n _ _ w, hK.rt, hK.nx, fun _ _ w => whlW_mono hT hB hK n _ _ w⟩ w.2⟩) fun w => .inr ⟨w.1, hK.nx _ _ w.2⟩) w

mutual
theorem wpS_mono {Γ : Gam} (hΓ : Γ.Mono) : ∀ (s : S) (X X' : PX) (σ : Sl) (h : Hm) (K K' : Ks), (∀ c h, X c h → X' c h) → K.Le K' → wpS Γ X s σ h K → wpS Γ X' s σ h K'
  | .ex e, X, X', σ, h, K, K', hX, hK, w => by simp only [wpS] at w ⊢; exact wpE_mono hΓ e _ _ _ _ _ _ hX (fun _ _ w => hK.nx _ _ w) w
  | .set i e, X, X', σ, h, K, K', hX, hK, w => by simp only [wpS] at w ⊢; exact wpE_mono hΓ e _ _ _ _ _ _ hX (fun _ _ w => hK.nx _ _ w) w
  | .par is es, X, X', σ, h, K, K', hX, hK, w => by simp only [wpS] at w ⊢; exact wpEs_mono hΓ es _ _ _ _ _ _ hX (fun _ _ w => hK.nx _ _ w) w
  | .sub o k v, X, X', σ, h, K, K', hX, hK, w => by
    simp only [wpS] at w ⊢
    exact wpE_mono hΓ v _ _ _ _ _ _ hX (fun _ _ w => wpE_mono hΓ o _ _ _ _ _ _ hX (fun _ _ w => wpE_mono hΓ k _ _ _ _ _ _ hX (fun _ _ w => onSome_mono (fun _ w => hK.nx _ _ w) w) w) w) w
  | .fld o f v, X, X', σ, h, K, K', hX, hK, w => by
    simp only [wpS] at w ⊢
    exact wpE_mono hΓ v _ _ _ _ _ _ hX (fun _ _ w => wpE_mono hΓ o _ _ _ _ _ _ hX (fun _ _ ⟨n, c, fs, e1, e2, e3, w⟩ => ⟨n, c, fs, e1, e2, e3, hK.nx _ _ w⟩) w) w
  | .aug i o e, X, X', σ, h, K, K', hX, hK, w => by
    simp only [wpS] at w ⊢
    obtain ⟨x, e1, w⟩ := w
    exact ⟨x, e1, wpE_mono hΓ e _ _ _ _ _ _ hX (fun _ _ w => onSome_mono (fun _ w => hK.nx _ _ w) w) w⟩
  | .augs o k op e, X, X', σ, h, K, K', hX, hK, w => by
    simp only [wpS] at w ⊢
    exact wpE_mono hΓ o _ _ _ _ _ _ hX (fun _ _ w => wpE_mono hΓ k _ _ _ _ _ _ hX (fun _ _ ⟨n, en, w⟩ => ⟨n, en, onSome_mono (fun _ w => wpE_mono hΓ e _ _ _ _ _ _ hX (fun _ _ w => onSome_mono (fun _ w => onSome_mono (fun _ w => hK.nx _ _ w) w) w) w) w⟩) w) w
  | .augf o f op e, X, X', σ, h, K, K', hX, hK, w => by
    simp only [wpS] at w ⊢
    exact wpE_mono hΓ o _ _ _ _ _ _ hX (fun _ _ ⟨n, c, fs, u, e1, e2, e3, w⟩ => ⟨n, c, fs, u, e1, e2, e3, wpE_mono hΓ e _ _ _ _ _ _ hX (fun _ _ ⟨fs', e4, w⟩ => ⟨fs', e4, onSome_mono (fun _ w => ⟨w.1, hK.nx _ _ w.2⟩) w⟩) w⟩) w
  | .ite t a b, X, X', σ, h, K, K', hX, hK, w => by
    simp only [wpS] at w ⊢
    exact wpE_mono hΓ t _ _ _ _ _ _ hX (fun _ _ w => w.elim (fun w => .inl ⟨w.1, wpSs_mono hΓ a _ _ _ _ _ _ hX hK w.2⟩) fun w => .inr ⟨w.1, wpSs_mono hΓ b _ _ _ _ _ _ hX hK w.2⟩) w
  | .for tp tg it b, X, X', σ, h, K, K', hX, hK, w => by
    simp only [wpS] at w ⊢
    exact wpI_mono hΓ it _ _ _ _ _ _ hX (fun _ _ _ w => forW_mono (B' := wpSs Γ X' b) (fun σ h K K' hk w => wpSs_mono hΓ b _ _ σ h K K' hX hk w) hK _ _ _ w) w
  | .fork _ _ _, _, _, _, _, _, _, _, _, w => by simp only [wpS] at w
  | .whl t b, X, X', σ, h, K, K', hX, hK, w => by
    simp only [wpS] at w ⊢
    obtain ⟨n, w⟩ := w
    exact ⟨n, whlW_mono (T' := wpE Γ X' t) (B' := wpSs Γ X' b) (fun σ h Q Q' hq w => wpE_mono hΓ t _ _ σ h Q Q' hX hq w) (fun σ h K K' hk w => wpSs_mono hΓ b _ _ σ h K K' hX hk w) hK _ _ _ w⟩
  | .ret e, X, X', σ, h, K, K', hX, hK, w => by simp only [wpS] at w ⊢; exact wpE_mono hΓ e _ _ _ _ _ _ hX hK.rt w
  | .rai c, X, X', σ, h, K, K', hX, hK, w => by simp only [wpS] at w ⊢; exact hX _ _ w
  | .brk, X, X', σ, h, K, K', hX, hK, w => by simp only [wpS] at w ⊢; exact hK.bk _ _ w
  | .pss, X, X', σ, h, K, K', hX, hK, w => by simp only [wpS] at w ⊢; exact hK.nx _ _ w
  | .try b, X, X', σ, h, K, K', hX, hK, w => by simp only [wpS] at w ⊢; exact wpSs_mono hΓ b _ _ _ _ _ _ (fun c h' w => ⟨w.1, hK.rt (.tup [.str raisedT, .int c]) h' w.2⟩) hK w
theorem wpSs_mono {Γ : Gam} (hΓ : Γ.Mono) : ∀ (s : Ss) (X X' : PX) (σ : Sl) (h : Hm) (K K' : Ks), (∀ c h, X c h → X' c h) → K.Le K' → wpSs Γ X s σ h K → wpSs Γ X' s σ h K'
  | .nil, X, X', σ, h, K, K', hX, hK, w => by simp only [wpSs] at w ⊢; exact hK.nx _ _ w
  | .cons s ss, X, X', σ, h, K, K', hX, hK, w => by
    simp only [wpSs] at w ⊢
    exact wpS_mono hΓ s _ _ _ _ { K with nx := fun σ h => wpSs Γ X ss σ h K } _ hX ⟨fun _ _ w => wpSs_mono hΓ ss _ _ _ _ _ _ hX hK w, hK.rt, hK.bk, hK.ct⟩ w
end
end Mi

set_option linter.all false
set_option maxHeartbeats 4000000
namespace Mi
/-! ## running Mini: an evaluator that is sound for wp -/
inductive Rr (α : Type) where
  | ok (a : α) (h : Hm)
  | ex (c : Nat) (h : Hm)
def Rr.sat {α : Type} (r : Rr α) (Q : α → Hm → Prop) (X : PX) : Prop := match r with
  | .ok a h => Q a h
  | .ex c h => X c h
@[inline] def bnR {α β : Type} (x : Option (Rr α)) (k : α → Hm → Option (Rr β)) : Option (Rr β) := match x with
  | none => none
  | some (.ok a h) => k a h
  | some (.ex c h) => some (.ex c h)
def okR {α : Type} (a : α) (h : Hm) : Option (Rr α) := some (.ok a h)
/-- the surroundings, to be run -/
structure RG where
  call : Nat → List D → Hm → Option (Rr D)
  gl : Nat → Option D
  mcls : Nat → Nat
  init : Nat → Nat
  okf : Nat → Nat → Bool
structure RG.Snd (g : RG) (Γ : Gam) : Prop where
  gl : Γ.gl = g.gl
  mcls : Γ.mcls = g.mcls
  init : Γ.init = g.init
  okf : Γ.okf = g.okf
  call : ∀ f ds h r Q X, g.call f ds h = some r → r.sat Q X → Γ.call f ds h Q X
/- the same data -/
mutual
def beqD : D → D → Bool
  | .non, .non => true
  | .bl a, .bl b => a == b
  | .int i, .int j => i == j
  | .str x, .str y => x == y
  | .tup xs, .tup ys => beqDs xs ys
  | .lst xs, .lst ys => beqDs xs ys
  | .loc m, .loc n => m == n
  | .fn m, .fn n => m == n
  | .scr x, .scr y => x == y
  | _, _ => false
def beqDs : List D → List D → Bool
  | [], [] => true
  | x :: xs, y :: ys => beqD x y && beqDs xs ys
  | _, _ => false
end
mutual
theorem beqD_eq : ∀ {a b : D}, beqD a b = true → a = b
  | .non, b, h => by cases b <;> simp [beqD] at h ⊢
  | .bl a, b, h => by cases b <;> simp [beqD] at h ⊢ <;> exact h
  | .int a, b, h => by cases b <;> simp [beqD] at h ⊢ <;> exact h
  | .str a, b, h => by cases b <;> simp [beqD] at h ⊢ <;> exact h
  | .tup a, b, h => by cases b <;> simp [beqD] at h ⊢ <;> exact beqDs_eq h
  | .lst a, b, h => by cases b <;> simp [beqD] at h ⊢ <;> exact beqDs_eq h
  | .loc a, b, h => by cases b <;> simp [beqD] at h ⊢ <;> exact h
  | .fn a, b, h => by cases b <;> simp [beqD] at h ⊢ <;> exact h
  | .scr a, b, h => by cases b <;> simp [beqD] at h ⊢ <;> exact h
theorem beqDs_eq : ∀ {a b : List D}, beqDs a b = true → a = b
  | [], [], h => rfl
  | [], y :: b, h => by simp [beqDs] at h
  | x :: a, [], h => by simp [beqDs] at h
  | x :: a, y :: b, h => by
    simp only [beqDs, Bool.and_eq_true] at h
    rw [beqD_eq h.1, beqDs_eq h.2]
end
def stillB (s : Src) (h : Hm) : Bool := match s with
  | none => true
  | some (n, .lst ds) => match h[n]? with
    | some (.lst es) => beqDs es ds
    | _ => false
  | _ => false
theorem stillB_ok {s : Src} {h : Hm} (e : stillB s h = true) : still s h := by
  unfold stillB at e
  split at e
  · trivial
  · next n ds =>
    split at e
    · next es q => show _ = _; rw [q, beqDs_eq e]
    · cases e
  · cases e
/-- the turns of a comprehension -/
def compR (tp : Bool) (tg : List Nat) (σ : Sl) (src : Src) (T V : Sl → Hm → Option (Rr D)) : List D → List D → Hm → Option (Rr (List D))
  | [], acc, h => if stillB src h then some (.ok acc.reverse h) else none
  | x :: xs, acc, h => if stillB src h then match bindT tp tg (wipe σ tg) x with
      | some σ1 => match T σ1 h with
        | some (.ok (.bl true) h1) => match V σ1 h1 with
          | some (.ok y h2) => compR tp tg σ src T V xs (y :: acc) h2
          | _ => none
        | some (.ok (.bl false) h1) => compR tp tg σ src T V xs acc h1
        | _ => none
      | none => none
    else none

/-- the two runs of an expression: as a value, as what is walked -/
structure EvPr where
  v : Sl → Hm → Option (Rr D)
  i : Sl → Hm → Option (Rr (List D × Src))
def mkI (f : Sl → Hm → Option (Rr D)) (σ : Sl) (h : Hm) : Option (Rr (List D × Src)) := bnR (f σ h) fun x h => match srcOf h x with
  | some u => okR u h
  | none => none
def gen (f : Sl → Hm → Option (Rr D)) : EvPr := ⟨f, mkI f⟩
mutual
def evB (g : RG) : E → EvPr
  | .non => gen fun _ h => okR .non h
  | .bl b => gen fun _ h => okR (.bl b) h
  | .int i => gen fun _ h => okR (.int i) h
  | .str s => gen fun _ h => okR (.str s) h
  | .var i => gen fun σ h => match σ[i]? with
    | some (some d) => okR d h
    | _ => none
  | .gl k => gen fun _ h => match g.gl k with
    | some d => okR d h
    | none => none
  | .fn f => gen fun _ h => okR (.fn f) h
  | .tup es => gen fun σ h => bnR (evEs g es σ h) fun ds h => if ds.length ≤ lim then okR (.tup ds) h else none
  | .lst es => gen fun σ h => bnR (evEs g es σ h) fun ds h => if ds.length ≤ lim then okR (.lst ds) h else none
  | .mk e => gen fun σ h => bnR ((evB g e).v σ h) fun d h => match d with
    | .lst ds => okR (.loc h.length) (h ++ [.lst ds])
    | _ => none
  | .dnew k => gen fun _ h => okR (.loc h.length) (h ++ [if k then .kd [] else .sd []])
  | .done k v => gen fun σ h => bnR ((evB g k).v σ h) fun x h => bnR ((evB g v).v σ h) fun y h => if isKey x = true then okR (.loc h.length) (h ++ [.kd [(x, y)]]) else none
  | .fld e f => gen fun σ h => bnR ((evB g e).v σ h) fun d h => match d with
    | .loc n => match h[n]? with
      | some (.ins c fs) => if g.okf c f = true then (match fget fs f with | some v => okR v h | none => none) else none
      | _ => none
    | _ => none
  | .ix a b => gen fun σ h => bnR ((evB g a).v σ h) fun x h => bnR ((evB g b).v σ h) fun y h => match ixD h x y with
    | some d => okR d h
    | none => none
  | .sl a lo hi => gen fun σ h => bnR ((evB g a).v σ h) fun x h => bnR ((evB g lo).v σ h) fun l h => match bnd lo l with
    | some l => bnR ((evB g hi).v σ h) fun u h => match bnd hi u with
      | some u => match slD h x l u with
        | some d => okR d h
        | none => none
      | none => none
    | none => none
  | .neg a => gen fun σ h => bnR ((evB g a).v σ h) fun x h => match x with
    | .int i => okR (.int (-i)) h
    | _ => none
  | .op o a b => gen fun σ h => bnR ((evB g a).v σ h) fun x h => bnR ((evB g b).v σ h) fun y h => match opD h o x y with
    | some d => okR d h
    | none => none
  | .opl o a b => gen fun σ h => bnR ((evB g a).v σ h) fun x h => bnR ((evB g b).v σ h) fun y h => match opL h o x y with
    | some d => okR (.lst d) h
    | none => none
  | .cmp o a b => gen fun σ h => bnR ((evB g a).v σ h) fun x h => bnR ((evB g b).v σ h) fun y h => match cmB h o x y with
    | some d => okR (.bl d) h
    | none => none
  | .chain a b c => gen fun σ h => bnR ((evB g a).v σ h) fun x h => bnR ((evB g b).v σ h) fun y h => match x, y with
    | .int i, .int j => if i ≤ j then bnR ((evB g c).v σ h) fun z h => (match z with
        | .int k => okR (.bl (decide (j ≤ k))) h
        | _ => none) else okR (.bl false) h
    | _, _ => none
  | .and a b => gen fun σ h => bnR ((evB g a).v σ h) fun x h => match x with
    | .bl true => (evB g b).v σ h
    | .bl false => okR (.bl false) h
    | _ => none
  | .or a b => gen fun σ h => bnR ((evB g a).v σ h) fun x h => match x with
    | .bl true => okR (.bl true) h
    | .bl false => (evB g b).v σ h
    | _ => none
  | .not a => gen fun σ h => bnR ((evB g a).v σ h) fun x h => match x with
    | .bl b => okR (.bl !b) h
    | _ => none
  | .tru a => gen fun σ h => bnR ((evB g a).v σ h) fun x h => match truD h x with
    | some b => okR (.bl b) h
    | none => none
  | .ite t a b => gen fun σ h => bnR ((evB g t).v σ h) fun x h => match x with
    | .bl true => (evB g a).v σ h
    | .bl false => (evB g b).v σ h
    | _ => none
  | .call f es => gen fun σ h => bnR (evEs g es σ h) fun ds h => g.call f ds h
  | .make c es => gen fun σ h => bnR (evEs g es σ h) fun ds h => bnR (g.call (g.init c) (.loc h.length :: ds) (h ++ [.ins c []])) fun d h' => match d with
    | .non => okR (.loc h.length) h'
    | _ => none
  | .meth m o es => gen fun σ h => bnR ((evB g o).v σ h) fun x h => match x with
    | .loc n => match h[n]? with
      | some (.ins c fs) => if c = g.mcls m then bnR (evEs g es σ h) fun ds h => g.call m (x :: ds) h else none
      | _ => none
    | _ => none
  | .callv f es => gen fun σ h => bnR ((evB g f).v σ h) fun x h => match x with
    | .fn f => bnR (evEs g es σ h) fun ds h => g.call f ds h
    | _ => none
  | .bi b es => gen fun σ h => bnR (evEs g es σ h) fun ds h => match biD h b ds with
    | some r => okR r.1 r.2
    | none => none
  | .bim b o es => gen fun σ h => bnR ((evB g o).v σ h) fun x h => if kindB h b x = true then bnR (evEs g es σ h) fun ds h => (match biD h b (x :: ds) with
    | some r => okR r.1 r.2
    | none => none) else none
  | .isi e t => gen fun σ h => bnR ((evB g e).v σ h) fun x h => match isiD h t x with
    | some b => okR (.bl b) h
    | none => none
  | .comp tp tg it t e => gen fun σ h => bnR ((evB g it).i σ h) fun u h => if u.1.length ≤ lim then bnR (compR tp tg σ u.2 (evB g t).v (evB g e).v u.1 [] h) fun ds h => okR (.lst ds) h else none
  | .rng a => ⟨fun _ _ => none, fun σ h => bnR ((evB g a).v σ h) fun x h => match x with
    | .int n => if -1152921504606846976 ≤ n ∧ n ≤ 1152921504606846976 then okR ((List.range n.toNat).map fun (k : Nat) => D.int (0 + (k : Int)), none) h else none
    | _ => none⟩
  | .rng2 a b => ⟨fun _ _ => none, fun σ h => bnR ((evB g a).v σ h) fun x h => bnR ((evB g b).v σ h) fun y h => match x, y with
    | .int i, .int j => if -1152921504606846976 ≤ i ∧ i ≤ 1152921504606846976 ∧ -1152921504606846976 ≤ j ∧ j ≤ 1152921504606846976 then okR ((List.range (j - i).toNat).map fun (k : Nat) => D.int (i + (k : Int)), none) h else none
    | _, _ => none⟩
  | .zip a b => ⟨fun _ _ => none, fun σ h => bnR ((evB g a).v σ h) fun x h => bnR ((evB g b).v σ h) fun y h => match zipOf x y with
    | some u => okR (u.map fun p => D.tup [p.1, p.2], none) h
    | none => none⟩
  | .enum a => ⟨fun _ _ => none, fun σ h => bnR ((evB g a).v σ h) fun x h => match enumOf x with
    | some u => okR (u.zipIdx.map fun p => D.tup [.int ((p.2 : Nat) : Int), p.1], none) h
    | none => none⟩
  | .dcomp _ _ _ => gen fun _ _ => none
  | .keys _ => gen fun _ _ => none
def evEs (g : RG) : Es → Sl → Hm → Option (Rr (List D))
  | .nil, _, h => some (.ok [] h)
  | .cons e es, σ, h => bnR ((evB g e).v σ h) fun d h => bnR (evEs g es σ h) fun ds h => okR (d :: ds) h
end
abbrev evE (g : RG) (e : E) := (evB g e).v
abbrev evI (g : RG) (e : E) := (evB g e).i

section
variable {g : RG} {Γ : Gam}
theorem bnR_some {α β : Type} {x : Option (Rr α)} {k : α → Hm → Option (Rr β)} {r : Rr β} (h : bnR x k = some r) : (∃ a h', x = some (.ok a h') ∧ k a h' = some r) ∨ (∃ c h', x = some (.ex c h') ∧ r = .ex c h') := by
  unfold bnR at h
  split at h
  · cases h
  · exact .inl ⟨_, _, rfl, h⟩
  · cases h; exact .inr ⟨_, _, rfl, rfl⟩
/-- a value's run, a list's run: sound -/
def SndE (g : RG) (Γ : Gam) (e : E) : Prop := ∀ σ h r Q X, evE g e σ h = some r → r.sat Q X → wpE Γ X e σ h Q
def SndEs (g : RG) (Γ : Gam) (e : Es) : Prop := ∀ σ h r Q X, evEs g e σ h = some r → r.sat Q X → wpEs Γ X e σ h Q
def SndI (g : RG) (Γ : Gam) (e : E) : Prop := ∀ σ h r (Q : List D → Src → Hm → Prop) X, evI g e σ h = some r → r.sat (fun u h => Q u.1 u.2 h) X → wpI Γ X e σ h Q
theorem SndE.b {e : E} (s : SndE g Γ e) {σ : Sl} {h : Hm} {β : Type} {k : D → Hm → Option (Rr β)} {r : Rr β} {Q : β → Hm → Prop} {X : PX} {Q' : PD} (q : bnR (evE g e σ h) k = some r) (hs : r.sat Q X) (hk : ∀ a h', k a h' = some r → Q' a h') : wpE Γ X e σ h Q' := by
  rcases bnR_some q with ⟨a, h', e1, e2⟩ | ⟨c, h', e1, e2⟩
  · exact s _ _ _ _ _ e1 (hk _ _ e2)
  · subst e2; exact s _ _ _ _ _ e1 hs
theorem SndEs.b {e : Es} (s : SndEs g Γ e) {σ : Sl} {h : Hm} {β : Type} {k : List D → Hm → Option (Rr β)} {r : Rr β} {Q : β → Hm → Prop} {X : PX} {Q' : List D → Hm → Prop} (q : bnR (evEs g e σ h) k = some r) (hs : r.sat Q X) (hk : ∀ a h', k a h' = some r → Q' a h') : wpEs Γ X e σ h Q' := by
  rcases bnR_some q with ⟨a, h', e1, e2⟩ | ⟨c, h', e1, e2⟩
  · exact s _ _ _ _ _ e1 (hk _ _ e2)
  · subst e2; exact s _ _ _ _ _ e1 hs
theorem SndI.b {e : E} (s : SndI g Γ e) {σ : Sl} {h : Hm} {β : Type} {k : List D × Src → Hm → Option (Rr β)} {r : Rr β} {Q : β → Hm → Prop} {X : PX} {Q' : List D → Src → Hm → Prop} (q : bnR (evI g e σ h) k = some r) (hs : r.sat Q X) (hk : ∀ u h', k u h' = some r → Q' u.1 u.2 h') : wpI Γ X e σ h Q' := by
  rcases bnR_some q with ⟨a, h', e1, e2⟩ | ⟨c, h', e1, e2⟩
  · exact s _ _ _ _ _ e1 (hk _ _ e2)
  · subst e2; exact s _ _ _ _ _ e1 hs
theorem compR_ok {tp tg σ src} {T V : Sl → Hm → Option (Rr D)} {T' V' : Sl → Hm → PD → Prop} (hT : ∀ σ h d h' Q, T σ h = some (.ok d h') → Q d h' → T' σ h Q) (hV : ∀ σ h d h' Q, V σ h = some (.ok d h') → Q d h' → V' σ h Q) :
    ∀ (xs acc : List D) (h : Hm) (r : Rr (List D)) (Q : List D → Hm → Prop) (X : PX), compR tp tg σ src T V xs acc h = some r → r.sat Q X → compW tp tg σ src T' V' xs acc.reverse h Q
  | [], acc, h, r, Q, X, e, s => by
    unfold compR at e
    split at e
    · next q => cases e; exact ⟨stillB_ok q, s⟩
    · cases e
  | x :: xs, acc, h, r, Q, X, e, s => by
    unfold compR at e
    split at e
    · next q =>
      split at e
      · next σ1 q1 =>
        refine ⟨stillB_ok q, σ1, q1, ?_⟩
        split at e
        · next h1 q2 =>
          split at e
          · next y h2 q3 =>
            refine hT _ _ _ _ _ q2 (.inl ⟨rfl, hV _ _ _ _ _ q3 ?_⟩)
            have := compR_ok hT hV xs (y :: acc) h2 r Q X e s
            rwa [List.reverse_cons] at this
          · cases e
        · next h1 q2 => exact hT _ _ _ _ _ q2 (.inr ⟨rfl, compR_ok hT hV xs acc h1 r Q X e s⟩)
        · cases e
      · cases e
    · cases e
theorem sndI_gen {e0 : E} (hv : evI g e0 = mkI (evE g e0)) (s : SndE g Γ e0) (hw : ∀ X σ h Q, wpI Γ X e0 σ h Q = wpE Γ X e0 σ h fun x h => onSome (srcOf h x) fun u => Q u.1 u.2 h) : SndI g Γ e0 := fun σ h r Q X e q => by
  rw [hv] at e
  unfold mkI at e
  rw [hw]
  refine s.b e q fun x h e => ?_
  split at e
  · next u q1 => cases e; exact ⟨_, q1, q⟩
  · cases e
mutual
theorem evE_ok (sg : g.Snd Γ) : ∀ e, SndE g Γ e
  | .non => fun σ h r Q X e s => by simp only [evE, evB, gen, okR] at e; cases e; simp only [wpE]; exact s
  | .bl b => fun σ h r Q X e s => by simp only [evE, evB, gen, okR] at e; cases e; simp only [wpE]; exact s
  | .int i => fun σ h r Q X e s => by simp only [evE, evB, gen, okR] at e; cases e; simp only [wpE]; exact s
  | .str x => fun σ h r Q X e s => by simp only [evE, evB, gen, okR] at e; cases e; simp only [wpE]; exact s
  | .var i => fun σ h r Q X e s => by
    simp only [evE, evB, gen, okR] at e
    split at e
    · next d q => cases e; simp only [wpE]; exact ⟨d, q, s⟩
    · cases e
  | .gl k => fun σ h r Q X e s => by
    simp only [evE, evB, gen, okR] at e
    split at e
    · next d q => cases e; simp only [wpE]; exact ⟨d, by rw [sg.gl]; exact q, s⟩
    · cases e
  | .fn f => fun σ h r Q X e s => by simp only [evE, evB, gen, okR] at e; cases e; simp only [wpE]; exact s
  | .tup es => fun σ h r Q X e s => by
    simp only [evE, evB, gen] at e
    simp only [wpE]
    refine (evEs_ok sg es).b e s fun ds h e => ?_
    split at e
    · next l => cases e; exact ⟨l, s⟩
    · cases e
  | .lst es => fun σ h r Q X e s => by
    simp only [evE, evB, gen] at e
    simp only [wpE]
    refine (evEs_ok sg es).b e s fun ds h e => ?_
    split at e
    · next l => cases e; exact ⟨l, s⟩
    · cases e
  | .mk a => fun σ h r Q X e s => by
    simp only [evE, evB, gen] at e
    simp only [wpE]
    refine (evE_ok sg a).b e s fun ds h e => ?_
    split at e
    · next l => cases e; exact ⟨_, rfl, s⟩
    · cases e
  | .dnew k => fun σ h r Q X e s => by simp only [evE, evB, gen, okR] at e; cases e; simp only [wpE]; exact s
  | .done k v => fun σ h r Q X e s => by
    simp only [evE, evB, gen] at e
    simp only [wpE]
    refine (evE_ok sg k).b e s fun x h e => ?_
    refine (evE_ok sg v).b e s fun y h e => ?_
    split at e
    · next l => cases e; exact ⟨l, s⟩
    · cases e
  | .fld a f => fun σ h r Q X e s => by
    simp only [evE, evB, gen] at e
    simp only [wpE]
    refine (evE_ok sg a).b e s fun d h e => ?_
    split at e
    · split at e
      · next q =>
        split at e
        · next q1 =>
          split at e
          · next v q2 => cases e; exact ⟨_, _, _, v, rfl, ⟨q, by rw [sg.okf]; exact q1⟩, q2, s⟩
          · cases e
        · cases e
      · cases e
    · cases e
  | .ix a b => fun σ h r Q X e s => by
    simp only [evE, evB, gen] at e
    simp only [wpE]
    refine (evE_ok sg a).b e s fun x h e => ?_
    refine (evE_ok sg b).b e s fun y h e => ?_
    split at e
    · next d q => cases e; exact ⟨d, q, s⟩
    · cases e
  | .sl a lo hi => fun σ h r Q X e s => by
    simp only [evE, evB, gen] at e
    simp only [wpE]
    refine (evE_ok sg a).b e s fun x h e => ?_
    refine (evE_ok sg lo).b e s fun l h e => ?_
    split at e
    · next l q =>
      refine ⟨_, q, ?_⟩
      refine (evE_ok sg hi).b e s fun u h e => ?_
      split at e
      · next u q1 =>
        refine ⟨_, q1, ?_⟩
        split at e
        · next d q2 => cases e; exact ⟨_, q2, s⟩
        · cases e
      · cases e
    · cases e
  | .neg a => fun σ h r Q X e s => by
    simp only [evE, evB, gen] at e
    simp only [wpE]
    refine (evE_ok sg a).b e s fun x h e => ?_
    split at e
    · cases e; exact ⟨_, rfl, s⟩
    · cases e
  | .op o a b => fun σ h r Q X e s => by
    simp only [evE, evB, gen] at e
    simp only [wpE]
    refine (evE_ok sg a).b e s fun x h e => ?_
    refine (evE_ok sg b).b e s fun y h e => ?_
    split at e
    · next d q => cases e; exact ⟨d, q, s⟩
    · cases e
  | .opl o a b => fun σ h r Q X e s => by
    simp only [evE, evB, gen] at e
    simp only [wpE]
    refine (evE_ok sg a).b e s fun x h e => ?_
    refine (evE_ok sg b).b e s fun y h e => ?_
    split at e
    · next d q => cases e; exact ⟨d, q, s⟩
    · cases e
  | .cmp o a b => fun σ h r Q X e s => by
    simp only [evE, evB, gen] at e
    simp only [wpE]
    refine (evE_ok sg a).b e s fun x h e => ?_
    refine (evE_ok sg b).b e s fun y h e => ?_
    split at e
    · next d q => cases e; exact ⟨d, q, s⟩
    · cases e
  | .chain a b c => fun σ h r Q X e s => by
    simp only [evE, evB, gen] at e
    simp only [wpE]
    refine (evE_ok sg a).b e s fun x h e => ?_
    refine (evE_ok sg b).b e s fun y h e => ?_
    split at e
    · next i j _ =>
      refine ⟨_, _, rfl, rfl, fun l => ?_, fun l => ?_⟩
      · rw [if_pos l] at e
        refine (evE_ok sg c).b e s fun z h e => ?_
        split at e
        · cases e; exact ⟨_, rfl, s⟩
        · cases e
      · rw [if_neg l] at e
        cases e; exact s
    · cases e
  | .and a b => fun σ h r Q X e s => by
    simp only [evE, evB, gen] at e
    simp only [wpE]
    refine (evE_ok sg a).b e s fun x h e => ?_
    split at e
    · exact .inl ⟨rfl, evE_ok sg b _ _ _ _ _ e s⟩
    · cases e; exact .inr ⟨rfl, s⟩
    · cases e
  | .or a b => fun σ h r Q X e s => by
    simp only [evE, evB, gen] at e
    simp only [wpE]
    refine (evE_ok sg a).b e s fun x h e => ?_
    split at e
    · cases e; exact .inl ⟨rfl, s⟩
    · exact .inr ⟨rfl, evE_ok sg b _ _ _ _ _ e s⟩
    · cases e
  | .not a => fun σ h r Q X e s => by
    simp only [evE, evB, gen] at e
    simp only [wpE]
    refine (evE_ok sg a).b e s fun x h e => ?_
    split at e
    · cases e; exact ⟨_, rfl, s⟩
    · cases e
  | .tru a => fun σ h r Q X e s => by
    simp only [evE, evB, gen] at e
    simp only [wpE]
    refine (evE_ok sg a).b e s fun x h e => ?_
    split at e
    · next b q => cases e; exact ⟨b, q, s⟩
    · cases e
  | .ite t a b => fun σ h r Q X e s => by
    simp only [evE, evB, gen] at e
    simp only [wpE]
    refine (evE_ok sg t).b e s fun x h e => ?_
    split at e
    · exact .inl ⟨rfl, evE_ok sg a _ _ _ _ _ e s⟩
    · exact .inr ⟨rfl, evE_ok sg b _ _ _ _ _ e s⟩
    · cases e
  | .call f es => fun σ h r Q X e s => by
    simp only [evE, evB, gen] at e
    simp only [wpE]
    exact (evEs_ok sg es).b e s fun ds h e => sg.call _ _ _ _ _ _ e s
  | .make c es => fun σ h r Q X e s => by
    simp only [evE, evB, gen] at e
    simp only [wpE]
    refine (evEs_ok sg es).b e s fun ds h e => ?_
    rw [sg.init]
    rcases bnR_some e with ⟨d, h', e1, e2⟩ | ⟨c, h', e1, e2⟩
    · split at e2
      · cases e2; exact sg.call _ _ _ _ _ _ e1 ⟨rfl, s⟩
      · cases e2
    · subst e2; exact sg.call _ _ _ _ _ _ e1 s
  | .meth m o es => fun σ h r Q X e s => by
    simp only [evE, evB, gen] at e
    simp only [wpE]
    refine (evE_ok sg o).b e s fun x h e => ?_
    split at e
    · next n =>
      split at e
      · next c fs q =>
        split at e
        · next q1 =>
          subst q1
          exact ⟨n, fs, rfl, by rw [sg.mcls]; exact q, (evEs_ok sg es).b e s fun ds h e => sg.call _ _ _ _ _ _ e s⟩
        · cases e
      · cases e
    · cases e
  | .callv f es => fun σ h r Q X e s => by
    simp only [evE, evB, gen] at e
    simp only [wpE]
    refine (evE_ok sg f).b e s fun x h e => ?_
    split at e
    · next f => exact ⟨f, rfl, (evEs_ok sg es).b e s fun ds h e => sg.call _ _ _ _ _ _ e s⟩
    · cases e
  | .bi b es => fun σ h r Q X e s => by
    simp only [evE, evB, gen] at e
    simp only [wpE]
    refine (evEs_ok sg es).b e s fun ds h e => ?_
    split at e
    · next q => cases e; exact ⟨_, q, s⟩
    · cases e
  | .bim b o es => fun σ h r Q X e s => by
    simp only [evE, evB, gen] at e
    simp only [wpE]
    refine (evE_ok sg o).b e s fun x h e => ?_
    split at e
    · next k =>
      refine ⟨k, ?_⟩
      refine (evEs_ok sg es).b e s fun ds h e => ?_
      split at e
      · next q => cases e; exact ⟨_, q, s⟩
      · cases e
    · cases e
  | .isi a t => fun σ h r Q X e s => by
    simp only [evE, evB, gen] at e
    simp only [wpE]
    refine (evE_ok sg a).b e s fun x h e => ?_
    split at e
    · next b q => cases e; exact ⟨b, q, s⟩
    · cases e
  | .comp tp tg it t v => fun σ h r Q X e s => by
    simp only [evE, evB, gen] at e
    simp only [wpE]
    refine (evI_ok sg it).b e s fun u h e => ?_
    split at e
    · next l =>
      refine ⟨l, ?_⟩
      rcases bnR_some e with ⟨d, h', e1, e2⟩ | ⟨c, h', e1, e2⟩
      · cases e2
        exact compR_ok (T := evE g t) (V := evE g v) (fun σ h d h' Q e q => evE_ok sg t _ _ (.ok d h') Q _ e q) (fun σ h d h' Q e q => evE_ok sg v _ _ (.ok d h') Q _ e q) _ [] _ (.ok d h') (fun ds h => Q (.lst ds) h) (fun _ _ => True) e1 s
      · subst e2
        exact compR_ok (T := evE g t) (V := evE g v) (fun σ h d h' Q e q => evE_ok sg t _ _ (.ok d h') Q _ e q) (fun σ h d h' Q e q => evE_ok sg v _ _ (.ok d h') Q _ e q) _ [] _ (.ex c h') (fun ds h => Q (.lst ds) h) (fun _ _ => True) e1 trivial
    · cases e
  | .dcomp _ _ _ => fun σ h r Q X e s => by simp only [evE, evB, gen] at e; cases e
  | .rng _ => fun σ h r Q X e s => by simp only [evE, evB, gen] at e; cases e
  | .rng2 _ _ => fun σ h r Q X e s => by simp only [evE, evB, gen] at e; cases e
  | .zip _ _ => fun σ h r Q X e s => by simp only [evE, evB, gen] at e; cases e
  | .enum _ => fun σ h r Q X e s => by simp only [evE, evB, gen] at e; cases e
  | .keys _ => fun σ h r Q X e s => by simp only [evE, evB, gen] at e; cases e
theorem evEs_ok (sg : g.Snd Γ) : ∀ e, SndEs g Γ e
  | .nil => fun σ h r Q X e s => by simp only [evEs] at e; cases e; simp only [wpEs]; exact s
  | .cons a es => fun σ h r Q X e s => by
    simp only [evEs] at e
    simp only [wpEs]
    refine (evE_ok sg a).b e s fun x h e => ?_
    refine (evEs_ok sg es).b e s fun ds h e => ?_
    cases e; exact s
theorem evI_ok (sg : g.Snd Γ) : ∀ e, SndI g Γ e
  | .rng a => fun σ h r Q X e s => by
    simp only [evI, evB, gen] at e
    simp only [wpI]
    refine (evE_ok sg a).b e s fun x h e => ?_
    split at e
    · split at e
      · next l => cases e; exact ⟨_, rfl, by simpa using l.1, by simpa using l.2, s⟩
      · cases e
    · cases e
  | .rng2 a b => fun σ h r Q X e s => by
    simp only [evI, evB, gen] at e
    simp only [wpI]
    refine (evE_ok sg a).b e s fun x h e => ?_
    refine (evE_ok sg b).b e s fun y h e => ?_
    split at e
    · split at e
      · next l => cases e; exact ⟨_, _, rfl, rfl, by simpa using l, s⟩
      · cases e
    · cases e
  | .zip a b => fun σ h r Q X e s => by
    simp only [evI, evB, gen] at e
    simp only [wpI]
    refine (evE_ok sg a).b e s fun x h e => ?_
    refine (evE_ok sg b).b e s fun y h e => ?_
    split at e
    · next u q => cases e; exact ⟨_, q, s⟩
    · cases e
  | .enum a => fun σ h r Q X e s => by
    simp only [evI, evB, gen] at e
    simp only [wpI]
    refine (evE_ok sg a).b e s fun x h e => ?_
    split at e
    · next u q => cases e; exact ⟨_, q, s⟩
    · cases e
  | .non | .bl _ | .int _ | .str _ | .var _ | .gl _ | .fn _ | .tup _ | .lst _ | .mk _ | .dnew _ | .done _ _ | .fld _ _ | .ix _ _ | .sl _ _ _ | .neg _ | .op _ _ _ | .opl _ _ _ | .cmp _ _ _ | .chain _ _ _ | .and _ _ | .or _ _ | .not _ | .tru _ | .ite _ _ _ | .call _ _ | .make _ _ | .meth _ _ _ | .callv _ _ | .bi _ _ | .bim _ _ _ | .isi _ _ | .comp _ _ _ _ _ | .dcomp _ _ _ | .keys _ => sndI_gen (by simp only [evI, evE, evB, gen]) (evE_ok sg _) (by intros; simp only [wpI])
end
end
end Mi

set_option linter.all false
set_option maxHeartbeats 4000000
namespace Mi
/-! ## running statements -/
inductive En where
  | nx (σ : Sl)
  | rt (d : D)
  | bk (σ : Sl)
  | ct (σ : Sl)
def Rr.satK (r : Rr En) (K : Ks) (X : PX) : Prop := match r with
  | .ok (.nx σ) h => K.nx σ h
  | .ok (.rt d) h => K.rt d h
  | .ok (.bk σ) h => K.bk σ h
  | .ok (.ct σ) h => K.ct σ h
  | .ex c h => X c h
def forR (tp : Bool) (tg : List Nat) (src : Src) (B : Sl → Hm → Option (Rr En)) : List D → Sl → Hm → Option (Rr En)
  | [], σ, h => if stillB src h then okR (.nx σ) h else none
  | x :: xs, σ, h => if stillB src h then match bindT tp tg σ x with
      | some σ1 => match B σ1 h with
        | some (.ok (.nx σ2) h2) => forR tp tg src B xs σ2 h2
        | some (.ok (.ct σ2) h2) => forR tp tg src B xs σ2 h2
        | some (.ok (.bk σ2) h2) => okR (.nx σ2) h2
        | some (.ok (.rt d) h2) => okR (.rt d) h2
        | some (.ex c h2) => some (.ex c h2)
        | none => none
      | none => none
    else none
def whlR (T : Sl → Hm → Option (Rr D)) (B : Sl → Hm → Option (Rr En)) : Nat → Sl → Hm → Option (Rr En)
  | 0, _, _ => none
  | n + 1, σ, h => match T σ h with
    | some (.ok (.bl true) h1) => match B σ h1 with
      | some (.ok (.nx σ2) h2) => whlR T B n σ2 h2
      | some (.ok (.ct σ2) h2) => whlR T B n σ2 h2
      | some (.ok (.bk σ2) h2) => okR (.nx σ2) h2
      | some (.ok (.rt d) h2) => okR (.rt d) h2
      | _ => none
    | some (.ok (.bl false) h1) => okR (.nx σ) h1
    | _ => none
mutual
def evS (g : RG) : S → Sl → Hm → Option (Rr En)
  | .ex e, σ, h => bnR (evE g e σ h) fun _ h => okR (.nx σ) h
  | .set i e, σ, h => bnR (evE g e σ h) fun d h => okR (.nx (σ.set i (some d))) h
  | .par is es, σ, h => bnR (evEs g es σ h) fun ds h => okR (.nx (setAll σ is ds)) h
  | .sub o k v, σ, h => bnR (evE g v σ h) fun z h => bnR (evE g o σ h) fun x h => bnR (evE g k σ h) fun y h => match subD h x y z with
    | some h => okR (.nx σ) h
    | none => none
  | .fld o f v, σ, h => bnR (evE g v σ h) fun z h => bnR (evE g o σ h) fun x h => match x with
    | .loc n => match h[n]? with
      | some (.ins c fs) => if g.okf c f = true ∧ fs.length < 100 then okR (.nx σ) (h.set n (.ins c (fput fs f z))) else none
      | _ => none
    | _ => none
  | .aug i o e, σ, h => match σ[i]? with
    | some (some x) => bnR (evE g e σ h) fun y h => (match augD o x y with
      | some z => okR (.nx (σ.set i (some z))) h
      | none => none)
    | _ => none
  | .augs o k op e, σ, h => bnR (evE g o σ h) fun x h => bnR (evE g k σ h) fun y h => match x with
    | .loc n => match ixD h x y with
      | some u => bnR (evE g e σ h) fun v h => (match augD op u v with
        | some z => match subD h x y z with
          | some h => okR (.nx σ) h
          | none => none
        | none => none)
      | none => none
    | _ => none
  | .ite t a b, σ, h => bnR (evE g t σ h) fun x h => match x with
    | .bl true => evSs g a σ h
    | .bl false => evSs g b σ h
    | _ => none
  | .for tp tg it b, σ, h => bnR (evI g it σ h) fun u h => forR tp tg u.2 (evSs g b) u.1 σ h
  | .whl t b, σ, h => whlR (evE g t) (evSs g b) 3000 σ h
  | .ret e, σ, h => bnR (evE g e σ h) fun d h => okR (.rt d) h
  | .rai c, _, h => some (.ex c h)
  | .brk, σ, h => okR (.bk σ) h
  | .pss, σ, h => okR (.nx σ) h
  | .try b, σ, h => match evSs g b σ h with
    | some (.ex c h') => if c < 8 then okR (.rt (.tup [.str raisedT, .int c])) h' else none
    | r => r
  | _, _, _ => none
def evSs (g : RG) : Ss → Sl → Hm → Option (Rr En)
  | .nil, σ, h => okR (.nx σ) h
  | .cons s ss, σ, h => match evS g s σ h with
    | some (.ok (.nx σ) h) => evSs g ss σ h
    | r => r
end
section
variable {g : RG} {Γ : Gam}
def SndS (g : RG) (Γ : Gam) (e : S) : Prop := ∀ σ h r K X, evS g e σ h = some r → r.satK K X → wpS Γ X e σ h K
def SndSs (g : RG) (Γ : Gam) (e : Ss) : Prop := ∀ σ h r K X, evSs g e σ h = some r → r.satK K X → wpSs Γ X e σ h K
theorem SndE.k {e : E} (s : SndE g Γ e) {σ : Sl} {h : Hm} {k : D → Hm → Option (Rr En)} {r : Rr En} {K : Ks} {X : PX} {Q' : PD} (q : bnR (evE g e σ h) k = some r) (hs : r.satK K X) (hk : ∀ a h', k a h' = some r → Q' a h') : wpE Γ X e σ h Q' := by
  rcases bnR_some q with ⟨a, h', e1, e2⟩ | ⟨c, h', e1, e2⟩
  · exact s _ _ _ _ _ e1 (hk _ _ e2)
  · subst e2; exact s _ _ _ _ _ e1 hs
theorem SndEs.k {e : Es} (s : SndEs g Γ e) {σ : Sl} {h : Hm} {k : List D → Hm → Option (Rr En)} {r : Rr En} {K : Ks} {X : PX} {Q' : List D → Hm → Prop} (q : bnR (evEs g e σ h) k = some r) (hs : r.satK K X) (hk : ∀ a h', k a h' = some r → Q' a h') : wpEs Γ X e σ h Q' := by
  rcases bnR_some q with ⟨a, h', e1, e2⟩ | ⟨c, h', e1, e2⟩
  · exact s _ _ _ _ _ e1 (hk _ _ e2)
  · subst e2; exact s _ _ _ _ _ e1 hs
theorem SndI.k {e : E} (s : SndI g Γ e) {σ : Sl} {h : Hm} {k : List D × Src → Hm → Option (Rr En)} {r : Rr En} {K : Ks} {X : PX} {Q' : List D → Src → Hm → Prop} (q : bnR (evI g e σ h) k = some r) (hs : r.satK K X) (hk : ∀ u h', k u h' = some r → Q' u.1 u.2 h') : wpI Γ X e σ h Q' := by
  rcases bnR_some q with ⟨a, h', e1, e2⟩ | ⟨c, h', e1, e2⟩
  · exact s _ _ _ _ _ e1 (hk _ _ e2)
  · subst e2; exact s _ _ _ _ _ e1 hs
theorem forR_ok {tp tg src} {B : Sl → Hm → Option (Rr En)} {B' : Sl → Hm → Ks → Prop} {K : Ks} {X : PX} {r : Rr En} (hB : ∀ σ h r K, B σ h = some r → r.satK K X → B' σ h K) : ∀ (xs : List D) (σ : Sl) (h : Hm), forR tp tg src B xs σ h = some r → r.satK K X → forW tp tg src B' K xs σ h
  | [], σ, h, e, s => by
    unfold forR at e
    split at e
    · next q => cases e; exact ⟨stillB_ok q, s⟩
    · cases e
  | x :: xs, σ, h, e, s => by
    unfold forR at e
    split at e
    · next q =>
      split at e
      · next σ1 q1 =>
        refine ⟨stillB_ok q, σ1, q1, ?_⟩
        split at e
        · next σ2 h2 q2 => exact hB _ _ _ _ q2 (forR_ok hB xs σ2 h2 e s)
        · next σ2 h2 q2 => exact hB _ _ _ _ q2 (forR_ok hB xs σ2 h2 e s)
        · next σ2 h2 q2 => cases e; exact hB _ _ _ _ q2 s
        · next d h2 q2 => cases e; exact hB _ _ _ _ q2 s
        · next c h2 q2 => cases e; exact hB _ _ _ _ q2 s
        · cases e
      · cases e
    · cases e
theorem whlR_ok {T : Sl → Hm → Option (Rr D)} {T' : Sl → Hm → PD → Prop} {B : Sl → Hm → Option (Rr En)} {B' : Sl → Hm → Ks → Prop} {K : Ks} {X : PX} {r : Rr En} (hT : ∀ σ h d h' Q, T σ h = some (.ok d h') → Q d h' → T' σ h Q) (hB : ∀ σ h r K, B σ h = some r → r.satK K X → B' σ h K) : ∀ (n : Nat) (σ : Sl) (h : Hm), whlR T B n σ h = some r → r.satK K X → whlW T' B' K n σ h
  | 0, σ, h, e, s => by cases e
  | n + 1, σ, h, e, s => by
    unfold whlR at e
    split at e
    · next h1 q =>
      refine hT _ _ _ _ _ q (.inl ⟨rfl, ?_⟩)
      split at e
      · next σ2 h2 q2 => exact hB _ _ _ _ q2 (whlR_ok hT hB n σ2 h2 e s)
      · next σ2 h2 q2 => exact hB _ _ _ _ q2 (whlR_ok hT hB n σ2 h2 e s)
      · next σ2 h2 q2 => cases e; exact hB _ _ _ _ q2 s
      · next d h2 q2 => cases e; exact hB _ _ _ _ q2 s
      · cases e
    · next h1 q => cases e; exact hT _ _ _ _ _ q (.inr ⟨rfl, s⟩)
    · cases e
mutual
theorem evS_ok (sg : g.Snd Γ) : ∀ s, SndS g Γ s
  | .ex a => fun σ h r K X e s => by
    simp only [evS] at e
    simp only [wpS]
    refine (evE_ok sg a).k e s fun d h e => ?_
    cases e; exact s
  | .set i a => fun σ h r K X e s => by
    simp only [evS] at e
    simp only [wpS]
    refine (evE_ok sg a).k e s fun d h e => ?_
    cases e; exact s
  | .par is es => fun σ h r K X e s => by
    simp only [evS] at e
    simp only [wpS]
    refine (evEs_ok sg es).k e s fun d h e => ?_
    cases e; exact s
  | .sub o k v => fun σ h r K X e s => by
    simp only [evS] at e
    simp only [wpS]
    refine (evE_ok sg v).k e s fun z h e => ?_
    refine (evE_ok sg o).k e s fun x h e => ?_
    refine (evE_ok sg k).k e s fun y h e => ?_
    split at e
    · next q => cases e; exact ⟨_, q, s⟩
    · cases e
  | .fld o f v => fun σ h r K X e s => by
    simp only [evS] at e
    simp only [wpS]
    refine (evE_ok sg v).k e s fun z h e => ?_
    refine (evE_ok sg o).k e s fun x h e => ?_
    split at e
    · split at e
      · next q =>
        split at e
        · next l => cases e; exact ⟨_, _, _, rfl, ⟨q, by rw [sg.okf]; exact l.1⟩, l.2, s⟩
        · cases e
      · cases e
    · cases e
  | .aug i o a => fun σ h r K X e s => by
    simp only [evS] at e
    simp only [wpS]
    split at e
    · next x q =>
      refine ⟨x, q, ?_⟩
      refine (evE_ok sg a).k e s fun y h e => ?_
      split at e
      · next z q => cases e; exact ⟨z, q, s⟩
      · cases e
    · cases e
  | .augs o k op a => fun σ h r K X e s => by
    simp only [evS] at e
    simp only [wpS]
    refine (evE_ok sg o).k e s fun x h e => ?_
    refine (evE_ok sg k).k e s fun y h e => ?_
    split at e
    · next n _ =>
      refine ⟨_, rfl, ?_⟩
      split at e
      · next u q =>
        refine ⟨u, q, ?_⟩
        refine (evE_ok sg a).k e s fun v h e => ?_
        split at e
        · next z q1 =>
          refine ⟨z, q1, ?_⟩
          split at e
          · next q2 => cases e; exact ⟨_, q2, s⟩
          · cases e
        · cases e
      · cases e
    · cases e
  | .augf _ _ _ _ => fun σ h r K X e s => by simp only [evS] at e; cases e
  | .fork _ _ _ => fun σ h r K X e s => by simp only [evS] at e; cases e
  | .ite t a b => fun σ h r K X e s => by
    simp only [evS] at e
    simp only [wpS]
    refine (evE_ok sg t).k e s fun x h e => ?_
    split at e
    · exact .inl ⟨rfl, evSs_ok sg a _ _ _ _ _ e s⟩
    · exact .inr ⟨rfl, evSs_ok sg b _ _ _ _ _ e s⟩
    · cases e
  | .for tp tg it b => fun σ h r K X e s => by
    simp only [evS] at e
    simp only [wpS]
    refine (evI_ok sg it).k e s fun u h e => ?_
    exact forR_ok (X := X) (fun σ h r K e s => evSs_ok sg b σ h r K X e s) _ _ _ e s
  | .whl t b => fun σ h r K X e s => by
    simp only [evS] at e
    simp only [wpS]
    exact ⟨_, whlR_ok (X := X) (T := evE g t) (B := evSs g b) (fun σ h d h' Q e q => evE_ok sg t σ h (.ok d h') Q X e q) (fun σ h r K e s => evSs_ok sg b σ h r K X e s) _ _ _ e s⟩
  | .ret a => fun σ h r K X e s => by
    simp only [evS] at e
    simp only [wpS]
    refine (evE_ok sg a).k e s fun d h e => ?_
    cases e; exact s
  | .rai c => fun σ h r K X e s => by simp only [evS] at e; cases e; simp only [wpS]; exact s
  | .brk => fun σ h r K X e s => by simp only [evS] at e; cases e; simp only [wpS]; exact s
  | .pss => fun σ h r K X e s => by simp only [evS] at e; cases e; simp only [wpS]; exact s
  | .try b => fun σ h r K X e s => by
    simp only [evS] at e
    simp only [wpS]
    split at e
    · next c h' q =>
      split at e
      · next l => cases e; exact evSs_ok sg b _ _ _ _ _ q ⟨l, s⟩
      · cases e
    · next q =>
      refine evSs_ok sg b _ _ _ _ _ e ?_
      cases r with
      | ok a h => cases a <;> exact s
      | ex c h => exact absurd e (q c h)
theorem evSs_ok (sg : g.Snd Γ) : ∀ s, SndSs g Γ s
  | .nil => fun σ h r K X e s => by simp only [evSs] at e; cases e; simp only [wpSs]; exact s
  | .cons a ss => fun σ h r K X e s => by
    simp only [evSs] at e
    simp only [wpSs]
    split at e
    · next σ1 h1 q => exact evS_ok sg a _ _ _ _ _ q (evSs_ok sg ss _ _ _ _ _ e s)
    · next q =>
      refine evS_ok sg a _ _ _ _ _ e ?_
      cases r with
      | ok u h =>
        cases u with
        | nx σ => exact absurd e (q σ h)
        | rt d => exact s
        | bk d => exact s
        | ct d => exact s
      | ex c h => exact s
end
/-- what a def gives back, its garbage dropped -/
def dropR (n0 : Nat) (d : D) (h : Hm) : Option (Rr D) :=
  if n0 ≤ h.length then
    if below n0 d && (h.take n0).all (belowO n0) then okR d (h.take n0)
    else if below h.length d && h.all (belowO h.length) then okR d h else none
  else none
def dropXR (n0 : Nat) (c : Nat) (h : Hm) : Option (Rr D) :=
  if n0 ≤ h.length then
    if (h.take n0).all (belowO n0) then some (.ex c (h.take n0))
    else if h.all (belowO h.length) then some (.ex c h) else none
  else none
def evF (g : RG) (f : Df) (ds : List D) (h : Hm) : Option (Rr D) :=
  if ds.length = f.np then match evSs g f.body (start f.ns ds) h with
    | some (.ok (.nx _) h') => dropR h.length .non h'
    | some (.ok (.rt d) h') => dropR h.length d h'
    | some (.ex c h') => dropXR h.length c h'
    | _ => none
  else none
theorem dropR_ok {n0 d h r Q X} (e : dropR n0 d h = some r) (s : r.sat Q X) : dropQ n0 Q d h := by
  unfold dropR at e
  split at e
  · next l =>
    split at e
    · next q =>
      cases e
      simp only [Bool.and_eq_true, List.all_eq_true] at q
      exact ⟨n0, Nat.le_refl _, l, q.1, q.2, s⟩
    · split at e
      · next q =>
        cases e
        simp only [Bool.and_eq_true, List.all_eq_true] at q
        exact ⟨h.length, l, Nat.le_refl _, q.1, by rw [List.take_length]; exact q.2, by rw [List.take_length]; exact s⟩
      · cases e
  · cases e
theorem dropXR_ok {n0 c h r Q X} (e : dropXR n0 c h = some r) (s : r.sat Q X) : dropX n0 X c h := by
  unfold dropXR at e
  split at e
  · next l =>
    split at e
    · next q =>
      cases e
      simp only [List.all_eq_true] at q
      exact ⟨n0, Nat.le_refl _, l, q, s⟩
    · split at e
      · next q =>
        cases e
        simp only [List.all_eq_true] at q
        exact ⟨h.length, l, Nat.le_refl _, by rw [List.take_length]; exact q, by rw [List.take_length]; exact s⟩
      · cases e
  · cases e
theorem evF_ok (sg : g.Snd Γ) {f : Df} {ds h r Q X} (e : evF g f ds h = some r) (s : r.sat Q X) : wpF Γ f ds h Q X := by
  unfold evF at e
  split at e
  · next l =>
    refine ⟨l, ?_⟩
    split at e
    · next q => exact evSs_ok sg f.body _ _ _ _ _ q (dropR_ok e s)
    · next q => exact evSs_ok sg f.body _ _ _ _ _ q (dropR_ok e s)
    · next q => exact evSs_ok sg f.body _ _ _ _ _ q (dropXR_ok e s)
    · cases e
  · cases e
end
end Mi

set_option linter.all false
namespace Mi
/-! ## the runs of a law's defs, by levels -/
structure Tm where
  df : List Df
  cof : List (Option Nat)
  ini : List Nat
  fcl : List Nat
  gl : List D
def Tm.rg (t : Tm) (call : Nat → List D → Hm → Option (Rr D)) : RG := ⟨call, fun g => t.gl[g]?, fun f => (t.cof.getD f none).getD 0, fun k => t.ini.getD k 0, fun c f => decide (f < t.fcl.length) && decide (t.fcl.getD f 0 = c)⟩
def evk (t : Tm) : Nat → RG
  | 0 => t.rg fun _ _ _ => none
  | k + 1 => t.rg fun f ds h => evF (evk t k) (t.df.getD f ⟨0, 0, .nil⟩) ds h
/-- no object names what is not there -/
def WFb (h : Hm) : Bool := h.all (belowO h.length)
theorem dropR_here {h : Hm} {d : D} (w : WFb h = true) (b : below h.length d = true) : dropR h.length d h = some (.ok d h) := by
  unfold dropR
  rw [if_pos (Nat.le_refl _), List.take_length]
  unfold WFb at w
  rw [b, w]
  rfl
theorem dropXR_here {h : Hm} {c : Nat} (w : WFb h = true) : dropXR h.length c h = some (.ex c h) := by
  unfold dropXR
  rw [if_pos (Nat.le_refl _), List.take_length]
  unfold WFb at w
  rw [w]
  rfl
theorem bnR_ok {α β : Type} (a : α) (h : Hm) (k : α → Hm → Option (Rr β)) : bnR (some (.ok a h)) k = k a h := rfl
theorem bnR_ex {α β : Type} (c : Nat) (h : Hm) (k : α → Hm → Option (Rr β)) : bnR (some (.ex c h)) k = some (.ex c h) := rfl
end Mi

set_option linter.all false
set_option maxRecDepth 100000
namespace Mi.G
open Mi
/-! the tables and mini bodies of k02_policy_errors, printed by gen.py -/
/-- is_count : 0 value, 1 least, 2 most -/
def b_is_count : Df := ⟨3, 3,
  (.cons (.ret (.and (.isi (.var 0) .int) (.and (.not (.isi (.var 0) .bool)) (.chain (.var 1) (.var 0) (.var 2)))))
  .nil)⟩
abbrev d0 : Df := b_is_count
abbrev f_is_count : Nat := 0
/-- is_over : 0 value, 1 signs, 2 least, 3 most, 4 sign -/
def b_is_over : Df := ⟨4, 5,
  (.cons (.ret (.and (.isi (.var 0) .str) (.and (.chain (.var 2) (.bi .len (.cons (.var 0) .nil)) (.var 3)) (.bi .all (.cons (.comp false [4] (.var 0) (.bl true) (.cmp .in_ (.var 4) (.var 1))) .nil)))))
  .nil)⟩
abbrev d1 : Df := b_is_over
abbrev f_is_over : Nat := 1
/-- are_classes : 0 value, 1 names, 2 signs, 3 pair -/
def b_are_classes : Df := ⟨1, 4,
  (.cons (.ite (.or (.not (.isi (.var 0) .tuple)) (.not (.chain (.int 1) (.bi .len (.cons (.var 0) .nil)) (.gl 2)))) (.cons (.ret (.bl false))
   .nil) .nil)
  (.cons (.ite (.not (.bi .all (.cons (.comp false [3] (.var 0) (.bl true) (.and (.isi (.var 3) .tuple) (.cmp .eq (.bi .len (.cons (.var 3) .nil)) (.int 2)))) .nil))) (.cons (.ret (.bl false))
   .nil) .nil)
  (.cons (.ite (.not (.bi .all (.cons (.comp false [3] (.var 0) (.bl true) (.and (.call 1 (.cons (.ix (.var 3) (.int 0)) (.cons (.gl 0) (.cons (.int 1) (.cons (.int 6) .nil))))) (.call 1 (.cons (.ix (.var 3) (.int 1)) (.cons (.gl 1) (.cons (.int 1) (.cons (.int 6) .nil))))))) .nil))) (.cons (.ret (.bl false))
   .nil) .nil)
  (.cons (.par [1, 2] (.cons (.comp false [3] (.var 0) (.bl true) (.ix (.var 3) (.int 0))) (.cons (.bim .join (.str []) (.cons (.comp false [3] (.var 0) (.bl true) (.ix (.var 3) (.int 1))) .nil)) .nil)))
  (.cons (.ret (.and (.cmp .eq (.bi .len (.cons (.var 1) .nil)) (.bi .setlen (.cons (.var 1) .nil))) (.cmp .eq (.bi .len (.cons (.var 2) .nil)) (.bi .setlen (.cons (.var 2) .nil)))))
  .nil)))))⟩
abbrev d2 : Df := b_are_classes
abbrev f_are_classes : Nat := 2
/-- is_rule : 0 value, 1 names, 2 signs, 3 word, 4 rest -/
def b_is_rule : Df := ⟨3, 5,
  (.cons (.ite (.or (.not (.isi (.var 0) .tuple)) (.or (.not (.tru (.var 0))) (.not (.isi (.ix (.var 0) (.int 0)) .str)))) (.cons (.ret (.bl false))
   .nil) .nil)
  (.cons (.par [3, 4] (.cons (.ix (.var 0) (.int 0)) (.cons (.sl (.var 0) (.int 1) .non) .nil)))
  (.cons (.ite (.cmp .eq (.var 3) (.str [115, 105, 122, 101])) (.cons (.ite (.or (.cmp .ne (.bi .len (.cons (.var 4) .nil)) (.int 2)) (.not (.call 0 (.cons (.ix (.var 4) (.int 0)) (.cons (.int 0) (.cons (.gl 4) .nil)))))) (.cons (.ret (.bl false))
    .nil) .nil)
   (.cons (.ret (.or (.cmp .is_ (.ix (.var 4) (.int 1)) .non) (.call 0 (.cons (.ix (.var 4) (.int 1)) (.cons (.ix (.var 4) (.int 0)) (.cons (.gl 4) .nil))))))
   .nil)) .nil)
  (.cons (.ite (.cmp .in_ (.var 3) (.tup (.cons (.str [108, 101, 97, 115, 116]) (.cons (.str [109, 111, 115, 116]) .nil)))) (.cons (.ret (.and (.cmp .eq (.bi .len (.cons (.var 4) .nil)) (.int 2)) (.and (.call 4 (.cons (.ix (.var 4) (.int 0)) (.cons (.var 1) .nil))) (.call 0 (.cons (.ix (.var 4) (.int 1)) (.cons (.ite (.cmp .eq (.var 3) (.str [108, 101, 97, 115, 116])) (.int 1) (.int 0)) (.cons (.int 4) .nil)))))))
   .nil) .nil)
  (.cons (.ite (.cmp .in_ (.var 3) (.tup (.cons (.str [107, 105, 110, 100, 115]) (.cons (.str [114, 117, 110]) (.cons (.str [114, 111, 119]) .nil))))) (.cons (.ret (.and (.cmp .eq (.bi .len (.cons (.var 4) .nil)) (.int 1)) (.call 0 (.cons (.ix (.var 4) (.int 0)) (.cons (.int 1) (.cons (.int 4) .nil))))))
   .nil) .nil)
  (.cons (.ite (.cmp .eq (.var 3) (.str [110, 111, 116])) (.cons (.ret (.and (.cmp .eq (.bi .len (.cons (.var 4) .nil)) (.int 1)) (.call 1 (.cons (.ix (.var 4) (.int 0)) (.cons (.var 2) (.cons (.int 1) (.cons (.int 5) .nil)))))))
   .nil) .nil)
  (.cons (.ret (.and (.cmp .in_ (.var 3) (.tup (.cons (.str [102, 105, 114, 115, 116]) (.cons (.str [108, 97, 115, 116]) .nil)))) (.and (.cmp .eq (.bi .len (.cons (.var 4) .nil)) (.int 1)) (.call 4 (.cons (.ix (.var 4) (.int 0)) (.cons (.var 1) .nil))))))
  .nil)))))))⟩
abbrev d3 : Df := b_is_rule
abbrev f_is_rule : Nat := 3
/-- is_name : 0 value, 1 names -/
def b_is_name : Df := ⟨2, 2,
  (.cons (.ret (.and (.isi (.var 0) .str) (.cmp .in_ (.var 0) (.var 1))))
  .nil)⟩
abbrev d4 : Df := b_is_name
abbrev f_is_name : Nat := 4
/-- is_policy : 0 value, 1 names, 2 rules, 3 pair, 4 rule -/
def b_is_policy : Df := ⟨1, 5,
  (.cons (.ite (.or (.not (.isi (.var 0) .tuple)) (.or (.cmp .ne (.bi .len (.cons (.var 0) .nil)) (.int 2)) (.not (.call 2 (.cons (.ix (.var 0) (.int 0)) .nil))))) (.cons (.ret (.bl false))
   .nil) .nil)
  (.cons (.par [1, 2] (.cons (.comp false [3] (.ix (.var 0) (.int 0)) (.bl true) (.ix (.var 3) (.int 0))) (.cons (.ix (.var 0) (.int 1)) .nil)))
  (.cons (.ite (.or (.not (.isi (.var 2) .tuple)) (.cmp .gt (.bi .len (.cons (.var 2) .nil)) (.gl 3))) (.cons (.ret (.bl false))
   .nil) .nil)
  (.cons (.ite (.not (.bi .all (.cons (.comp false [4] (.var 2) (.bl true) (.call 3 (.cons (.var 4) (.cons (.var 1) (.cons (.call 6 (.cons (.var 0) .nil)) .nil))))) .nil))) (.cons (.ret (.bl false))
   .nil) .nil)
  (.cons (.ret (.cmp .eq (.bi .len (.cons (.var 2) .nil)) (.bi .setlen (.cons (.var 2) .nil))))
  .nil)))))⟩
abbrev d5 : Df := b_is_policy
abbrev f_is_policy : Nat := 5
/-- signs_of : 0 policy, 1 pair -/
def b_signs_of : Df := ⟨1, 2,
  (.cons (.ret (.bim .join (.str []) (.cons (.comp false [1] (.ix (.var 0) (.int 0)) (.bl true) (.ix (.var 1) (.int 1))) .nil)))
  .nil)⟩
abbrev d6 : Df := b_signs_of
abbrev f_signs_of : Nat := 6
/-- need_policy : 0 value -/
def b_need_policy : Df := ⟨1, 1,
  (.cons (.ite (.not (.call 5 (.cons (.var 0) .nil))) (.cons (.rai 0)
   .nil) .nil)
  .nil)⟩
abbrev d7 : Df := b_need_policy
abbrev f_need_policy : Nat := 7
/-- need_string : 0 policy, 1 value -/
def b_need_string : Df := ⟨2, 2,
  (.cons (.ite (.not (.call 1 (.cons (.var 1) (.cons (.call 6 (.cons (.var 0) .nil)) (.cons (.int 0) (.cons (.gl 5) .nil)))))) (.cons (.rai 1)
   .nil) .nil)
  .nil)⟩
abbrev d8 : Df := b_need_string
abbrev f_need_string : Nat := 8
/-- characters : 0 policy -/
def b_characters : Df := ⟨1, 1,
  (.cons (.ex (.call 7 (.cons (.var 0) .nil)))
  (.cons (.ret (.call 6 (.cons (.var 0) .nil)))
  .nil))⟩
abbrev d9 : Df := b_characters
abbrev f_characters : Nat := 9
/-- Machine.__init__ : 0 self, 1 policy, 2 name, 3 signs, 4 sign, 5 behind, 6 rule -/
def b_Machine_init : Df := ⟨2, 7,
  (.cons (.fld (.var 0) 0 (.ix (.var 1) (.int 1)))
  (.cons (.fld (.var 0) 1 (.call 6 (.cons (.var 1) .nil)))
  (.cons (.fld (.var 0) 2 (.dnew false))
  (.cons (.fld (.var 0) 3 (.dnew false))
  (.cons (.for true [2, 3] (.ix (.var 1) (.int 0)) (.cons (.for false [4] (.var 3) (.cons (.sub (.fld (.var 0) 2) (.var 4) (.var 2))
    .nil))
   (.cons (.for true [4, 5] (.zip (.var 3) (.sl (.var 3) (.int 1) .non)) (.cons (.sub (.fld (.var 0) 3) (.var 4) (.var 5))
    .nil))
   .nil)))
  (.cons (.fld (.var 0) 4 (.bi .tuple (.cons (.comp false [6] (.fld (.var 0) 0) (.bl true) (.bi .starts (.cons (.ix (.var 6) (.int 0)) .nil))) .nil)))
  (.cons (.fld (.var 0) 5 (.dnew true))
  .nil)))))))⟩
abbrev d10 : Df := b_Machine_init
abbrev f_Machine_init : Nat := 10
/-- Machine.step : 0 self, 1 state, 2 sign, 3 new, 4 rule, 5 one -/
def b_Machine_step : Df := ⟨3, 6,
  (.cons (.ite (.cmp .is_ (.var 1) .non) (.cons (.ret .non)
   .nil) .nil)
  (.cons (.ite (.cmp .notin (.tup (.cons (.var 1) (.cons (.var 2) .nil))) (.fld (.var 0) 5)) (.cons (.set 3 (.comp true [4, 5] (.zip (.fld (.var 0) 0) (.var 1)) (.bl true) (.meth 12 (.var 0) (.cons (.var 4) (.cons (.var 5) (.cons (.var 2) .nil))))))
   (.cons (.sub (.fld (.var 0) 5) (.tup (.cons (.var 1) (.cons (.var 2) .nil))) (.ite (.cmp .in_ .non (.var 3)) .non (.bi .tuple (.cons (.var 3) .nil))))
   .nil)) .nil)
  (.cons (.ret (.ix (.fld (.var 0) 5) (.tup (.cons (.var 1) (.cons (.var 2) .nil)))))
  .nil)))⟩
abbrev d11 : Df := b_Machine_step
abbrev f_Machine_step : Nat := 11
/-- Machine.moved : 0 self, 1 rule, 2 one, 3 sign, 4 word, 5 name, 6 many -/
def b_Machine_moved : Df := ⟨4, 7,
  (.cons (.par [4, 5] (.cons (.ix (.var 1) (.int 0)) (.cons (.ix (.fld (.var 0) 2) (.var 3)) .nil)))
  (.cons (.ite (.cmp .eq (.var 4) (.str [115, 105, 122, 101])) (.cons (.ret (.meth 13 (.var 0) (.cons (.op .add (.var 2) (.int 1)) (.cons (.ite (.cmp .is_ (.ix (.var 1) (.int 2)) .non) (.ix (.var 1) (.int 1)) (.ix (.var 1) (.int 2))) (.cons (.cmp .isnt (.ix (.var 1) (.int 2)) .non) .nil)))))
   .nil) .nil)
  (.cons (.ite (.cmp .in_ (.var 4) (.tup (.cons (.str [108, 101, 97, 115, 116]) (.cons (.str [109, 111, 115, 116]) .nil)))) (.cons (.ret (.meth 13 (.var 0) (.cons (.op .add (.var 2) (.ite (.cmp .eq (.var 5) (.ix (.var 1) (.int 1))) (.int 1) (.int 0))) (.cons (.ix (.var 1) (.int 2)) (.cons (.cmp .eq (.var 4) (.str [109, 111, 115, 116])) .nil)))))
   .nil) .nil)
  (.cons (.ite (.cmp .eq (.var 4) (.str [107, 105, 110, 100, 115])) (.cons (.ret (.ite (.cmp .in_ (.var 5) (.var 2)) (.var 2) (.bi .tuple (.cons (.bi .sortedS (.cons (.op .add (.var 2) (.tup (.cons (.var 5) .nil))) .nil)) .nil))))
   .nil) .nil)
  (.cons (.ite (.cmp .eq (.var 4) (.str [114, 117, 110])) (.cons (.set 6 (.ite (.cmp .eq (.ix (.var 2) (.int 0)) (.var 3)) (.op .add (.ix (.var 2) (.int 1)) (.int 1)) (.int 1)))
   (.cons (.ret (.ite (.cmp .le (.var 6) (.ix (.var 1) (.int 1))) (.tup (.cons (.var 3) (.cons (.var 6) .nil))) .non))
   .nil)) .nil)
  (.cons (.ite (.cmp .eq (.var 4) (.str [114, 111, 119])) (.cons (.set 6 (.ite (.and (.cmp .ne (.ix (.var 2) (.int 0)) (.str [])) (.cmp .eq (.bim .get1 (.fld (.var 0) 3) (.cons (.ix (.var 2) (.int 0)) .nil)) (.var 3))) (.op .add (.ix (.var 2) (.int 1)) (.int 1)) (.int 1)))
   (.cons (.ret (.ite (.cmp .le (.var 6) (.ix (.var 1) (.int 1))) (.tup (.cons (.var 3) (.cons (.var 6) .nil))) .non))
   .nil)) .nil)
  (.cons (.ite (.cmp .eq (.var 4) (.str [110, 111, 116])) (.cons (.ret (.meth 14 (.var 0) (.cons (.ix (.var 1) (.int 1)) (.cons (.op .add (.var 2) (.var 3)) .nil))))
   .nil) .nil)
  (.cons (.ite (.cmp .eq (.var 4) (.str [102, 105, 114, 115, 116])) (.cons (.ret (.ite (.cmp .ne (.var 2) (.str [])) (.var 2) (.ite (.cmp .eq (.var 5) (.ix (.var 1) (.int 1))) (.var 5) .non)))
   .nil) .nil)
  (.cons (.ret (.var 5))
  .nil)))))))))⟩
abbrev d12 : Df := b_Machine_moved
abbrev f_Machine_moved : Nat := 12
/-- Machine.counted : 0 self, 1 many, 2 most, 3 is_bound -/
def b_Machine_counted : Df := ⟨4, 4,
  (.cons (.ite (.cmp .le (.var 1) (.var 2)) (.cons (.ret (.var 1))
   .nil) .nil)
  (.cons (.ret (.ite (.tru (.var 3)) .non (.var 2)))
  .nil))⟩
abbrev d13 : Df := b_Machine_counted
abbrev f_Machine_counted : Nat := 13
/-- Machine.unmatched : 0 self, 1 text, 2 end -/
def b_Machine_unmatched : Df := ⟨3, 3,
  (.cons (.ite (.bim .endswith (.var 2) (.cons (.var 1) .nil)) (.cons (.ret .non)
   .nil) .nil)
  (.cons (.whl (.not (.bim .startswith (.var 1) (.cons (.var 2) .nil))) (.cons (.set 2 (.sl (.var 2) (.int 1) .non))
   .nil))
  (.cons (.ret (.var 2))
  .nil)))⟩
abbrev d14 : Df := b_Machine_unmatched
abbrev f_Machine_unmatched : Nat := 14
/-- Machine.keeps : 0 self, 1 rule, 2 one, 3 word -/
def b_Machine_keeps : Df := ⟨3, 4,
  (.cons (.set 3 (.ix (.var 1) (.int 0)))
  (.cons (.ite (.cmp .eq (.var 3) (.str [115, 105, 122, 101])) (.cons (.ret (.cmp .ge (.var 2) (.ix (.var 1) (.int 1))))
   .nil) .nil)
  (.cons (.ite (.cmp .eq (.var 3) (.str [108, 101, 97, 115, 116])) (.cons (.ret (.cmp .ge (.var 2) (.ix (.var 1) (.int 2))))
   .nil) .nil)
  (.cons (.ite (.cmp .eq (.var 3) (.str [107, 105, 110, 100, 115])) (.cons (.ret (.cmp .ge (.bi .len (.cons (.var 2) .nil)) (.ix (.var 1) (.int 1))))
   .nil) .nil)
  (.cons (.ite (.cmp .in_ (.var 3) (.tup (.cons (.str [102, 105, 114, 115, 116]) (.cons (.str [108, 97, 115, 116]) .nil)))) (.cons (.ret (.cmp .eq (.var 2) (.ix (.var 1) (.int 1))))
   .nil) .nil)
  (.cons (.ret (.bl true))
  .nil))))))⟩
abbrev d15 : Df := b_Machine_keeps
abbrev f_Machine_keeps : Nat := 15
/-- Machine.fine : 0 self, 1 state, 2 rule, 3 one -/
def b_Machine_fine : Df := ⟨2, 4,
  (.cons (.ret (.and (.cmp .isnt (.var 1) .non) (.bi .all (.cons (.comp true [2, 3] (.zip (.fld (.var 0) 0) (.var 1)) (.bl true) (.meth 15 (.var 0) (.cons (.var 2) (.cons (.var 3) .nil)))) .nil))))
  .nil)⟩
abbrev d16 : Df := b_Machine_fine
abbrev f_Machine_fine : Nat := 16
/-- Machine.after : 0 self, 1 text, 2 state, 3 sign -/
def b_Machine_after : Df := ⟨2, 4,
  (.cons (.set 2 (.fld (.var 0) 4))
  (.cons (.for false [3] (.var 1) (.cons (.set 2 (.meth 11 (.var 0) (.cons (.var 2) (.cons (.var 3) .nil))))
   .nil))
  (.cons (.ret (.var 2))
  .nil)))⟩
abbrev d17 : Df := b_Machine_after
abbrev f_Machine_after : Nat := 17
/-- Machine.nearest : 0 self, 1 state, 2 seen, 3 level, 4 later, 5 one, 6 text, 7 sign, 8 reached -/
def b_Machine_nearest : Df := ⟨2, 9,
  (.cons (.ite (.cmp .is_ (.var 1) .non) (.cons (.ret .non)
   .nil) .nil)
  (.cons (.par [2, 3] (.cons (.done (.var 1) (.bl true)) (.cons (.mk (.lst (.cons (.tup (.cons (.var 1) (.cons (.str []) .nil))) .nil))) .nil)))
  (.cons (.whl (.cmp .ne (.var 3) (.lst .nil)) (.cons (.set 4 (.mk (.lst .nil)))
   (.cons (.for true [5, 6] (.var 3) (.cons (.ite (.meth 16 (.var 0) (.cons (.var 5) .nil)) (.cons (.ret (.var 6))
     .nil) .nil)
    (.cons (.for false [7] (.fld (.var 0) 1) (.cons (.set 8 (.meth 11 (.var 0) (.cons (.var 5) (.cons (.var 7) .nil))))
     (.cons (.ite (.and (.cmp .isnt (.var 8) .non) (.cmp .notin (.var 8) (.var 2))) (.cons (.sub (.var 2) (.var 8) (.bl true))
      (.cons (.ex (.bim .append (.var 4) (.cons (.tup (.cons (.var 8) (.cons (.op .add (.var 6) (.var 7)) .nil))) .nil)))
      .nil)) .nil)
     .nil)))
    .nil)))
   (.cons (.set 3 (.var 4))
   .nil))))
  (.cons (.ret .non)
  .nil))))⟩
abbrev d18 : Df := b_Machine_nearest
abbrev f_Machine_nearest : Nat := 18
/-- broken : 0 policy, 1 text, 2 found, 3 at, 4 rule, 5 alone -/
def b_broken : Df := ⟨2, 6,
  (.cons (.ex (.call 7 (.cons (.var 0) .nil)))
  (.cons (.ex (.call 8 (.cons (.var 0) (.cons (.var 1) .nil))))
  (.cons (.set 2 (.mk (.lst .nil)))
  (.cons (.for true [3, 4] (.enum (.ix (.var 0) (.int 1))) (.cons (.set 5 (.make 0 (.cons (.tup (.cons (.ix (.var 0) (.int 0)) (.cons (.tup (.cons (.var 4) .nil)) .nil))) .nil)))
   (.cons (.ite (.not (.meth 16 (.var 5) (.cons (.meth 17 (.var 5) (.cons (.var 1) .nil)) .nil))) (.cons (.ex (.bim .append (.var 2) (.cons (.var 3) .nil)))
    .nil) .nil)
   .nil)))
  (.cons (.ret (.var 2))
  .nil)))))⟩
abbrev d19 : Df := b_broken
abbrev f_broken : Nat := 19
/-- allows : 0 policy, 1 text -/
def b_allows : Df := ⟨2, 2,
  (.cons (.ret (.cmp .eq (.call 19 (.cons (.var 0) (.cons (.var 1) .nil))) (.lst .nil)))
  .nil)⟩
abbrev d20 : Df := b_allows
abbrev f_allows : Nat := 20
/-- cheapest : 0 machine, 1 state, 2 text, 3 known, 4 best, 5 sign, 6 reached, 7 rest, 8 cost -/
def b_cheapest : Df := ⟨4, 9,
  (.cons (.ite (.cmp .eq (.var 2) (.str [])) (.cons (.ret (.ite (.meth 16 (.var 0) (.cons (.var 1) .nil)) (.tup (.cons (.int 0) (.cons (.str []) .nil))) .non))
   .nil) .nil)
  (.cons (.ite (.cmp .notin (.tup (.cons (.var 1) (.cons (.bi .len (.cons (.var 2) .nil)) .nil))) (.var 3)) (.cons (.set 4 .non)
   (.cons (.for false [5] (.fld (.var 0) 1) (.cons (.set 6 (.meth 11 (.var 0) (.cons (.var 1) (.cons (.var 5) .nil))))
    (.cons (.set 7 (.ite (.cmp .is_ (.var 6) .non) .non (.call 21 (.cons (.var 0) (.cons (.var 6) (.cons (.sl (.var 2) (.int 1) .non) (.cons (.var 3) .nil)))))))
    (.cons (.ite (.cmp .isnt (.var 7) .non) (.cons (.set 8 (.op .add (.ix (.var 7) (.int 0)) (.ite (.cmp .eq (.var 5) (.ix (.var 2) (.int 0))) (.int 0) (.int 1))))
     (.cons (.ite (.or (.cmp .is_ (.var 4) .non) (.cmp .lt (.var 8) (.ix (.var 4) (.int 0)))) (.cons (.set 4 (.tup (.cons (.var 8) (.cons (.op .add (.var 5) (.ix (.var 7) (.int 1))) .nil))))
      .nil) .nil)
     .nil)) .nil)
    .nil))))
   (.cons (.sub (.var 3) (.tup (.cons (.var 1) (.cons (.bi .len (.cons (.var 2) .nil)) .nil))) (.var 4))
   .nil))) .nil)
  (.cons (.ret (.ix (.var 3) (.tup (.cons (.var 1) (.cons (.bi .len (.cons (.var 2) .nil)) .nil)))))
  .nil)))⟩
abbrev d21 : Df := b_cheapest
abbrev f_cheapest : Nat := 21
/-- mended : 0 policy, 1 text, 2 machine, 3 best -/
def b_mended : Df := ⟨2, 4,
  (.cons (.ex (.call 7 (.cons (.var 0) .nil)))
  (.cons (.ex (.call 8 (.cons (.var 0) (.cons (.var 1) .nil))))
  (.cons (.set 2 (.make 0 (.cons (.var 0) .nil)))
  (.cons (.set 3 (.call 21 (.cons (.var 2) (.cons (.fld (.var 2) 4) (.cons (.var 1) (.cons (.dnew true) .nil))))))
  (.cons (.ret (.ite (.cmp .is_ (.var 3) .non) .non (.ix (.var 3) (.int 1))))
  .nil)))))⟩
abbrev d22 : Df := b_mended
abbrev f_mended : Nat := 22
/-- found_by : 0 policy, 1 other, 2 wanted, 3 start, 4 one, 5 two, 6 seen, 7 level, 8 later, 9 key, 10 text, 11 sign, 12 reached -/
def b_found_by : Df := ⟨3, 13,
  (.cons (.par [4, 5] (.cons (.make 0 (.cons (.var 0) .nil)) (.cons (.make 0 (.cons (.var 1) .nil)) .nil)))
  (.cons (.set 3 (.tup (.cons (.fld (.var 4) 4) (.cons (.fld (.var 5) 4) .nil))))
  (.cons (.par [6, 7] (.cons (.done (.var 3) (.bl true)) (.cons (.mk (.lst (.cons (.tup (.cons (.var 3) (.cons (.str []) .nil))) .nil))) .nil)))
  (.cons (.whl (.cmp .ne (.var 7) (.lst .nil)) (.cons (.set 8 (.mk (.lst .nil)))
   (.cons (.for true [9, 10] (.var 7) (.cons (.ite (.cmp .in_ (.tup (.cons (.meth 16 (.var 4) (.cons (.ix (.var 9) (.int 0)) .nil)) (.cons (.meth 16 (.var 5) (.cons (.ix (.var 9) (.int 1)) .nil)) .nil))) (.var 2)) (.cons (.ret (.var 10))
     .nil) .nil)
    (.cons (.for false [11] (.fld (.var 4) 1) (.cons (.set 12 (.tup (.cons (.meth 11 (.var 4) (.cons (.ix (.var 9) (.int 0)) (.cons (.var 11) .nil))) (.cons (.meth 11 (.var 5) (.cons (.ix (.var 9) (.int 1)) (.cons (.var 11) .nil))) .nil))))
     (.cons (.ite (.and (.cmp .ne (.var 12) (.tup (.cons .non (.cons .non .nil)))) (.cmp .notin (.var 12) (.var 6))) (.cons (.sub (.var 6) (.var 12) (.bl true))
      (.cons (.ex (.bim .append (.var 8) (.cons (.tup (.cons (.var 12) (.cons (.op .add (.var 10) (.var 11)) .nil))) .nil)))
      .nil)) .nil)
     .nil)))
    .nil)))
   (.cons (.set 7 (.var 8))
   .nil))))
  (.cons (.ret .non)
  .nil)))))⟩
abbrev d23 : Df := b_found_by
abbrev f_found_by : Nat := 23
/-- parting_of : 0 policy, 1 other -/
def b_parting_of : Df := ⟨2, 2,
  (.cons (.ret (.call 23 (.cons (.var 0) (.cons (.var 1) (.cons (.lst (.cons (.tup (.cons (.bl true) (.cons (.bl false) .nil))) (.cons (.tup (.cons (.bl false) (.cons (.bl true) .nil))) .nil))) .nil)))))
  .nil)⟩
abbrev d24 : Df := b_parting_of
abbrev f_parting_of : Nat := 24
/-- need_pair : 0 policy, 1 other -/
def b_need_pair : Df := ⟨2, 2,
  (.cons (.ex (.call 7 (.cons (.var 0) .nil)))
  (.cons (.ex (.call 7 (.cons (.var 1) .nil)))
  (.cons (.ite (.cmp .ne (.ix (.var 0) (.int 0)) (.ix (.var 1) (.int 0))) (.cons (.rai 4)
   .nil) .nil)
  .nil)))⟩
abbrev d25 : Df := b_need_pair
abbrev f_need_pair : Nat := 25
/-- parting : 0 policy, 1 other -/
def b_parting : Df := ⟨2, 2,
  (.cons (.ex (.call 25 (.cons (.var 0) (.cons (.var 1) .nil))))
  (.cons (.ret (.call 24 (.cons (.var 0) (.cons (.var 1) .nil))))
  .nil))⟩
abbrev d26 : Df := b_parting
abbrev f_parting : Nat := 26
/-- common : 0 policy, 1 other -/
def b_common : Df := ⟨2, 2,
  (.cons (.ex (.call 25 (.cons (.var 0) (.cons (.var 1) .nil))))
  (.cons (.ret (.call 23 (.cons (.var 0) (.cons (.var 1) (.cons (.lst (.cons (.tup (.cons (.bl true) (.cons (.bl true) .nil))) .nil)) .nil)))))
  .nil))⟩
abbrev d27 : Df := b_common
abbrev f_common : Nat := 27
/-- many_from : 0 machine, 1 state, 2 size, 3 known, 4 total, 5 sign, 6 reached -/
def b_many_from : Df := ⟨4, 7,
  (.cons (.ite (.cmp .eq (.var 2) (.int 0)) (.cons (.ret (.ite (.meth 16 (.var 0) (.cons (.var 1) .nil)) (.int 1) (.int 0)))
   .nil) .nil)
  (.cons (.ite (.cmp .notin (.tup (.cons (.var 1) (.cons (.var 2) .nil))) (.var 3)) (.cons (.set 4 (.int 0))
   (.cons (.for false [5] (.fld (.var 0) 1) (.cons (.set 6 (.meth 11 (.var 0) (.cons (.var 1) (.cons (.var 5) .nil))))
    (.cons (.ite (.cmp .isnt (.var 6) .non) (.cons (.aug 4 .add (.call 28 (.cons (.var 0) (.cons (.var 6) (.cons (.op .sub (.var 2) (.int 1)) (.cons (.var 3) .nil))))))
     .nil) .nil)
    .nil)))
   (.cons (.sub (.var 3) (.tup (.cons (.var 1) (.cons (.var 2) .nil))) (.var 4))
   .nil))) .nil)
  (.cons (.ret (.ix (.var 3) (.tup (.cons (.var 1) (.cons (.var 2) .nil)))))
  .nil)))⟩
abbrev d28 : Df := b_many_from
abbrev f_many_from : Nat := 28
/-- need_size : 0 value -/
def b_need_size : Df := ⟨1, 1,
  (.cons (.ite (.not (.call 0 (.cons (.var 0) (.cons (.int 0) (.cons (.gl 5) .nil))))) (.cons (.rai 2)
   .nil) .nil)
  .nil)⟩
abbrev d29 : Df := b_need_size
abbrev f_need_size : Nat := 29
/-- count : 0 policy, 1 size, 2 machine -/
def b_count : Df := ⟨2, 3,
  (.cons (.ex (.call 7 (.cons (.var 0) .nil)))
  (.cons (.ex (.call 29 (.cons (.var 1) .nil)))
  (.cons (.set 2 (.make 0 (.cons (.var 0) .nil)))
  (.cons (.ret (.call 28 (.cons (.var 2) (.cons (.fld (.var 2) 4) (.cons (.var 1) (.cons (.dnew true) .nil))))))
  .nil))))⟩
abbrev d30 : Df := b_count
abbrev f_count : Nat := 30
/-- graph_of : 0 machine, 1 graph, 2 left, 3 state, 4 reached, 5 sign, 6 one -/
def b_graph_of : Df := ⟨1, 7,
  (.cons (.par [1, 2] (.cons (.dnew true) (.cons (.mk (.lst (.cons (.fld (.var 0) 4) .nil))) .nil)))
  (.cons (.whl (.cmp .ne (.var 2) (.lst .nil)) (.cons (.set 3 (.bim .pop (.var 2) .nil))
   (.cons (.ite (.cmp .notin (.var 3) (.var 1)) (.cons (.set 4 (.comp false [5] (.fld (.var 0) 1) (.bl true) (.meth 11 (.var 0) (.cons (.var 3) (.cons (.var 5) .nil)))))
    (.cons (.sub (.var 1) (.var 3) (.comp false [6] (.var 4) (.cmp .isnt (.var 6) .non) (.var 6)))
    (.cons (.ex (.bim .extend (.var 2) (.cons (.ix (.var 1) (.var 3)) .nil)))
    .nil))) .nil)
   .nil)))
  (.cons (.ret (.var 1))
  .nil)))⟩
abbrev d31 : Df := b_graph_of
abbrev f_graph_of : Nat := 31
/-- useful : 0 machine, 1 graph, 2 before, 3 state, 4 reached, 5 found, 6 left -/
def b_useful : Df := ⟨2, 7,
  (.cons (.set 2 (.dcomp 0 .non .non))
  (.cons (.fork 0 .non .nil)
  (.cons (.par [5, 6] (.cons (.dnew true) (.cons (.mk (.comp false [3] (.var 1) (.meth 16 (.var 0) (.cons (.var 3) .nil)) (.var 3))) .nil)))
  (.cons (.whl (.cmp .ne (.var 6) (.lst .nil)) (.cons (.set 3 (.bim .pop (.var 6) .nil))
   (.cons (.ite (.cmp .notin (.var 3) (.var 5)) (.cons (.sub (.var 5) (.var 3) (.bl true))
    (.cons (.ex (.bim .extend (.var 6) (.cons (.ix (.var 2) (.var 3)) .nil)))
    .nil)) .nil)
   .nil)))
  (.cons (.ret (.var 5))
  .nil)))))⟩
abbrev d32 : Df := b_useful
abbrev f_useful : Nat := 32
/-- total : 0 policy, 1 machine, 2 graph, 3 good, 4 kept, 5 state, 6 one -/
def b_total : Df := ⟨1, 7,
  (.cons (.ex (.call 7 (.cons (.var 0) .nil)))
  (.cons (.set 1 (.make 0 (.cons (.var 0) .nil)))
  (.cons (.set 2 (.call 31 (.cons (.var 1) .nil)))
  (.cons (.set 3 (.call 32 (.cons (.var 1) (.cons (.var 2) .nil))))
  (.cons (.set 4 (.dcomp 0 .non .non))
  (.cons (.ret (.call 34 (.cons (.var 1) (.cons (.var 4) .nil))))
  .nil))))))⟩
abbrev d33 : Df := b_total
abbrev f_total : Nat := 33
/-- paths : 0 machine, 1 kept, 2 open_edges, 3 state, 4 numbers, 5 reached, 6 left, 7 many, 8 done -/
def b_paths : Df := ⟨2, 9,
  (.cons (.set 2 (.dcomp 0 .non .non))
  (.cons (.fork 0 .non .nil)
  (.cons (.set 4 (.dcomp 0 .non .non))
  (.cons (.par [6, 7, 8] (.cons (.mk (.comp false [3] (.var 1) (.cmp .eq (.ix (.var 2) (.var 3)) (.int 0)) (.var 3))) (.cons (.int 0) (.cons (.int 0) .nil))))
  (.cons (.whl (.cmp .ne (.var 6) (.lst .nil)) (.cons (.set 3 (.bim .pop (.var 6) .nil))
   (.cons (.aug 8 .add (.int 1))
   (.cons (.aug 7 .add (.ite (.meth 16 (.var 0) (.cons (.var 3) .nil)) (.ix (.var 4) (.var 3)) (.int 0)))
   (.cons (.for false [5] (.ix (.var 1) (.var 3)) (.cons (.augs (.var 4) (.var 5) .add (.ix (.var 4) (.var 3)))
    (.cons (.augs (.var 2) (.var 5) .sub (.int 1))
    (.cons (.ite (.cmp .eq (.ix (.var 2) (.var 5)) (.int 0)) (.cons (.ex (.bim .append (.var 6) (.cons (.var 5) .nil)))
     .nil) .nil)
    .nil))))
   .nil)))))
  (.cons (.ret (.ite (.cmp .eq (.var 8) (.bi .len (.cons (.var 1) .nil))) (.var 7) .non))
  .nil))))))⟩
abbrev d34 : Df := b_paths
abbrev f_paths : Nat := 34
/-- at_place : 0 policy, 1 size, 2 number, 3 machine, 4 known, 5 state, 6 text, 7 sign, 8 reached, 9 many -/
def b_at_place : Df := ⟨3, 10,
  (.cons (.ex (.call 7 (.cons (.var 0) .nil)))
  (.cons (.ex (.call 29 (.cons (.var 1) .nil)))
  (.cons (.par [3, 4] (.cons (.make 0 (.cons (.var 0) .nil)) (.cons (.dnew true) .nil)))
  (.cons (.ite (.not (.call 0 (.cons (.var 2) (.cons (.int 0) (.cons (.op .sub (.call 28 (.cons (.var 3) (.cons (.fld (.var 3) 4) (.cons (.var 1) (.cons (.var 4) .nil))))) (.int 1)) .nil))))) (.cons (.rai 2)
   .nil) .nil)
  (.cons (.par [5, 6] (.cons (.fld (.var 3) 4) (.cons (.str []) .nil)))
  (.cons (.whl (.cmp .lt (.bi .len (.cons (.var 6) .nil)) (.var 1)) (.cons (.for false [7] (.fld (.var 3) 1) (.cons (.set 8 (.meth 11 (.var 3) (.cons (.var 5) (.cons (.var 7) .nil))))
    (.cons (.set 9 (.ite (.cmp .is_ (.var 8) .non) (.int 0) (.call 28 (.cons (.var 3) (.cons (.var 8) (.cons (.op .sub (.op .sub (.var 1) (.bi .len (.cons (.var 6) .nil))) (.int 1)) (.cons (.var 4) .nil)))))))
    (.cons (.ite (.cmp .lt (.var 2) (.var 9)) (.cons (.par [5, 6] (.cons (.var 8) (.cons (.op .add (.var 6) (.var 7)) .nil)))
     (.cons .brk
     .nil)) .nil)
    (.cons (.aug 2 .sub (.var 9))
    .nil)))))
   .nil))
  (.cons (.ret (.var 6))
  .nil)))))))⟩
abbrev d35 : Df := b_at_place
abbrev f_at_place : Nat := 35
/-- place_of : 0 policy, 1 text, 2 state, 3 machine, 4 known, 5 place, 6 at, 7 own, 8 sign, 9 reached -/
def b_place_of : Df := ⟨2, 10,
  (.cons (.ex (.call 7 (.cons (.var 0) .nil)))
  (.cons (.ex (.call 8 (.cons (.var 0) (.cons (.var 1) .nil))))
  (.cons (.par [3, 4, 5] (.cons (.make 0 (.cons (.var 0) .nil)) (.cons (.dnew true) (.cons (.int 0) .nil))))
  (.cons (.ite (.not (.meth 16 (.var 3) (.cons (.meth 17 (.var 3) (.cons (.var 1) .nil)) .nil))) (.cons (.rai 3)
   .nil) .nil)
  (.cons (.set 2 (.fld (.var 3) 4))
  (.cons (.for true [6, 7] (.enum (.var 1)) (.cons (.for false [8] (.sl (.fld (.var 3) 1) .non (.bim .index (.fld (.var 3) 1) (.cons (.var 7) .nil))) (.cons (.set 9 (.meth 11 (.var 3) (.cons (.var 2) (.cons (.var 8) .nil))))
    (.cons (.ite (.cmp .isnt (.var 9) .non) (.cons (.aug 5 .add (.call 28 (.cons (.var 3) (.cons (.var 9) (.cons (.op .sub (.op .sub (.bi .len (.cons (.var 1) .nil)) (.var 6)) (.int 1)) (.cons (.var 4) .nil))))))
     .nil) .nil)
    .nil)))
   (.cons (.set 2 (.meth 11 (.var 3) (.cons (.var 2) (.cons (.var 7) .nil))))
   .nil)))
  (.cons (.ret (.var 5))
  .nil)))))))⟩
abbrev d36 : Df := b_place_of
abbrev f_place_of : Nat := 36
/-- first_of : 0 policy, 1 machine -/
def b_first_of : Df := ⟨1, 2,
  (.cons (.set 1 (.make 0 (.cons (.var 0) .nil)))
  (.cons (.ret (.meth 18 (.var 1) (.cons (.fld (.var 1) 4) .nil)))
  .nil))⟩
abbrev d37 : Df := b_first_of
abbrev f_first_of : Nat := 37
/-- first : 0 policy -/
def b_first : Df := ⟨1, 1,
  (.cons (.ex (.call 7 (.cons (.var 0) .nil)))
  (.cons (.ret (.call 37 (.cons (.var 0) .nil)))
  .nil))⟩
abbrev d38 : Df := b_first
abbrev f_first : Nat := 38
/-- without : 0 policy, 1 at -/
def b_without : Df := ⟨2, 2,
  (.cons (.ret (.tup (.cons (.ix (.var 0) (.int 0)) (.cons (.op .add (.sl (.ix (.var 0) (.int 1)) .non (.var 1)) (.sl (.ix (.var 0) (.int 1)) (.op .add (.var 1) (.int 1)) .non)) .nil))))
  .nil)⟩
abbrev d39 : Df := b_without
abbrev f_without : Nat := 39
/-- idle : 0 policy, 1 at -/
def b_idle : Df := ⟨1, 2,
  (.cons (.ex (.call 7 (.cons (.var 0) .nil)))
  (.cons (.ret (.comp false [1] (.rng (.bi .len (.cons (.ix (.var 0) (.int 1)) .nil))) (.cmp .is_ (.call 24 (.cons (.var 0) (.cons (.call 39 (.cons (.var 0) (.cons (.var 1) .nil))) .nil))) .non) (.var 1)))
  .nil))⟩
abbrev d40 : Df := b_idle
abbrev f_idle : Nat := 40
/-- choices : 0 many, 1 size, 2 start, 3 found, 4 lowest, 5 rest -/
def b_choices : Df := ⟨3, 6,
  (.cons (.ite (.cmp .eq (.var 1) (.int 0)) (.cons (.ret (.lst (.cons (.lst .nil) .nil)))
   .nil) .nil)
  (.cons (.set 3 (.mk (.lst .nil)))
  (.cons (.for false [4] (.rng2 (.var 2) (.var 0)) (.cons (.ex (.bim .extend (.var 3) (.cons (.comp false [5] (.call 41 (.cons (.var 0) (.cons (.op .sub (.var 1) (.int 1)) (.cons (.op .add (.var 4) (.int 1)) .nil)))) (.bl true) (.opl .add (.lst (.cons (.var 4) .nil)) (.var 5))) .nil)))
   .nil))
  (.cons (.ret (.var 3))
  .nil))))⟩
abbrev d41 : Df := b_choices
abbrev f_choices : Nat := 41
/-- core : 0 policy, 1 many, 2 size, 3 some, 4 at -/
def b_core : Df := ⟨1, 5,
  (.cons (.ex (.call 7 (.cons (.var 0) .nil)))
  (.cons (.ite (.cmp .isnt (.call 37 (.cons (.var 0) .nil)) .non) (.cons (.ret .non)
   .nil) .nil)
  (.cons (.set 1 (.bi .len (.cons (.ix (.var 0) (.int 1)) .nil)))
  (.cons (.for false [2] (.rng (.var 1)) (.cons (.for false [3] (.call 41 (.cons (.var 1) (.cons (.var 2) (.cons (.int 0) .nil)))) (.cons (.ite (.cmp .is_ (.call 37 (.cons (.tup (.cons (.ix (.var 0) (.int 0)) (.cons (.bi .tuple (.cons (.comp false [4] (.var 3) (.bl true) (.ix (.ix (.var 0) (.int 1)) (.var 4))) .nil)) .nil))) .nil)) .non) (.cons (.ret (.var 3))
     .nil) .nil)
    .nil))
   .nil))
  (.cons (.ret (.bi .lrange (.cons (.var 1) .nil)))
  .nil)))))⟩
abbrev d42 : Df := b_core
abbrev f_core : Nat := 42
/-- Typist.__init__ : 0 self, 1 policy -/
def b_Typist_init : Df := ⟨2, 2,
  (.cons (.ex (.call 7 (.cons (.var 1) .nil)))
  (.cons (.fld (.var 0) 6 (.make 0 (.cons (.var 1) .nil)))
  (.cons (.fld (.var 0) 7 (.str []))
  .nil)))⟩
abbrev d43 : Df := b_Typist_init
abbrev f_Typist_init : Nat := 43
/-- Typist.text : 0 self -/
def b_Typist_text : Df := ⟨1, 1,
  (.cons (.ret (.fld (.var 0) 7))
  .nil)⟩
abbrev d44 : Df := b_Typist_text
abbrev f_Typist_text : Nat := 44
/-- _law_draw : 0 _law_script, 1 _law_town, 2 _law_many, 3 _law_at, 4 _law_mixed, 5 _law_one -/
def b_law_draw : Df := ⟨3, 6,
  (.cons (.ite (.cmp .gt (.ix (.var 1) (.int 1)) (.int 0)) (.cons (.set 5 (.op .mod (.ix (.var 1) (.int 1)) (.var 2)))
   (.cons (.sub (.var 1) (.int 1) (.op .fdiv (.ix (.var 1) (.int 1)) (.var 2)))
   (.cons (.ret (.var 5))
   .nil))) .nil)
  (.cons (.set 3 (.ix (.var 1) (.int 0)))
  (.cons (.augs (.var 1) (.int 0) .add (.int 1))
  (.cons (.ite (.cmp .eq (.var 0) (.lst .nil)) (.cons (.ret (.op .mod (.var 3) (.var 2)))
   .nil) .nil)
  (.cons (.ite (.and (.cmp .lt (.var 3) (.bi .len (.cons (.var 0) .nil))) (.cmp .ge (.ix (.var 0) (.var 3)) (.op .pow (.int 10) (.int 18)))) (.cons (.sub (.var 1) (.int 1) (.op .mod (.op .fdiv (.ix (.var 0) (.var 3)) (.var 2)) (.op .mul (.op .pow (.int 10) (.int 60)) (.op .pow (.int 10) (.int 60)))))
   (.cons (.ret (.op .mod (.ix (.var 0) (.var 3)) (.var 2)))
   .nil)) .nil)
  (.cons (.set 4 (.op .mod (.op .add (.op .add (.op .mul (.ix (.var 0) (.op .mod (.var 3) (.bi .len (.cons (.var 0) .nil)))) (.int 1103515245)) (.op .mul (.int 7919) (.var 3))) (.int 12345)) (.int 2147483647)))
  (.cons (.ret (.op .mod (.op .mod (.op .mod (.op .pow (.var 4) (.int 5)) (.int 2147483647)) (.int 999983)) (.var 2)))
  .nil)))))))⟩
abbrev d45 : Df := b_law_draw
abbrev f_law_draw : Nat := 45
/-- _law_pick : 0 _law_script, 1 _law_town, 2 _law_some -/
def b_law_pick : Df := ⟨3, 3,
  (.cons (.ret (.ix (.var 2) (.call 45 (.cons (.var 0) (.cons (.var 1) (.cons (.bi .len (.cons (.var 2) .nil)) .nil))))))
  .nil)⟩
abbrev d46 : Df := b_law_pick
abbrev f_law_pick : Nat := 46
/-- _law_classes : 0 _law_script, 1 _law_town, 2 _law_kinds -/
def b_law_classes : Df := ⟨2, 3,
  (.cons (.set 2 (.lst (.cons (.tup (.cons (.tup (.cons (.str [108, 111, 119]) (.cons (.str [97, 98]) .nil))) (.cons (.tup (.cons (.str [100, 105, 103]) (.cons (.str [48, 49]) .nil))) .nil))) (.cons (.tup (.cons (.tup (.cons (.str [108, 111, 119]) (.cons (.str [97, 98, 99]) .nil))) (.cons (.tup (.cons (.str [100, 105, 103]) (.cons (.str [48]) .nil))) .nil))) (.cons (.tup (.cons (.tup (.cons (.str [120]) (.cons (.str [97, 98, 99, 100]) .nil))) .nil)) .nil)))))
  (.cons (.ret (.call 46 (.cons (.var 0) (.cons (.var 1) (.cons (.opl .add (.var 2) (.lst (.cons (.tup (.cons (.tup (.cons (.str [117, 112]) (.cons (.str [65]) .nil))) (.cons (.tup (.cons (.str [108, 111, 119]) (.cons (.str [97]) .nil))) (.cons (.tup (.cons (.str [100, 105, 103]) (.cons (.str [49]) .nil))) .nil)))) (.cons (.tup (.cons (.tup (.cons (.str [109]) (.cons (.str [33]) .nil))) (.cons (.tup (.cons (.str [108, 111, 119]) (.cons (.str [98, 97]) .nil))) .nil))) .nil)))) .nil)))))
  .nil))⟩
abbrev d47 : Df := b_law_classes
abbrev f_law_classes : Nat := 47
/-- _law_rule : 0 _law_script, 1 _law_town, 2 _law_classes_here, 3 _law_name, 4 _law_signs, 5 _law_what, 6 _law_number, 7 _law_least, 8 _law_other, 9 _law_one, 10 _law_k -/
def b_law_rule : Df := ⟨3, 11,
  (.cons (.par [3, 4] (.cons (.ix (.call 46 (.cons (.var 0) (.cons (.var 1) (.cons (.var 2) .nil)))) (.int 0)) (.cons (.bim .join (.str []) (.cons (.comp true [8, 9] (.var 2) (.bl true) (.var 9)) .nil)) .nil)))
  (.cons (.par [5, 6] (.cons (.call 45 (.cons (.var 0) (.cons (.var 1) (.cons (.int 10) .nil)))) (.cons (.op .add (.int 1) (.call 45 (.cons (.var 0) (.cons (.var 1) (.cons (.int 3) .nil))))) .nil)))
  (.cons (.ite (.cmp .lt (.var 5) (.int 2)) (.cons (.set 7 (.call 45 (.cons (.var 0) (.cons (.var 1) (.cons (.int 4) .nil)))))
   (.cons (.ret (.tup (.cons (.str [115, 105, 122, 101]) (.cons (.var 7) (.cons (.call 46 (.cons (.var 0) (.cons (.var 1) (.cons (.lst (.cons .non (.cons (.op .add (.var 7) (.var 6)) (.cons (.op .add (.var 7) (.int 1)) (.cons (.var 7) .nil))))) .nil)))) .nil)))))
   .nil)) .nil)
  (.cons (.ite (.cmp .lt (.var 5) (.int 4)) (.cons (.ret (.tup (.cons (.ix (.lst (.cons (.str [108, 101, 97, 115, 116]) (.cons (.str [109, 111, 115, 116]) .nil))) (.op .sub (.var 5) (.int 2))) (.cons (.var 3) (.cons (.var 6) .nil)))))
   .nil) .nil)
  (.cons (.ite (.cmp .lt (.var 5) (.int 7)) (.cons (.ret (.tup (.cons (.ix (.lst (.cons (.str [107, 105, 110, 100, 115]) (.cons (.str [114, 117, 110]) (.cons (.str [114, 111, 119]) .nil)))) (.op .sub (.var 5) (.int 4))) (.cons (.ite (.cmp .gt (.var 5) (.int 4)) (.var 6) (.bi .min2 (.cons (.var 6) (.cons (.bi .len (.cons (.var 2) .nil)) .nil)))) .nil))))
   .nil) .nil)
  (.cons (.ite (.cmp .eq (.var 5) (.int 7)) (.cons (.ret (.tup (.cons (.str [110, 111, 116]) (.cons (.bim .join (.str []) (.cons (.comp false [10] (.rng (.var 6)) (.bl true) (.call 46 (.cons (.var 0) (.cons (.var 1) (.cons (.var 4) .nil))))) .nil)) .nil))))
   .nil) .nil)
  (.cons (.ret (.tup (.cons (.ix (.lst (.cons (.str [102, 105, 114, 115, 116]) (.cons (.str [108, 97, 115, 116]) .nil))) (.op .sub (.var 5) (.int 8))) (.cons (.var 3) .nil))))
  .nil)))))))⟩
abbrev d48 : Df := b_law_rule
abbrev f_law_rule : Nat := 48
/-- _law_policy : 0 _law_script, 1 _law_town, 2 _law_classes_here, 3 _law_most, 4 _law_rules, 5 _law_k, 6 _law_rule_here -/
def b_law_policy : Df := ⟨4, 7,
  (.cons (.set 4 (.mk (.lst .nil)))
  (.cons (.for false [5] (.rng (.call 45 (.cons (.var 0) (.cons (.var 1) (.cons (.op .add (.var 3) (.int 1)) .nil))))) (.cons (.set 6 (.call 48 (.cons (.var 0) (.cons (.var 1) (.cons (.var 2) .nil)))))
   (.cons (.ite (.cmp .notin (.var 6) (.var 4)) (.cons (.ex (.bim .append (.var 4) (.cons (.var 6) .nil)))
    .nil) .nil)
   .nil)))
  (.cons (.ret (.tup (.cons (.var 2) (.cons (.bi .tuple (.cons (.var 4) .nil)) .nil))))
  .nil)))⟩
abbrev d49 : Df := b_law_policy
abbrev f_law_policy : Nat := 49
/-- _law_which : 0 _law_error, 1 _law_own -/
def b_law_which : Df := ⟨1, 2,
  (.cons (.fork 0 .non .nil) .nil)⟩
abbrev d50 : Df := b_law_which
abbrev f_law_which : Nat := 50
/-- _law_ask : 0 _law_what, 1 _law_one, 2 _law_other, 3 _law_third, 4 _law_error -/
def b_law_ask : Df := ⟨4, 5,
  (.cons (.try (.cons (.ite (.cmp .lt (.var 0) (.int 5)) (.cons (.ret (.callv (.ix (.lst (.cons (.fn 9) (.cons (.fn 38) (.cons (.fn 40) (.cons (.fn 42) (.cons (.fn 33) .nil)))))) (.var 0)) (.cons (.var 1) .nil)))
    .nil) .nil)
   (.cons (.ite (.cmp .eq (.var 0) (.int 5)) (.cons (.ret (.meth 44 (.make 1 (.cons (.var 1) .nil)) .nil))
    .nil) .nil)
   (.cons (.ite (.cmp .lt (.var 0) (.int 13)) (.cons (.ret (.callv (.ix (.lst (.cons (.fn 19) (.cons (.fn 20) (.cons (.fn 22) (.cons (.fn 30) (.cons (.fn 36) (.cons (.fn 26) (.cons (.fn 27) .nil)))))))) (.op .sub (.var 0) (.int 6))) (.cons (.var 1) (.cons (.var 2) .nil))))
    .nil) .nil)
   (.cons (.ret (.call 35 (.cons (.var 1) (.cons (.var 2) (.cons (.var 3) .nil)))))
   .nil)))))
  .nil)⟩
abbrev d51 : Df := b_law_ask
abbrev f_law_ask : Nat := 51
/-- _law_all : 0 _law_whats, 1 _law_one, 2 _law_other, 3 _law_third, 4 _law_due, 5 _law_what -/
def b_law_all : Df := ⟨5, 6,
  (.cons (.ret (.cmp .eq (.comp false [5] (.var 0) (.bl true) (.call 51 (.cons (.var 5) (.cons (.var 1) (.cons (.var 2) (.cons (.var 3) .nil)))))) (.opl .mul (.lst (.cons (.tup (.cons (.str [114, 97, 105, 115, 101, 100]) (.cons (.var 4) .nil))) .nil)) (.bi .len (.cons (.var 0) .nil)))))
  .nil)⟩
abbrev d52 : Df := b_law_all
abbrev f_law_all : Nat := 52
/-- _law_bad_classes : 0 _law_bad -/
def b_law_bad_classes : Df := ⟨0, 1,
  (.cons (.set 0 (.mk (.lst (.cons .non (.cons (.tup .nil) (.cons (.lst (.cons (.tup (.cons (.str [97]) (.cons (.str [97]) .nil))) .nil)) (.cons (.tup (.cons (.tup (.cons (.str [97]) .nil)) .nil)) (.cons (.tup (.cons (.tup (.cons (.str [97]) (.cons (.str [97]) (.cons (.str [97]) .nil)))) .nil)) (.cons (.tup (.cons (.lst (.cons (.str [97]) (.cons (.str [97]) .nil))) .nil)) (.cons (.tup (.cons (.tup (.cons (.str []) (.cons (.str [97]) .nil))) .nil)) .nil))))))))))
  (.cons (.ex (.bim .extend (.var 0) (.cons (.lst (.cons (.tup (.cons (.tup (.cons (.str [65]) (.cons (.str [97]) .nil))) .nil)) (.cons (.tup (.cons (.tup (.cons (.str [97]) (.cons (.str []) .nil))) .nil)) (.cons (.tup (.cons (.tup (.cons (.str [97]) (.cons (.str [97, 97]) .nil))) .nil)) .nil)))) .nil)))
  (.cons (.ex (.bim .extend (.var 0) (.cons (.lst (.cons (.tup (.cons (.tup (.cons (.str [97, 98, 99, 100, 101, 102, 103]) (.cons (.str [97]) .nil))) .nil)) (.cons (.tup (.cons (.tup (.cons (.str [97]) (.cons (.str [97, 98, 99, 100, 101, 102, 103]) .nil))) .nil)) (.cons (.tup (.cons (.tup (.cons (.str [97]) (.cons (.str [97, 32, 98]) .nil))) .nil)) (.cons (.tup (.cons (.tup (.cons (.str [97]) (.cons (.str [42]) .nil))) .nil)) .nil))))) .nil)))
  (.cons (.ex (.bim .extend (.var 0) (.cons (.lst (.cons (.tup (.cons (.tup (.cons (.str [97]) (.cons (.str [97, 98]) .nil))) (.cons (.tup (.cons (.str [98]) (.cons (.str [98, 99]) .nil))) .nil))) (.cons (.tup (.cons (.tup (.cons (.str [97]) (.cons (.str [97]) .nil))) (.cons (.tup (.cons (.str [97]) (.cons (.str [98]) .nil))) .nil))) .nil))) .nil)))
  (.cons (.ret (.opl .add (.var 0) (.lst (.cons (.tup (.cons (.tup (.cons (.str [97]) (.cons (.int 5) .nil))) .nil)) (.cons (.tup (.cons (.tup (.cons (.str [97]) (.cons (.str [49]) .nil))) (.cons (.tup (.cons (.str [98]) (.cons (.str [50]) .nil))) (.cons (.tup (.cons (.str [99]) (.cons (.str [51]) .nil))) (.cons (.tup (.cons (.str [100]) (.cons (.str [52]) .nil))) (.cons (.tup (.cons (.str [101]) (.cons (.str [53]) .nil))) .nil)))))) (.cons (.str [97]) (.cons (.tup (.cons (.tup (.cons (.int 1) (.cons (.str [97]) .nil))) .nil)) .nil)))))))
  .nil)))))⟩
abbrev d53 : Df := b_law_bad_classes
abbrev f_law_bad_classes : Nat := 53
/-- _law_bad_rules : 0 _law_bad -/
def b_law_bad_rules : Df := ⟨0, 1,
  (.cons (.set 0 (.mk (.lst (.cons .non (.cons (.tup .nil) (.cons (.lst (.cons (.str [114, 117, 110]) (.cons (.int 1) .nil))) (.cons (.str [114, 117, 110]) (.cons (.tup (.cons (.str [114, 117, 110]) .nil)) (.cons (.tup (.cons (.str [114, 117, 110]) (.cons (.int 0) .nil))) (.cons (.tup (.cons (.str [114, 117, 110]) (.cons (.int 5) .nil))) (.cons (.tup (.cons (.str [114, 117, 110]) (.cons (.bl true) .nil))) (.cons (.tup (.cons (.str [114, 111, 119]) (.cons (.int 0) .nil))) .nil))))))))))))
  (.cons (.ex (.bim .extend (.var 0) (.cons (.lst (.cons (.tup (.cons (.str [114, 111, 119]) (.cons (.int 5) .nil))) (.cons (.tup (.cons (.str [107, 105, 110, 100, 115]) (.cons (.int 0) .nil))) (.cons (.tup (.cons (.str [107, 105, 110, 100, 115]) (.cons (.int 5) .nil))) (.cons (.tup (.cons (.str [115, 105, 122, 101]) (.cons (.int 1) .nil))) .nil))))) .nil)))
  (.cons (.ex (.bim .extend (.var 0) (.cons (.lst (.cons (.tup (.cons (.str [115, 105, 122, 101]) (.cons (.neg (.int 1)) (.cons (.int 2) .nil)))) (.cons (.tup (.cons (.str [115, 105, 122, 101]) (.cons (.int 3) (.cons (.int 2) .nil)))) (.cons (.tup (.cons (.str [115, 105, 122, 101]) (.cons (.int 0) (.cons (.int 13) .nil)))) (.cons (.tup (.cons (.str [115, 105, 122, 101]) (.cons (.int 13) (.cons .non .nil)))) (.cons (.tup (.cons (.str [115, 105, 122, 101]) (.cons .non (.cons (.int 3) .nil)))) .nil)))))) .nil)))
  (.cons (.ex (.bim .extend (.var 0) (.cons (.lst (.cons (.tup (.cons (.str [115, 105, 122, 101]) (.cons (.int 1) (.cons (.int 2) (.cons (.int 3) .nil))))) (.cons (.tup (.cons (.str [108, 101, 97, 115, 116]) (.cons (.str [97]) (.cons (.int 0) .nil)))) .nil))) .nil)))
  (.cons (.ex (.bim .extend (.var 0) (.cons (.lst (.cons (.tup (.cons (.str [108, 101, 97, 115, 116]) (.cons (.str [97]) (.cons (.int 5) .nil)))) (.cons (.tup (.cons (.str [108, 101, 97, 115, 116]) (.cons (.str [99]) (.cons (.int 1) .nil)))) (.cons (.tup (.cons (.str [109, 111, 115, 116]) (.cons (.str [97]) (.cons (.neg (.int 1)) .nil)))) (.cons (.tup (.cons (.str [109, 111, 115, 116]) (.cons (.str [97]) (.cons (.int 5) .nil)))) .nil))))) .nil)))
  (.cons (.ex (.bim .extend (.var 0) (.cons (.lst (.cons (.tup (.cons (.str [109, 111, 115, 116]) (.cons .non (.cons (.int 1) .nil)))) (.cons (.tup (.cons (.str [102, 105, 114, 115, 116]) (.cons (.str [99]) .nil))) (.cons (.tup (.cons (.str [108, 97, 115, 116]) .nil)) (.cons (.tup (.cons (.str [108, 97, 115, 116]) (.cons (.str [97]) (.cons (.int 1) .nil)))) .nil))))) .nil)))
  (.cons (.ex (.bim .extend (.var 0) (.cons (.lst (.cons (.tup (.cons (.str [110, 111, 116]) (.cons (.str []) .nil))) (.cons (.tup (.cons (.str [110, 111, 116]) (.cons (.str [120, 121, 122, 120, 121, 122]) .nil))) (.cons (.tup (.cons (.str [110, 111, 116]) (.cons (.str [113]) .nil))) (.cons (.tup (.cons (.str [110, 111, 116]) (.cons (.int 5) .nil))) (.cons (.tup (.cons (.str [108, 101, 115, 115]) (.cons (.int 1) .nil))) (.cons (.tup (.cons (.int 5) (.cons (.int 1) .nil))) .nil))))))) .nil)))
  (.cons (.ret (.opl .add (.var 0) (.lst (.cons (.tup (.cons (.str [102, 105, 114, 115, 116]) (.cons (.lst (.cons (.str [97]) .nil)) .nil))) (.cons (.tup (.cons (.str [114, 117, 110]) (.cons (.str [49]) .nil))) (.cons (.tup (.cons (.str [107, 105, 110, 100, 115]) (.cons (.int 1) (.cons (.int 1) .nil)))) .nil))))))
  .nil))))))))⟩
abbrev d54 : Df := b_law_bad_rules
abbrev f_law_bad_rules : Nat := 54
/-- law : 0 _law_script, 1 _law_town, 2 _law_classes_here, 3 _law_policy_here, 4 _law_values, 5 _law_bad, 6 _law_full, 7 _law_most, 8 _law_plain, 9 _law_other, 10 _law_k -/
def b_law : Df := ⟨1, 11,
  (.cons (.set 1 (.mk (.lst (.cons (.int 0) (.cons (.int 0) .nil)))))
  (.cons (.set 2 (.tup (.cons (.tup (.cons (.str [97]) (.cons (.str [120, 121, 122]) .nil))) (.cons (.tup (.cons (.str [98]) (.cons (.str [49]) .nil))) .nil))))
  (.cons (.set 3 (.call 49 (.cons (.var 0) (.cons (.var 1) (.cons (.var 2) (.cons (.int 3) .nil))))))
  (.cons (.set 4 (.mk (.opl .add (.comp false [5] (.call 53 .nil) (.bl true) (.tup (.cons (.var 5) (.cons (.tup .nil) .nil)))) (.comp false [5] (.call 54 .nil) (.bl true) (.tup (.cons (.var 2) (.cons (.tup (.cons (.var 5) .nil)) .nil)))))))
  (.cons (.ex (.bim .extend (.var 4) (.cons (.lst (.cons .non (.cons (.tup .nil) (.cons (.var 2) (.cons (.tup (.cons (.var 2) .nil)) (.cons (.lst (.cons (.var 2) (.cons (.tup .nil) .nil))) .nil)))))) .nil)))
  (.cons (.ex (.bim .extend (.var 4) (.cons (.lst (.cons (.tup (.cons (.var 2) (.cons (.lst (.cons (.tup (.cons (.str [114, 117, 110]) (.cons (.int 1) .nil))) .nil)) .nil))) (.cons (.tup (.cons (.var 2) (.cons (.tup (.cons (.tup (.cons (.str [114, 117, 110]) (.cons (.int 1) .nil))) (.cons (.tup (.cons (.str [114, 117, 110]) (.cons (.int 1) .nil))) .nil))) .nil))) .nil))) .nil)))
  (.cons (.ex (.bim .extend (.var 4) (.cons (.lst (.cons (.tup (.cons (.var 2) (.cons (.bi .tuple (.cons (.comp false [10] (.rng (.int 7)) (.bl true) (.tup (.cons (.str [110, 111, 116]) (.cons (.op .add (.op .mul (.str [120]) (.op .add (.int 1) (.op .fdiv (.var 10) (.int 2)))) (.op .mul (.str [49]) (.op .mod (.var 10) (.int 2)))) .nil)))) .nil)) .nil))) .nil)) .nil)))
  (.cons (.for false [5] (.var 4) (.cons (.ite (.or (.cmp .isnt (.call 5 (.cons (.var 5) .nil)) (.bl false)) (.not (.call 52 (.cons (.bi .lrange (.cons (.int 14) .nil)) (.cons (.var 5) (.cons .non (.cons .non (.cons (.int 0) .nil)))))))) (.cons (.ret (.bl false))
    .nil) .nil)
   (.cons (.ite (.not (.call 52 (.cons (.lst (.cons (.int 11) (.cons (.int 12) .nil))) (.cons (.var 3) (.cons (.var 5) (.cons .non (.cons (.int 0) .nil))))))) (.cons (.ret (.bl false))
    .nil) .nil)
   .nil)))
  (.cons (.for false [5] (.tup (.cons .non (.cons (.int 5) (.cons (.str [113]) (.cons (.str [120, 32]) (.cons (.lst (.cons (.str [120]) .nil)) (.cons (.tup (.cons (.str [120]) .nil)) (.cons (.op .mul (.str [120]) (.int 21)) .nil)))))))) (.cons (.ite (.not (.call 52 (.cons (.lst (.cons (.int 6) (.cons (.int 7) (.cons (.int 8) (.cons (.int 10) .nil))))) (.cons (.var 3) (.cons (.var 5) (.cons .non (.cons (.int 1) .nil))))))) (.cons (.ret (.bl false))
    .nil) .nil)
   .nil))
  (.cons (.for false [5] (.tup (.cons .non (.cons (.neg (.int 1)) (.cons (.int 21) (.cons (.bl true) (.cons (.str [51]) (.cons (.lst (.cons (.int 3) .nil)) .nil))))))) (.cons (.ite (.not (.call 52 (.cons (.lst (.cons (.int 9) (.cons (.int 13) .nil))) (.cons (.var 3) (.cons (.var 5) (.cons (.int 0) (.cons (.int 2) .nil))))))) (.cons (.ret (.bl false))
    .nil) .nil)
   (.cons (.ite (.not (.call 52 (.cons (.lst (.cons (.int 13) .nil)) (.cons (.var 3) (.cons (.int 2) (.cons (.ite (.cmp .eq (.var 5) (.int 21)) (.neg (.int 1)) (.var 5)) (.cons (.int 2) .nil))))))) (.cons (.ret (.bl false))
    .nil) .nil)
   .nil)))
  (.cons (.par [8, 9] (.cons (.tup (.cons (.var 2) (.cons (.tup .nil) .nil))) (.cons (.tup (.cons (.tup (.cons (.tup (.cons (.str [97]) (.cons (.str [120, 121, 122]) .nil))) (.cons (.tup (.cons (.str [99]) (.cons (.str [49]) .nil))) .nil))) (.cons (.tup .nil) .nil))) .nil)))
  (.cons (.ite (.or (.not (.call 52 (.cons (.lst (.cons (.int 11) (.cons (.int 12) .nil))) (.cons (.var 8) (.cons (.var 9) (.cons .non (.cons (.int 4) .nil))))))) (.not (.call 52 (.cons (.lst (.cons (.int 13) .nil)) (.cons (.var 8) (.cons (.int 2) (.cons (.int 16) (.cons (.int 2) .nil)))))))) (.cons (.ret (.bl false))
   .nil) .nil)
  (.cons (.ite (.cmp .ne (.call 51 (.cons (.int 13) (.cons (.var 8) (.cons (.int 2) (.cons (.int 15) .nil))))) (.str [49, 49])) (.cons (.ret (.bl false))
   .nil) .nil)
  (.cons (.ite (.cmp .ne (.call 51 (.cons (.int 10) (.cons (.tup (.cons (.var 2) (.cons (.tup (.cons (.tup (.cons (.str [114, 117, 110]) (.cons (.int 1) .nil))) .nil)) .nil))) (.cons (.str [120, 120]) (.cons .non .nil))))) (.tup (.cons (.str [114, 97, 105, 115, 101, 100]) (.cons (.int 3) .nil)))) (.cons (.ret (.bl false))
   .nil) .nil)
  (.cons (.ite (.cmp .ne (.call 51 (.cons (.int 9) (.cons (.var 8) (.cons (.int 20) (.cons .non .nil))))) (.op .pow (.int 4) (.int 20))) (.cons (.ret (.bl false))
   .nil) .nil)
  (.cons (.set 6 (.tup (.cons (.tup (.cons (.str [97]) (.cons (.str [97, 98, 99, 100, 101, 102]) .nil))) (.cons (.tup (.cons (.str [98]) (.cons (.str [65, 66, 67, 68, 69, 70]) .nil))) (.cons (.tup (.cons (.str [99]) (.cons (.str [48, 49, 50, 51, 52, 53]) .nil))) (.cons (.tup (.cons (.str [100]) (.cons (.str [33, 35, 43, 45, 63, 95]) .nil))) .nil))))))
  (.cons (.set 7 (.tup (.cons (.var 6) (.cons (.tup (.cons (.tup (.cons (.str [115, 105, 122, 101]) (.cons (.int 12) (.cons (.int 12) .nil)))) (.cons (.tup (.cons (.str [108, 101, 97, 115, 116]) (.cons (.str [97]) (.cons (.int 4) .nil)))) (.cons (.tup (.cons (.str [109, 111, 115, 116]) (.cons (.str [98]) (.cons (.int 0) .nil)))) (.cons (.tup (.cons (.str [107, 105, 110, 100, 115]) (.cons (.int 4) .nil))) (.cons (.tup (.cons (.str [114, 117, 110]) (.cons (.int 4) .nil))) (.cons (.tup (.cons (.str [110, 111, 116]) (.cons (.str [97, 48, 33, 97, 48]) .nil))) .nil))))))) .nil))))
  (.cons (.ite (.or (.cmp .isnt (.call 5 (.cons (.var 7) .nil)) (.bl true)) (.cmp .ne (.call 51 (.cons (.int 6) (.cons (.var 8) (.cons (.op .mul (.str [120]) (.int 20)) (.cons .non .nil))))) (.lst .nil))) (.cons (.ret (.bl false))
   .nil) .nil)
  (.cons (.ret (.cmp .eq (.call 51 (.cons (.int 10) (.cons (.var 8) (.cons (.str []) (.cons .non .nil))))) (.int 0)))
  .nil)))))))))))))))))))⟩
abbrev d55 : Df := b_law
abbrev f_law : Nat := 55
def tm : Tm where
  df := [d0, d1, d2, d3, d4, d5, d6, d7, d8, d9, d10, d11, d12, d13, d14, d15, d16, d17, d18, d19, d20, d21, d22, d23, d24, d25, d26, d27, d28, d29, d30, d31, d32, d33, d34, d35, d36, d37, d38, d39, d40, d41, d42, d43, d44, d45, d46, d47, d48, d49, d50, d51, d52, d53, d54, d55]
  cof := [none, none, none, none, none, none, none, none, none, none, some 0, some 0, some 0, some 0, some 0, some 0, some 0, some 0, some 0, none, none, none, none, none, none, none, none, none, none, none, none, none, none, none, none, none, none, none, none, none, none, none, none, some 1, some 1, none, none, none, none, none, none, none, none, none, none, none]
  ini := [10, 43]
  fcl := [0, 0, 0, 0, 0, 0, 1, 1]
  gl := [(.str [97, 98, 99, 100, 101, 102, 103, 104, 105, 106, 107, 108, 109, 110, 111, 112, 113, 114, 115, 116, 117, 118, 119, 120, 121, 122]), (.str [97, 98, 99, 100, 101, 102, 103, 104, 105, 106, 107, 108, 109, 110, 111, 112, 113, 114, 115, 116, 117, 118, 119, 120, 121, 122, 65, 66, 67, 68, 69, 70, 71, 72, 73, 74, 75, 76, 77, 78, 79, 80, 81, 82, 83, 84, 85, 86, 87, 88, 89, 90, 48, 49, 50, 51, 52, 53, 54, 55, 56, 57, 33, 35, 43, 45, 63, 95]), (.int 4), (.int 6), (.int 12), (.int 20)]
abbrev ev : Nat → RG := evk tm
theorem cf_is_count (k : Nat) (ds : List D) (h : Hm) : (ev (k + 1)).call 0 ds h = evF (ev k) d0 ds h := rfl
theorem cf_is_over (k : Nat) (ds : List D) (h : Hm) : (ev (k + 1)).call 1 ds h = evF (ev k) d1 ds h := rfl
theorem cf_are_classes (k : Nat) (ds : List D) (h : Hm) : (ev (k + 1)).call 2 ds h = evF (ev k) d2 ds h := rfl
theorem cf_is_rule (k : Nat) (ds : List D) (h : Hm) : (ev (k + 1)).call 3 ds h = evF (ev k) d3 ds h := rfl
theorem cf_is_name (k : Nat) (ds : List D) (h : Hm) : (ev (k + 1)).call 4 ds h = evF (ev k) d4 ds h := rfl
theorem cf_is_policy (k : Nat) (ds : List D) (h : Hm) : (ev (k + 1)).call 5 ds h = evF (ev k) d5 ds h := rfl
theorem cf_signs_of (k : Nat) (ds : List D) (h : Hm) : (ev (k + 1)).call 6 ds h = evF (ev k) d6 ds h := rfl
theorem cf_need_policy (k : Nat) (ds : List D) (h : Hm) : (ev (k + 1)).call 7 ds h = evF (ev k) d7 ds h := rfl
theorem cf_need_string (k : Nat) (ds : List D) (h : Hm) : (ev (k + 1)).call 8 ds h = evF (ev k) d8 ds h := rfl
theorem cf_characters (k : Nat) (ds : List D) (h : Hm) : (ev (k + 1)).call 9 ds h = evF (ev k) d9 ds h := rfl
theorem cf_Machine_init (k : Nat) (ds : List D) (h : Hm) : (ev (k + 1)).call 10 ds h = evF (ev k) d10 ds h := rfl
theorem cf_Machine_step (k : Nat) (ds : List D) (h : Hm) : (ev (k + 1)).call 11 ds h = evF (ev k) d11 ds h := rfl
theorem cf_Machine_moved (k : Nat) (ds : List D) (h : Hm) : (ev (k + 1)).call 12 ds h = evF (ev k) d12 ds h := rfl
theorem cf_Machine_counted (k : Nat) (ds : List D) (h : Hm) : (ev (k + 1)).call 13 ds h = evF (ev k) d13 ds h := rfl
theorem cf_Machine_unmatched (k : Nat) (ds : List D) (h : Hm) : (ev (k + 1)).call 14 ds h = evF (ev k) d14 ds h := rfl
theorem cf_Machine_keeps (k : Nat) (ds : List D) (h : Hm) : (ev (k + 1)).call 15 ds h = evF (ev k) d15 ds h := rfl
theorem cf_Machine_fine (k : Nat) (ds : List D) (h : Hm) : (ev (k + 1)).call 16 ds h = evF (ev k) d16 ds h := rfl
theorem cf_Machine_after (k : Nat) (ds : List D) (h : Hm) : (ev (k + 1)).call 17 ds h = evF (ev k) d17 ds h := rfl
theorem cf_Machine_nearest (k : Nat) (ds : List D) (h : Hm) : (ev (k + 1)).call 18 ds h = evF (ev k) d18 ds h := rfl
theorem cf_broken (k : Nat) (ds : List D) (h : Hm) : (ev (k + 1)).call 19 ds h = evF (ev k) d19 ds h := rfl
theorem cf_allows (k : Nat) (ds : List D) (h : Hm) : (ev (k + 1)).call 20 ds h = evF (ev k) d20 ds h := rfl
theorem cf_cheapest (k : Nat) (ds : List D) (h : Hm) : (ev (k + 1)).call 21 ds h = evF (ev k) d21 ds h := rfl
theorem cf_mended (k : Nat) (ds : List D) (h : Hm) : (ev (k + 1)).call 22 ds h = evF (ev k) d22 ds h := rfl
theorem cf_found_by (k : Nat) (ds : List D) (h : Hm) : (ev (k + 1)).call 23 ds h = evF (ev k) d23 ds h := rfl
theorem cf_parting_of (k : Nat) (ds : List D) (h : Hm) : (ev (k + 1)).call 24 ds h = evF (ev k) d24 ds h := rfl
theorem cf_need_pair (k : Nat) (ds : List D) (h : Hm) : (ev (k + 1)).call 25 ds h = evF (ev k) d25 ds h := rfl
theorem cf_parting (k : Nat) (ds : List D) (h : Hm) : (ev (k + 1)).call 26 ds h = evF (ev k) d26 ds h := rfl
theorem cf_common (k : Nat) (ds : List D) (h : Hm) : (ev (k + 1)).call 27 ds h = evF (ev k) d27 ds h := rfl
theorem cf_many_from (k : Nat) (ds : List D) (h : Hm) : (ev (k + 1)).call 28 ds h = evF (ev k) d28 ds h := rfl
theorem cf_need_size (k : Nat) (ds : List D) (h : Hm) : (ev (k + 1)).call 29 ds h = evF (ev k) d29 ds h := rfl
theorem cf_count (k : Nat) (ds : List D) (h : Hm) : (ev (k + 1)).call 30 ds h = evF (ev k) d30 ds h := rfl
theorem cf_graph_of (k : Nat) (ds : List D) (h : Hm) : (ev (k + 1)).call 31 ds h = evF (ev k) d31 ds h := rfl
theorem cf_useful (k : Nat) (ds : List D) (h : Hm) : (ev (k + 1)).call 32 ds h = evF (ev k) d32 ds h := rfl
theorem cf_total (k : Nat) (ds : List D) (h : Hm) : (ev (k + 1)).call 33 ds h = evF (ev k) d33 ds h := rfl
theorem cf_paths (k : Nat) (ds : List D) (h : Hm) : (ev (k + 1)).call 34 ds h = evF (ev k) d34 ds h := rfl
theorem cf_at_place (k : Nat) (ds : List D) (h : Hm) : (ev (k + 1)).call 35 ds h = evF (ev k) d35 ds h := rfl
theorem cf_place_of (k : Nat) (ds : List D) (h : Hm) : (ev (k + 1)).call 36 ds h = evF (ev k) d36 ds h := rfl
theorem cf_first_of (k : Nat) (ds : List D) (h : Hm) : (ev (k + 1)).call 37 ds h = evF (ev k) d37 ds h := rfl
theorem cf_first (k : Nat) (ds : List D) (h : Hm) : (ev (k + 1)).call 38 ds h = evF (ev k) d38 ds h := rfl
theorem cf_without (k : Nat) (ds : List D) (h : Hm) : (ev (k + 1)).call 39 ds h = evF (ev k) d39 ds h := rfl
theorem cf_idle (k : Nat) (ds : List D) (h : Hm) : (ev (k + 1)).call 40 ds h = evF (ev k) d40 ds h := rfl
theorem cf_choices (k : Nat) (ds : List D) (h : Hm) : (ev (k + 1)).call 41 ds h = evF (ev k) d41 ds h := rfl
theorem cf_core (k : Nat) (ds : List D) (h : Hm) : (ev (k + 1)).call 42 ds h = evF (ev k) d42 ds h := rfl
theorem cf_Typist_init (k : Nat) (ds : List D) (h : Hm) : (ev (k + 1)).call 43 ds h = evF (ev k) d43 ds h := rfl
theorem cf_Typist_text (k : Nat) (ds : List D) (h : Hm) : (ev (k + 1)).call 44 ds h = evF (ev k) d44 ds h := rfl
theorem cf_law_draw (k : Nat) (ds : List D) (h : Hm) : (ev (k + 1)).call 45 ds h = evF (ev k) d45 ds h := rfl
theorem cf_law_pick (k : Nat) (ds : List D) (h : Hm) : (ev (k + 1)).call 46 ds h = evF (ev k) d46 ds h := rfl
theorem cf_law_classes (k : Nat) (ds : List D) (h : Hm) : (ev (k + 1)).call 47 ds h = evF (ev k) d47 ds h := rfl
theorem cf_law_rule (k : Nat) (ds : List D) (h : Hm) : (ev (k + 1)).call 48 ds h = evF (ev k) d48 ds h := rfl
theorem cf_law_policy (k : Nat) (ds : List D) (h : Hm) : (ev (k + 1)).call 49 ds h = evF (ev k) d49 ds h := rfl
theorem cf_law_which (k : Nat) (ds : List D) (h : Hm) : (ev (k + 1)).call 50 ds h = evF (ev k) d50 ds h := rfl
theorem cf_law_ask (k : Nat) (ds : List D) (h : Hm) : (ev (k + 1)).call 51 ds h = evF (ev k) d51 ds h := rfl
theorem cf_law_all (k : Nat) (ds : List D) (h : Hm) : (ev (k + 1)).call 52 ds h = evF (ev k) d52 ds h := rfl
theorem cf_law_bad_classes (k : Nat) (ds : List D) (h : Hm) : (ev (k + 1)).call 53 ds h = evF (ev k) d53 ds h := rfl
theorem cf_law_bad_rules (k : Nat) (ds : List D) (h : Hm) : (ev (k + 1)).call 54 ds h = evF (ev k) d54 ds h := rfl
theorem cf_law (k : Nat) (ds : List D) (h : Hm) : (ev (k + 1)).call 55 ds h = evF (ev k) d55 ds h := rfl
end Mi.G

set_option linter.all false
set_option maxRecDepth 100000
set_option maxHeartbeats 4000000
namespace Mi
open PySem PySem.Spec PyProof.Rows L2
/-! ## a law's tables, the head's Hook: what the head's run needs -/
def tx (l : List Nat) : Str := ⟨l.toArray⟩
/-- the tables of a program: what is known of it by its text alone -/
structure Tab where
  nf : Nat
  fnn : Nat → Str
  ps : Nat → List Str
  isg : Nat → Bool
  ism : Nat → Bool
  mcls : Nat → Nat
  isc : Nat → Bool
  cnm : Nat → Str
  init : Nat → Nat
  okf : Nat → Nat → Bool
  fnm : Nat → Str
  gl : Nat → Option D
  gln : Nat → Str
  exn : Nat → Option Str
  sta : Bool
/-- the built-in names that the programs' modules leave alone -/
def freeN : List Str := ["len", "all", "any", "sum", "min", "max", "set", "tuple", "list", "range", "sorted", "str", "int", "dict", "zip", "enumerate", "isinstance", "bool"]
structure Tb where
  df : List Df
  ds : List He.DefD
  ps : List (List Str)
  fnn : List Str
  cof : List (Option Nat)
  cnm : List Str
  ini : List Nat
  fnm : List Str
  fcl : List Nat
  gln : List Str
  gl : List D
  exn : List Str
  sta : Bool
namespace Tb
variable (t : Tb)
def tab : Tab where
  nf := t.df.length
  fnn f := t.fnn.getD f ""
  ps f := t.ps.getD f []
  isg f := decide (f < t.df.length) && (t.cof.getD f none).isNone
  ism f := decide (f < t.df.length) && (t.cof.getD f none).isSome
  mcls f := (t.cof.getD f none).getD 0
  isc k := decide (k < t.cnm.length)
  cnm k := t.cnm.getD k ""
  init k := t.ini.getD k 0
  okf c f := decide (f < t.fnm.length) && decide (t.fcl.getD f 0 = c)
  fnm f := t.fnm.getD f ""
  gl g := t.gl[g]?
  gln g := t.gln.getD g ""
  exn k := t.exn[k]?
  sta := t.sta
/-- where the def f stands -/
def plc (f : Nat) : Str × Option Str := match t.cof.getD f none with
  | none => (t.tab.fnn f, none)
  | some c => (t.tab.cnm c, some (t.tab.fnn f))
/-- what is to be seen at the head -/
def fa : List He.Fa :=
  (List.range t.df.length).flatMap (fun f => match t.cof.getD f none with
    | none => [.glo (t.tab.fnn f)]
    | some c => [.cls (t.tab.cnm c), .meth (t.tab.cnm c) (t.tab.fnn f)]) ++
  ((List.range t.cnm.length).flatMap (fun c => [.glo (t.tab.cnm c), .cls (t.tab.cnm c), .mkr (t.tab.cnm c)]) ++
  ((List.range t.fnm.length).flatMap (fun f => [.cls (t.tab.cnm (t.fcl.getD f 0)), .noat (t.tab.cnm (t.fcl.getD f 0)) (t.tab.fnm f)]) ++
  (freeN.map .free ++
  ((List.range t.gl.length).flatMap (fun g => match t.gl.getD g .non with
    | .int i => [.int (t.tab.gln g) i]
    | .str s => [.str (t.tab.gln g) (tx s)]
    | _ => []) ++
  t.exn.flatMap (fun n => [.glo n, .exc n])))))
/-- the tables are sound in themselves -/
def okT : Bool :=
  (List.range t.cnm.length).all (fun c => decide (t.plc (t.tab.init c) = (t.tab.cnm c, some ("__init__" : Str)))) &&
  ((List.range t.fnm.length).all (fun f => (List.range t.fnm.length).all fun g => !(decide (t.fcl.getD f 0 = t.fcl.getD g 0) && decide (t.tab.fnm f = t.tab.fnm g)) || decide (f = g)) &&
  t.gl.all fun d => match d with | .int _ => true | .str _ => true | _ => false)
end Tb
def stK : List Str := ["size", "least", "most", "kinds", "run", "row"]
def stT : He.Tab := (fun K => He.ga K "STARTS", stK)
def tupB (K : PySem.W.Frag) (v : Value) (f : List Value → Bool) : Bool := match v with
  | .ref b => (match K.lookup b with
    | some ⟨.type c, _, .seq its _, _⟩ => decide (c = "tuple") && (decide (its.size ≤ sizeLine) && f its.toList)
    | _ => false)
  | _ => false
def zeroB : Value → Bool
  | .int i _ => decide (i = 0)
  | _ => false
def emptB : List Value → Bool
  | [] => true
  | _ => false
def pairB : List Value → Bool
  | [.str z _, .int i _] => decide (z = tx []) && decide (i = 0)
  | _ => false
def atB (K : PySem.W.Frag) (a : Addr) (k : Str) (f : Value → Bool) : Bool := match PySem.W.nsIn K a k with
  | some (some v) => f v
  | _ => false
def noneB (K : PySem.W.Frag) (a : Addr) : Bool := match K.lookup a with
  | some ⟨_, _, .dict es _, _⟩ => !es.toList.any (·.refKey)
  | _ => false
def staB (K : PySem.W.Frag) (a : Addr) : Bool :=
  atB K a "size" zeroB && (atB K a "least" zeroB && (atB K a "most" zeroB && (atB K a "kinds" (tupB K · emptB) && (atB K a "run" (tupB K · pairB) && (atB K a "row" (tupB K · pairB) && noneB K a)))))
/-- what must be seen of the error classes, so that it is known which of them is caught -/
def excCB (K : PySem.W.Frag) (D : Addr) : Bool :=
  decide (PySem.W.findIn K (.ref D) "__getattribute__" = some (some (.builtin "BaseException.__getattribute__"))) && (decide (PySem.W.findIn K (.ref D) "__getattr__" = some none) && (decide (PySem.W.subIn K (.ref D) (.type "BaseException") = some true) && (PySem.W.hasDictIn K D &&
  (decide (PySem.W.findIn K (.ref D) "__class__" = some (some (.builtin "object.__class__"))) && (decide (PySem.W.specialIn K (.builtin "object.__class__") "__get__" = some (some (.builtin "getset_descriptor.__get__"))) &&
  (decide (PySem.W.takesIn K (.builtin "object.__class__") = some true) && decide (PySem.W.mroIn K D (.type "object") = some true)))))))
theorem excCB_ok {K : PySem.W.Frag} {D : Addr} (h : excCB K D = true) : ExcC K D := by
  simp only [excCB, Bool.and_eq_true, decide_eq_true_eq] at h
  obtain ⟨h1, h2, h3, h4, h5, h6, h7, h8⟩ := h
  exact ⟨h1, h2, h3, h4, h5, h6, h7, h8⟩
def whB (K : PySem.W.Frag) (ex : List Str) : Bool := (List.range 8).all fun c =>
  decide (PySem.W.exmOne K (.ref (He.ga K (ex.getD c ""))) (.ref (He.ga K "PassError")) = some true) && (excCB K (He.ga K (ex.getD c "")) && (decide (PySem.W.kitOne K (.ref (He.ga K (ex.getD c ""))) (.type "ValueError") = some true) &&
  (List.range 8).all fun j => decide (PySem.W.kitOne K (.ref (He.ga K (ex.getD c ""))) (.ref (He.ga K (ex.getD j ""))) = some (decide (c = j)))))
abbrev AlS : Type := He.AlT × Bool
def tabsS (sta : Bool) : List He.Tab := if sta then [stT] else []
def obsS (sta : Bool) (ex : List Str) (fa : List He.Fa) (fn : List He.DefD) (K : PySem.W.Frag) : AlS := (He.obsT fa fn (tabsS sta) K, (!sta || staB K (He.ga K "STARTS")) && (ex.isEmpty || whB K ex))
def valS (sta : Bool) (fn : List He.DefD) (w : World) : AlS := (He.valT fn (tabsS sta) w, true)
def obsSG (n : Nat) (sta : Bool) (ex : List Str) (fa : List He.Fa) (fn : List He.DefD) (g : Addr → Option Obj) : AlS := obsS sta ex fa fn (He.frG g (He.asD g n))
def SaysS (sta : Bool) (ex : List Str) (fa : List He.Fa) (fn : List He.DefD) (w : World) (K : PySem.W.Frag) : Prop := obsS sta ex fa fn K = valS sta fn w
def hookS (n : Nat) (sta : Bool) (ex : List Str) (fa : List He.Fa) (fn : List He.DefD) : PySem.W.Hook where
  α := AlS
  obs := fun s => obsSG n sta ex fa fn s.heap.get?
  val := fun w => valS sta fn w
  says := fun w h => ∃ K : PySem.W.Frag, K.In h ∧ SaysS sta ex fa fn w K
  of := fun _ _ e => ⟨_, He.frG_in, e⟩
  keeps := fun _ _ _ ⟨K, hK, c⟩ k => ⟨K, PySem.W.Frag.In.keeps hK k, c⟩
theorem obsSG_eq {n : Nat} {sta : Bool} {ex : List Str} {fa : List He.Fa} {fn : List He.DefD} {g : Addr → Option Obj} {s : Shared} (h : ∀ a, g a = s.heap.get? a) : obsSG n sta ex fa fn g = (hookS n sta ex fa fn).obs s := by
  have e : g = s.heap.get? := funext h
  rw [e] <;> rfl
end Mi

set_option linter.all false
set_option maxRecDepth 100000
set_option maxHeartbeats 4000000
namespace Mi.G
open PySem PySem.Spec PyProof.Rows L2 Mi
def N0 : List Str := ["value", "least", "most"]
def N1 : List Str := ["value", "signs", "least", "most", "sign"]
def N2 : List Str := ["value", "names", "signs", "pair"]
def N3 : List Str := ["value", "names", "signs", "word", "rest"]
def N4 : List Str := ["value", "names"]
def N5 : List Str := ["value", "names", "rules", "pair", "rule"]
def N6 : List Str := ["policy", "pair"]
def N7 : List Str := ["value"]
def N8 : List Str := ["policy", "value"]
def N9 : List Str := ["policy"]
def N10 : List Str := ["self", "policy", "name", "signs", "sign", "behind", "rule"]
def N11 : List Str := ["self", "state", "sign", "new", "rule", "one"]
def N12 : List Str := ["self", "rule", "one", "sign", "word", "name", "many"]
def N13 : List Str := ["self", "many", "most", "is_bound"]
def N14 : List Str := ["self", "text", "end"]
def N15 : List Str := ["self", "rule", "one", "word"]
def N16 : List Str := ["self", "state", "rule", "one"]
def N17 : List Str := ["self", "text", "state", "sign"]
def N18 : List Str := ["self", "state", "seen", "level", "later", "one", "text", "sign", "reached"]
def N19 : List Str := ["policy", "text", "found", "at", "rule", "alone"]
def N20 : List Str := ["policy", "text"]
def N21 : List Str := ["machine", "state", "text", "known", "best", "sign", "reached", "rest", "cost"]
def N22 : List Str := ["policy", "text", "machine", "best"]
def N23 : List Str := ["policy", "other", "wanted", "start", "one", "two", "seen", "level", "later", "key", "text", "sign", "reached"]
def N24 : List Str := ["policy", "other"]
def N25 : List Str := ["policy", "other"]
def N26 : List Str := ["policy", "other"]
def N27 : List Str := ["policy", "other"]
def N28 : List Str := ["machine", "state", "size", "known", "total", "sign", "reached"]
def N29 : List Str := ["value"]
def N30 : List Str := ["policy", "size", "machine"]
def N31 : List Str := ["machine", "graph", "left", "state", "reached", "sign", "one"]
def N32 : List Str := ["machine", "graph", "before", "state", "reached", "found", "left"]
def N33 : List Str := ["policy", "machine", "graph", "good", "kept", "state", "one"]
def N34 : List Str := ["machine", "kept", "open_edges", "state", "numbers", "reached", "left", "many", "done"]
def N35 : List Str := ["policy", "size", "number", "machine", "known", "state", "text", "sign", "reached", "many"]
def N36 : List Str := ["policy", "text", "state", "machine", "known", "place", "at", "own", "sign", "reached"]
def N37 : List Str := ["policy", "machine"]
def N38 : List Str := ["policy"]
def N39 : List Str := ["policy", "at"]
def N40 : List Str := ["policy", "at"]
def N41 : List Str := ["many", "size", "start", "found", "lowest", "rest"]
def N42 : List Str := ["policy", "many", "size", "some", "at"]
def N43 : List Str := ["self", "policy"]
def N44 : List Str := ["self"]
def N45 : List Str := ["_law_script", "_law_town", "_law_many", "_law_at", "_law_mixed", "_law_one"]
def N46 : List Str := ["_law_script", "_law_town", "_law_some"]
def N47 : List Str := ["_law_script", "_law_town", "_law_kinds"]
def N48 : List Str := ["_law_script", "_law_town", "_law_classes_here", "_law_name", "_law_signs", "_law_what", "_law_number", "_law_least", "_law_other", "_law_one", "_law_k"]
def N49 : List Str := ["_law_script", "_law_town", "_law_classes_here", "_law_most", "_law_rules", "_law_k", "_law_rule_here"]
def N50 : List Str := ["_law_error", "_law_own"]
def N51 : List Str := ["_law_what", "_law_one", "_law_other", "_law_third", "_law_error"]
def N52 : List Str := ["_law_whats", "_law_one", "_law_other", "_law_third", "_law_due", "_law_what"]
def N53 : List Str := ["_law_bad"]
def N54 : List Str := ["_law_bad"]
def N55 : List Str := ["_law_script", "_law_town", "_law_classes_here", "_law_policy_here", "_law_values", "_law_bad", "_law_full", "_law_most", "_law_plain", "_law_other", "_law_k"]
def ps0 : List Str := ["value", "least", "most"]
def ps1 : List Str := ["value", "signs", "least", "most"]
def ps2 : List Str := ["value"]
def ps3 : List Str := ["value", "names", "signs"]
def ps4 : List Str := ["value", "names"]
def ps5 : List Str := ["value"]
def ps6 : List Str := ["policy"]
def ps7 : List Str := ["value"]
def ps8 : List Str := ["policy", "value"]
def ps9 : List Str := ["policy"]
def ps10 : List Str := ["self", "policy"]
def ps11 : List Str := ["self", "state", "sign"]
def ps12 : List Str := ["self", "rule", "one", "sign"]
def ps13 : List Str := ["self", "many", "most", "is_bound"]
def ps14 : List Str := ["self", "text", "end"]
def ps15 : List Str := ["self", "rule", "one"]
def ps16 : List Str := ["self", "state"]
def ps17 : List Str := ["self", "text"]
def ps18 : List Str := ["self", "state"]
def ps19 : List Str := ["policy", "text"]
def ps20 : List Str := ["policy", "text"]
def ps21 : List Str := ["machine", "state", "text", "known"]
def ps22 : List Str := ["policy", "text"]
def ps23 : List Str := ["policy", "other", "wanted"]
def ps24 : List Str := ["policy", "other"]
def ps25 : List Str := ["policy", "other"]
def ps26 : List Str := ["policy", "other"]
def ps27 : List Str := ["policy", "other"]
def ps28 : List Str := ["machine", "state", "size", "known"]
def ps29 : List Str := ["value"]
def ps30 : List Str := ["policy", "size"]
def ps31 : List Str := ["machine"]
def ps32 : List Str := ["machine", "graph"]
def ps33 : List Str := ["policy"]
def ps34 : List Str := ["machine", "kept"]
def ps35 : List Str := ["policy", "size", "number"]
def ps36 : List Str := ["policy", "text"]
def ps37 : List Str := ["policy"]
def ps38 : List Str := ["policy"]
def ps39 : List Str := ["policy", "at"]
def ps40 : List Str := ["policy"]
def ps41 : List Str := ["many", "size", "start"]
def ps42 : List Str := ["policy"]
def ps43 : List Str := ["self", "policy"]
def ps44 : List Str := ["self"]
def ps45 : List Str := ["_law_script", "_law_town", "_law_many"]
def ps46 : List Str := ["_law_script", "_law_town", "_law_some"]
def ps47 : List Str := ["_law_script", "_law_town"]
def ps48 : List Str := ["_law_script", "_law_town", "_law_classes_here"]
def ps49 : List Str := ["_law_script", "_law_town", "_law_classes_here", "_law_most"]
def ps50 : List Str := ["_law_error"]
def ps51 : List Str := ["_law_what", "_law_one", "_law_other", "_law_third"]
def ps52 : List Str := ["_law_whats", "_law_one", "_law_other", "_law_third", "_law_due"]
def ps53 : List Str := []
def ps54 : List Str := []
def ps55 : List Str := ["_law_script"]
abbrev pw : Program := PySem.Challenge.pw_passrules_k02_policy_errors
def top (i : Nat) : Stmt := pw.main.body.getD i (.Pass ⟨0, 0, 0, 0⟩)
def mth (i j : Nat) : Stmt := match top i with | .ClassDef _ _ _ b _ _ _ _ _ _ _ => b.getD j (.Pass ⟨0, 0, 0, 0⟩) | _ => .Pass ⟨0, 0, 0, 0⟩
abbrev s0 : Stmt := top 18
abbrev s1 : Stmt := top 19
abbrev s2 : Stmt := top 20
abbrev s3 : Stmt := top 21
abbrev s4 : Stmt := top 22
abbrev s5 : Stmt := top 23
abbrev s6 : Stmt := top 24
abbrev s7 : Stmt := top 25
abbrev s8 : Stmt := top 26
abbrev s9 : Stmt := top 27
abbrev s10 : Stmt := mth 30 0
abbrev s11 : Stmt := mth 30 1
abbrev s12 : Stmt := mth 30 2
abbrev s13 : Stmt := mth 30 3
abbrev s14 : Stmt := mth 30 4
abbrev s15 : Stmt := mth 30 5
abbrev s16 : Stmt := mth 30 6
abbrev s17 : Stmt := mth 30 7
abbrev s18 : Stmt := mth 30 8
abbrev s19 : Stmt := top 32
abbrev s20 : Stmt := top 33
abbrev s21 : Stmt := top 34
abbrev s22 : Stmt := top 35
abbrev s23 : Stmt := top 37
abbrev s24 : Stmt := top 38
abbrev s25 : Stmt := top 39
abbrev s26 : Stmt := top 40
abbrev s27 : Stmt := top 41
abbrev s28 : Stmt := top 43
abbrev s29 : Stmt := top 44
abbrev s30 : Stmt := top 45
abbrev s31 : Stmt := top 46
abbrev s32 : Stmt := top 47
abbrev s33 : Stmt := top 48
abbrev s34 : Stmt := top 49
abbrev s35 : Stmt := top 50
abbrev s36 : Stmt := top 51
abbrev s37 : Stmt := top 53
abbrev s38 : Stmt := top 54
abbrev s39 : Stmt := top 55
abbrev s40 : Stmt := top 56
abbrev s41 : Stmt := top 57
abbrev s42 : Stmt := top 58
abbrev s43 : Stmt := mth 60 0
abbrev s44 : Stmt := mth 60 3
abbrev s45 : Stmt := top 62
abbrev s46 : Stmt := top 63
abbrev s47 : Stmt := top 64
abbrev s48 : Stmt := top 65
abbrev s49 : Stmt := top 66
abbrev s50 : Stmt := top 67
abbrev s51 : Stmt := top 68
abbrev s52 : Stmt := top 69
abbrev s53 : Stmt := top 70
abbrev s54 : Stmt := top 71
abbrev s55 : Stmt := top 72
def D0 : He.DefD := ⟨("is_count", none), "is_count", "is_count", defArgs s0, defBody s0, defScope s0, [], []⟩
def D1 : He.DefD := ⟨("is_over", none), "is_over", "is_over", defArgs s1, defBody s1, defScope s1, [], []⟩
def D2 : He.DefD := ⟨("are_classes", none), "are_classes", "are_classes", defArgs s2, defBody s2, defScope s2, [], []⟩
def D3 : He.DefD := ⟨("is_rule", none), "is_rule", "is_rule", defArgs s3, defBody s3, defScope s3, [], []⟩
def D4 : He.DefD := ⟨("is_name", none), "is_name", "is_name", defArgs s4, defBody s4, defScope s4, [], []⟩
def D5 : He.DefD := ⟨("is_policy", none), "is_policy", "is_policy", defArgs s5, defBody s5, defScope s5, [], []⟩
def D6 : He.DefD := ⟨("signs_of", none), "signs_of", "signs_of", defArgs s6, defBody s6, defScope s6, [], []⟩
def D7 : He.DefD := ⟨("need_policy", none), "need_policy", "need_policy", defArgs s7, defBody s7, defScope s7, [], []⟩
def D8 : He.DefD := ⟨("need_string", none), "need_string", "need_string", defArgs s8, defBody s8, defScope s8, [], []⟩
def D9 : He.DefD := ⟨("characters", none), "characters", "characters", defArgs s9, defBody s9, defScope s9, [], []⟩
def D10 : He.DefD := ⟨("Machine", (some "__init__" : Option Str)), "__init__", "Machine.__init__", defArgs s10, defBody s10, defScope s10, [], []⟩
def D11 : He.DefD := ⟨("Machine", (some "step" : Option Str)), "step", "Machine.step", defArgs s11, defBody s11, defScope s11, [], []⟩
def D12 : He.DefD := ⟨("Machine", (some "moved" : Option Str)), "moved", "Machine.moved", defArgs s12, defBody s12, defScope s12, [], []⟩
def D13 : He.DefD := ⟨("Machine", (some "counted" : Option Str)), "counted", "Machine.counted", defArgs s13, defBody s13, defScope s13, [], []⟩
def D14 : He.DefD := ⟨("Machine", (some "unmatched" : Option Str)), "unmatched", "Machine.unmatched", defArgs s14, defBody s14, defScope s14, [], []⟩
def D15 : He.DefD := ⟨("Machine", (some "keeps" : Option Str)), "keeps", "Machine.keeps", defArgs s15, defBody s15, defScope s15, [], []⟩
def D16 : He.DefD := ⟨("Machine", (some "fine" : Option Str)), "fine", "Machine.fine", defArgs s16, defBody s16, defScope s16, [], []⟩
def D17 : He.DefD := ⟨("Machine", (some "after" : Option Str)), "after", "Machine.after", defArgs s17, defBody s17, defScope s17, [], []⟩
def D18 : He.DefD := ⟨("Machine", (some "nearest" : Option Str)), "nearest", "Machine.nearest", defArgs s18, defBody s18, defScope s18, [], []⟩
def D19 : He.DefD := ⟨("broken", none), "broken", "broken", defArgs s19, defBody s19, defScope s19, [], []⟩
def D20 : He.DefD := ⟨("allows", none), "allows", "allows", defArgs s20, defBody s20, defScope s20, [], []⟩
def D21 : He.DefD := ⟨("cheapest", none), "cheapest", "cheapest", defArgs s21, defBody s21, defScope s21, [], []⟩
def D22 : He.DefD := ⟨("mended", none), "mended", "mended", defArgs s22, defBody s22, defScope s22, [], []⟩
def D23 : He.DefD := ⟨("found_by", none), "found_by", "found_by", defArgs s23, defBody s23, defScope s23, [], []⟩
def D24 : He.DefD := ⟨("parting_of", none), "parting_of", "parting_of", defArgs s24, defBody s24, defScope s24, [], []⟩
def D25 : He.DefD := ⟨("need_pair", none), "need_pair", "need_pair", defArgs s25, defBody s25, defScope s25, [], []⟩
def D26 : He.DefD := ⟨("parting", none), "parting", "parting", defArgs s26, defBody s26, defScope s26, [], []⟩
def D27 : He.DefD := ⟨("common", none), "common", "common", defArgs s27, defBody s27, defScope s27, [], []⟩
def D28 : He.DefD := ⟨("many_from", none), "many_from", "many_from", defArgs s28, defBody s28, defScope s28, [], []⟩
def D29 : He.DefD := ⟨("need_size", none), "need_size", "need_size", defArgs s29, defBody s29, defScope s29, [], []⟩
def D30 : He.DefD := ⟨("count", none), "count", "count", defArgs s30, defBody s30, defScope s30, [], []⟩
def D31 : He.DefD := ⟨("graph_of", none), "graph_of", "graph_of", defArgs s31, defBody s31, defScope s31, [], []⟩
def D32 : He.DefD := ⟨("useful", none), "useful", "useful", defArgs s32, defBody s32, defScope s32, [], []⟩
def D33 : He.DefD := ⟨("total", none), "total", "total", defArgs s33, defBody s33, defScope s33, [], []⟩
def D34 : He.DefD := ⟨("paths", none), "paths", "paths", defArgs s34, defBody s34, defScope s34, [], []⟩
def D35 : He.DefD := ⟨("at_place", none), "at_place", "at_place", defArgs s35, defBody s35, defScope s35, [], []⟩
def D36 : He.DefD := ⟨("place_of", none), "place_of", "place_of", defArgs s36, defBody s36, defScope s36, [], []⟩
def D37 : He.DefD := ⟨("first_of", none), "first_of", "first_of", defArgs s37, defBody s37, defScope s37, [], []⟩
def D38 : He.DefD := ⟨("first", none), "first", "first", defArgs s38, defBody s38, defScope s38, [], []⟩
def D39 : He.DefD := ⟨("without", none), "without", "without", defArgs s39, defBody s39, defScope s39, [], []⟩
def D40 : He.DefD := ⟨("idle", none), "idle", "idle", defArgs s40, defBody s40, defScope s40, [], []⟩
def D41 : He.DefD := ⟨("choices", none), "choices", "choices", defArgs s41, defBody s41, defScope s41, [], []⟩
def D42 : He.DefD := ⟨("core", none), "core", "core", defArgs s42, defBody s42, defScope s42, [], []⟩
def D43 : He.DefD := ⟨("Typist", (some "__init__" : Option Str)), "__init__", "Typist.__init__", defArgs s43, defBody s43, defScope s43, [], []⟩
def D44 : He.DefD := ⟨("Typist", (some "text" : Option Str)), "text", "Typist.text", defArgs s44, defBody s44, defScope s44, [], []⟩
def D45 : He.DefD := ⟨("_law_draw", none), "_law_draw", "_law_draw", defArgs s45, defBody s45, defScope s45, [], []⟩
def D46 : He.DefD := ⟨("_law_pick", none), "_law_pick", "_law_pick", defArgs s46, defBody s46, defScope s46, [], []⟩
def D47 : He.DefD := ⟨("_law_classes", none), "_law_classes", "_law_classes", defArgs s47, defBody s47, defScope s47, [], []⟩
def D48 : He.DefD := ⟨("_law_rule", none), "_law_rule", "_law_rule", defArgs s48, defBody s48, defScope s48, [], []⟩
def D49 : He.DefD := ⟨("_law_policy", none), "_law_policy", "_law_policy", defArgs s49, defBody s49, defScope s49, [], []⟩
def D50 : He.DefD := ⟨("_law_which", none), "_law_which", "_law_which", defArgs s50, defBody s50, defScope s50, [], []⟩
def D51 : He.DefD := ⟨("_law_ask", none), "_law_ask", "_law_ask", defArgs s51, defBody s51, defScope s51, [], []⟩
def D52 : He.DefD := ⟨("_law_all", none), "_law_all", "_law_all", defArgs s52, defBody s52, defScope s52, [], []⟩
def D53 : He.DefD := ⟨("_law_bad_classes", none), "_law_bad_classes", "_law_bad_classes", defArgs s53, defBody s53, defScope s53, [], []⟩
def D54 : He.DefD := ⟨("_law_bad_rules", none), "_law_bad_rules", "_law_bad_rules", defArgs s54, defBody s54, defScope s54, [], []⟩
def D55 : He.DefD := ⟨("law", none), "law", "law", defArgs s55, defBody s55, defScope s55, [], []⟩
def tb : Tb where
  df := [d0, d1, d2, d3, d4, d5, d6, d7, d8, d9, d10, d11, d12, d13, d14, d15, d16, d17, d18, d19, d20, d21, d22, d23, d24, d25, d26, d27, d28, d29, d30, d31, d32, d33, d34, d35, d36, d37, d38, d39, d40, d41, d42, d43, d44, d45, d46, d47, d48, d49, d50, d51, d52, d53, d54, d55]
  ds := [D0, D1, D2, D3, D4, D5, D6, D7, D8, D9, D10, D11, D12, D13, D14, D15, D16, D17, D18, D19, D20, D21, D22, D23, D24, D25, D26, D27, D28, D29, D30, D31, D32, D33, D34, D35, D36, D37, D38, D39, D40, D41, D42, D43, D44, D45, D46, D47, D48, D49, D50, D51, D52, D53, D54, D55]
  ps := [ps0, ps1, ps2, ps3, ps4, ps5, ps6, ps7, ps8, ps9, ps10, ps11, ps12, ps13, ps14, ps15, ps16, ps17, ps18, ps19, ps20, ps21, ps22, ps23, ps24, ps25, ps26, ps27, ps28, ps29, ps30, ps31, ps32, ps33, ps34, ps35, ps36, ps37, ps38, ps39, ps40, ps41, ps42, ps43, ps44, ps45, ps46, ps47, ps48, ps49, ps50, ps51, ps52, ps53, ps54, ps55]
  fnn := [("is_count" : Str), ("is_over" : Str), ("are_classes" : Str), ("is_rule" : Str), ("is_name" : Str), ("is_policy" : Str), ("signs_of" : Str), ("need_policy" : Str), ("need_string" : Str), ("characters" : Str), ("__init__" : Str), ("step" : Str), ("moved" : Str), ("counted" : Str), ("unmatched" : Str), ("keeps" : Str), ("fine" : Str), ("after" : Str), ("nearest" : Str), ("broken" : Str), ("allows" : Str), ("cheapest" : Str), ("mended" : Str), ("found_by" : Str), ("parting_of" : Str), ("need_pair" : Str), ("parting" : Str), ("common" : Str), ("many_from" : Str), ("need_size" : Str), ("count" : Str), ("graph_of" : Str), ("useful" : Str), ("total" : Str), ("paths" : Str), ("at_place" : Str), ("place_of" : Str), ("first_of" : Str), ("first" : Str), ("without" : Str), ("idle" : Str), ("choices" : Str), ("core" : Str), ("__init__" : Str), ("text" : Str), ("_law_draw" : Str), ("_law_pick" : Str), ("_law_classes" : Str), ("_law_rule" : Str), ("_law_policy" : Str), ("_law_which" : Str), ("_law_ask" : Str), ("_law_all" : Str), ("_law_bad_classes" : Str), ("_law_bad_rules" : Str), ("law" : Str)]
  cof := [none, none, none, none, none, none, none, none, none, none, some 0, some 0, some 0, some 0, some 0, some 0, some 0, some 0, some 0, none, none, none, none, none, none, none, none, none, none, none, none, none, none, none, none, none, none, none, none, none, none, none, none, some 1, some 1, none, none, none, none, none, none, none, none, none, none, none]
  cnm := [("Machine" : Str), ("Typist" : Str)]
  ini := [10, 43]
  fnm := [("rules" : Str), ("signs" : Str), ("names" : Str), ("followers" : Str), ("start" : Str), ("known" : Str), ("machine" : Str), ("typed" : Str)]
  fcl := [0, 0, 0, 0, 0, 0, 1, 1]
  gln := [("LOWER" : Str), ("SIGNS" : Str), ("CLASSES" : Str), ("RULES" : Str), ("SIZE" : Str), ("TEXT" : Str)]
  gl := [(.str [97, 98, 99, 100, 101, 102, 103, 104, 105, 106, 107, 108, 109, 110, 111, 112, 113, 114, 115, 116, 117, 118, 119, 120, 121, 122]), (.str [97, 98, 99, 100, 101, 102, 103, 104, 105, 106, 107, 108, 109, 110, 111, 112, 113, 114, 115, 116, 117, 118, 119, 120, 121, 122, 65, 66, 67, 68, 69, 70, 71, 72, 73, 74, 75, 76, 77, 78, 79, 80, 81, 82, 83, 84, 85, 86, 87, 88, 89, 90, 48, 49, 50, 51, 52, 53, 54, 55, 56, 57, 33, 35, 43, 45, 63, 95]), (.int 4), (.int 6), (.int 12), (.int 20)]
  exn := [("InvalidPolicy" : Str), ("InvalidString" : Str), ("InvalidNumber" : Str), ("NotAllowed" : Str), ("NotComparable" : Str), ("InvalidCharacter" : Str), ("NothingTyped" : Str), ("InvalidFormat" : Str)]
  sta := true
theorem tb_ok : tb.okT = true := by decide +kernel
end Mi.G

set_option linter.all false
set_option maxRecDepth 100000
set_option maxHeartbeats 0
namespace Mi.G
open PySem PySem.Spec PyProof.Rows L2 Mi
def loose0 : List Str := ["_wall", "PassError", "InvalidPolicy", "InvalidString", "InvalidNumber", "NotAllowed", "NotComparable", "InvalidCharacter", "NothingTyped", "InvalidFormat", "LOWER", "SIGNS", "CLASSES", "RULES", "SIZE", "TEXT", "is_count", "is_over", "are_classes", "is_rule", "is_name", "is_policy", "signs_of", "need_policy", "need_string", "characters", "STARTS", "Machine", "broken", "allows"]
def loose1 : List Str := ["cheapest", "mended", "found_by", "parting_of", "need_pair", "parting", "common", "many_from", "need_size", "count", "graph_of", "useful", "total", "paths", "at_place", "place_of", "first_of", "first", "without", "idle", "choices", "core", "Typist", "_law_draw", "_law_pick", "_law_classes", "_law_rule", "_law_policy", "_law_which", "_law_ask"]
def loose2 : List Str := ["_law_all", "_law_bad_classes", "_law_bad_rules"]
def looseAll : List Str := loose0 ++ loose1 ++ loose2
abbrev RR : PySem.W.OpenRow := PySem.W.OpenLaw.row PySem.Challenge.rw_passrules_k02_policy_errors
def fa1 : List He.Fa := tb.fa ++ [(.glo "STARTS"), (.glo "PassError"), (.free "ValueError")]
def exw : List Str := tb.exn
abbrev hk : PySem.W.Hook := hookS 6 tb.sta exw fa1 tb.ds
def ob (s : PySem.W.SharedT) : AlS := obsSG 6 tb.sta exw fa1 tb.ds (HandSHeadRun.getT s)
theorem ob_eq (s : PySem.W.SharedT) : ob s = hk.obs s.abs := obsSG_eq (HandSHeadRun.getT_eq s)
theorem runF (w : World) : HandSHeadRun.RunEq RR (PySem.W.view RR.prog [72]) hk ob 8000 looseAll (w.withFollow "special-get-raises" false) := by intro os; kernel_rfl
theorem runT (w : World) : HandSHeadRun.RunEq RR (PySem.W.view RR.prog [72]) hk ob 8000 looseAll (w.withFollow "special-get-raises" true) := by intro os; kernel_rfl
theorem run (w : World) : HandSHeadRun.RunEq RR (PySem.W.view RR.prog [72]) hk ob 8000 looseAll w :=
  PySem.W.byRow2 "special-get-raises" (P := fun w => HandSHeadRun.RunEq RR (PySem.W.view RR.prog [72]) hk ob 8000 looseAll w) runF runT w

end Mi.G

set_option linter.all false
set_option maxRecDepth 100000
set_option maxHeartbeats 2000000
namespace Mi
open PySem PySem.Spec PyProof.Rows L2
/-! ## how mini data and objects stand in the abstract heap -/
theorem tx_inj {a b : List Nat} (h : tx a = tx b) : a = b := by
  have h2 : a.toArray = b.toArray := congrArg Str.cps h
  have h3 := congrArg Array.toList h2
  simpa using h3
theorem tx_len (l : List Nat) : (tx l).length = l.length := by simp [tx, Str.length]
theorem tx_app (a b : List Nat) : tx a ++ tx b = tx (a ++ b) := by
  show (⟨a.toArray ++ b.toArray⟩ : Str) = ⟨(a ++ b).toArray⟩
  simp
theorem tx_list (z : Str) : tx z.cps.toList = z := by
  obtain ⟨c⟩ := z
  simp [tx]

structure Wr where
  T : Tab
  P : Program
  w : World
  K : PySem.W.Frag
  mg : Str → Option Value
  base : Heap
  cls : Nat → Addr
  fna : Nat → Addr
  exa : Nat → Addr
  fd : Nat → FuncData
abbrev Wr.fnm (R : Wr) := R.T.fnm
abbrev Wr.okf (R : Wr) := R.T.okf

/-- the objects' places: m, the mini objects in their order; x, lists that are being made; the abstract heap -/
structure Wo where
  m : List Addr
  x : List Addr
  H : Hp
abbrev Wo.at_ (W : Wo) (H : Hp) : Wo := { W with H := H }
/-- a value's own object: no mini object, no list that is being made -/
def Wo.im (W : Wo) (a : Addr) (o : HO) : Prop := a ∉ W.m ∧ a ∉ W.x ∧ W.H a = some o
def TupAt (R : Wr) (W : Wo) (a : Addr) (xs : List V) : Prop :=
  W.im a (.tup xs) ∨ ∃ (o : Obj) (its : Array Value) (n : Nat), R.K.lookup a = some o ∧ o.cls = .type "tuple" ∧ o.data = .seq its n ∧ its.size ≤ sizeLine ∧ Vals xs its.toList
def ScrAt (R : Wr) (W : Wo) (a : Addr) (xs : List V) : Prop :=
  (∃ o, W.im a (.frz o (.lst xs))) ∨ ∃ (o : Obj) (its : Array Value) (n : Nat), R.K.lookup a = some o ∧ o.cls = .type "list" ∧ o.dict = none ∧ o.data = .seq its n ∧ its.size ≤ sizeLine ∧ Vals xs its.toList
theorem TupAt.sq {R : Wr} {W a xs} (h : TupAt R W a xs) : SqT R.K W.H a xs := h.elim (fun h => .inl (.inl h.2.2)) .inr
theorem ScrAt.sq {R : Wr} {W a xs} (h : ScrAt R W a xs) : SqL R.K W.H a xs := h.elim (fun ⟨_, h⟩ => .inl (.inr ⟨_, h.2.2⟩)) .inr

mutual
inductive VR (R : Wr) (W : Wo) : D → V → Prop
  | non : VR R W .non .non
  | bl (b : Bool) : VR R W (.bl b) (.bl b)
  | int (i : Int) : VR R W (.int i) (.int i)
  | str (s : List Nat) : VR R W (.str s) (.str (tx s))
  | tup {a xs ds} : TupAt R W a xs → VRs R W ds xs → VR R W (.tup ds) (.ref a)
  | lst {a xs ds} : W.im a (.lst xs) → VRs R W ds xs → VR R W (.lst ds) (.ref a)
  | loc {n a} : W.m[n]? = some a → VR R W (.loc n) (.ref a)
  | fn (f : Nat) (h : f < R.T.nf) : VR R W (.fn f) (.ref (R.fna f))
  | scr {a ns} : ScrAt R W a (ns.map V.int) → VR R W (.scr ns) (.ref a)
inductive VRs (R : Wr) (W : Wo) : List D → List V → Prop
  | nil : VRs R W [] []
  | cons {d v ds vs} : VR R W d v → VRs R W ds vs → VRs R W (d :: ds) (v :: vs)
end

/-- values stay values -/
structure Lw (W W' : Wo) : Prop where
  x : W'.x = W.x
  pre : ∃ ν, W'.m = W.m ++ ν ∧ ∀ a ∈ ν, W.H a = none
  keep : ∀ a o, W.im a o → W'.H a = some o
  there : ∀ a, W.H a ≠ none → W'.H a ≠ none
/-- .. and the lists that are being made stand as they are -/
structure Le (W W' : Wo) : Prop extends Lw W W' where
  hid : ∀ a ∈ W.x, W'.H a = W.H a
theorem Lw.im {W W'} (l : Lw W W') {a o} (h : W.im a o) : W'.im a o := by
  obtain ⟨ν, e, n⟩ := l.pre
  refine ⟨?_, by rw [l.x]; exact h.2.1, l.keep a o h⟩
  rw [e]
  intro hx
  rcases List.mem_append.mp hx with q | q
  · exact h.1 q
  · have := h.2.2
    rw [n a q] at this; cases this
theorem Lw.refl {W} : Lw W W := ⟨rfl, ⟨[], by simp, by simp⟩, fun _ _ h => h.2.2, fun _ h => h⟩
theorem Le.refl {W} : Le W W := { Lw.refl with hid := fun _ _ => rfl }
theorem Lw.trans {W W1 W2} (a : Lw W W1) (b : Lw W1 W2) : Lw W W2 := by
  obtain ⟨ν, e, n⟩ := a.pre
  obtain ⟨ν', e', n'⟩ := b.pre
  refine ⟨b.x.trans a.x, ⟨ν ++ ν', by rw [e', e, List.append_assoc], fun x hx => ?_⟩, fun x o h => b.keep x o (a.im h), fun x h => b.there x (a.there x h)⟩
  rcases List.mem_append.mp hx with q | q
  · exact n x q
  · have h1 := n' x q
    cases h : W.H x with
    | none => rfl
    | some o => exact absurd h1 (a.there x (by rw [h]; simp))
theorem Le.trans {W W1 W2} (a : Le W W1) (b : Le W1 W2) : Le W W2 :=
  { a.toLw.trans b.toLw with hid := fun x hx => (b.hid x (by rw [a.x]; exact hx)).trans (a.hid x hx) }
theorem Lw.ix {W W'} (l : Lw W W') {n : Nat} {a : Addr} (h : W.m[n]? = some a) : W'.m[n]? = some a := by
  obtain ⟨ν, e, _⟩ := l.pre
  rw [e, List.getElem?_append_left (by
    have := List.getElem?_eq_some_iff.mp h
    exact this.1)]
  exact h
theorem upd_there {H : Hp} {p o} : ∀ a, H a ≠ none → upd H p o a ≠ none := fun a h => by
  by_cases e : a = p
  · rw [e, upd_same]; simp
  · rw [upd_ne e]; exact h
theorem Lw.len {W W'} (l : Lw W W') : W.m.length ≤ W'.m.length := by
  obtain ⟨ν, e, _⟩ := l.pre
  rw [e, List.length_append]; omega
theorem Le.take {W W'} (l : Le W W') {n : Nat} (hn : W.m.length ≤ n) : Le W { W' with m := W'.m.take n } := by
  obtain ⟨ν, e, hν⟩ := l.pre
  refine ⟨⟨l.x, ⟨ν.take (n - W.m.length), ?_, fun a ha => hν a (List.mem_of_mem_take ha)⟩, l.keep, l.there⟩, l.hid⟩
  show W'.m.take n = _
  rw [e, List.take_append]
  rw [List.take_of_length_le hn]

section
variable {R : Wr} {W W' : Wo}
theorem TupAt.mono (l : Lw W W') {a xs} (h : TupAt R W a xs) : TupAt R W' a xs := h.elim (fun h => .inl (l.im h)) .inr
theorem ScrAt.mono (l : Lw W W') {a xs} (h : ScrAt R W a xs) : ScrAt R W' a xs := h.elim (fun ⟨o, h⟩ => .inl ⟨o, l.im h⟩) .inr
mutual
theorem VR.mono (l : Lw W W') : ∀ {d v}, VR R W d v → VR R W' d v
  | _, _, .non => .non
  | _, _, .bl b => .bl b
  | _, _, .int i => .int i
  | _, _, .str s => .str s
  | _, _, .tup t r => .tup (t.mono l) (VRs.mono l r)
  | _, _, .lst n r => .lst (l.im n) (VRs.mono l r)
  | _, _, .loc e => .loc (l.ix e)
  | _, _, .fn f q => .fn f q
  | _, _, .scr s => .scr (s.mono l)
theorem VRs.mono (l : Lw W W') : ∀ {ds vs}, VRs R W ds vs → VRs R W' ds vs
  | _, _, .nil => .nil
  | _, _, .cons h t => .cons (VR.mono l h) (VRs.mono l t)
end
theorem VRs.length : ∀ {ds vs}, VRs R W ds vs → ds.length = vs.length
  | _, _, .nil => rfl
  | _, _, .cons _ t => by simp [VRs.length t]
theorem VRs.get : ∀ {ds vs} {i : Nat} {d : D}, VRs R W ds vs → ds[i]? = some d → ∃ v, vs[i]? = some v ∧ VR R W d v
  | _, _, _, _, .nil, e => by simp at e
  | _, _, 0, _, .cons r _, e => by simp at e; subst e; exact ⟨_, rfl, r⟩
  | _, _, i + 1, d, .cons _ t, e => by
    obtain ⟨u, h1, h2⟩ := VRs.get (i := i) (d := d) t (by simpa using e)
    exact ⟨u, by simpa using h1, h2⟩
theorem VRs.append : ∀ {ds es vs ws}, VRs R W ds vs → VRs R W es ws → VRs R W (ds ++ es) (vs ++ ws)
  | _, _, _, _, .nil, s => s
  | _, _, _, _, .cons r t, s => .cons r (VRs.append t s)
theorem VRs.take : ∀ {ds vs} (n : Nat), VRs R W ds vs → VRs R W (ds.take n) (vs.take n)
  | _, _, 0, _ => .nil
  | _, _, _ + 1, .nil => .nil
  | _, _, n + 1, .cons r t => .cons r (VRs.take n t)
theorem VRs.drop : ∀ {ds vs} (n : Nat), VRs R W ds vs → VRs R W (ds.drop n) (vs.drop n)
  | _, _, 0, r => r
  | _, _, _ + 1, .nil => .nil
  | _, _, n + 1, .cons r t => VRs.drop n t
theorem VRs.set {d v} (r : VR R W d v) : ∀ {ds vs} (i : Nat), VRs R W ds vs → VRs R W (ds.set i d) (vs.set i v)
  | _, _, _, .nil => .nil
  | _, _, 0, .cons _ t => .cons r t
  | _, _, i + 1, .cons q t => .cons q (VRs.set r i t)
theorem VRs.split : ∀ {ds es : List D} {vs}, VRs R W (ds ++ es) vs → ∃ xs ys, vs = xs ++ ys ∧ VRs R W ds xs ∧ VRs R W es ys
  | [], _, _, r => ⟨[], _, rfl, .nil, r⟩
  | _ :: ds, _, _, .cons r t => by
    obtain ⟨xs, ys, e, h1, h2⟩ := VRs.split (ds := ds) t
    exact ⟨_ :: xs, ys, by rw [e]; rfl, .cons r h1, h2⟩
theorem VRs.ints : ∀ (ns : List Int), VRs R W (ns.map .int) (ns.map V.int)
  | [] => .nil
  | n :: ns => .cons (.int n) (VRs.ints ns)
end

/-- an exact dict with these entries at a -/
def KDo (R : Wr) (a : Addr) (es : List (NestedKey × Addr × Value)) : Heap → Prop := fun h =>
  ∃ o ep tb, h.get? a = some o ∧ o.ExactDict ∧ o.data = .dict tb ep ∧ tb.toList = es.map (entryOfKey (nestedKind R.P R.w)) ∧ (es.map (·.1)).Nodup ∧ (a == sysModules) = false
mutual
def toNK : D → NestedKey
  | .non => .none
  | .int i => .num i
  | .str s => .text (tx s)
  | .tup ds => .tup (toNKs ds)
  | _ => .none
def toNKs : List D → List NestedKey
  | [] => []
  | d :: ds => toNK d :: toNKs ds
end
section
variable (R : Wr) (W : Wo)
abbrev SKs (kvs : List (List Nat × D)) (ks : List (Key × V)) : Prop := Paired (fun (p : List Nat × D) (q : Key × V) => q.1 = Sum.inr (tx p.1) ∧ VR R W p.2 q.2) kvs ks
abbrev KKs (kvs : List (D × D)) (es : List (NestedKey × Addr × Value)) : Prop :=
  Paired (fun (p : D × D) (q : NestedKey × Addr × Value) => isKey p.1 = true ∧ q.1 = toNK p.1 ∧ VR R W p.1 (.ref q.2.1) ∧ ∃ v, RelV v q.2.2 ∧ VR R W p.2 v) kvs es
abbrev FRs (fs : List (Nat × D)) (gs : List (Str × V)) : Prop := Paired (fun (p : Nat × D) (q : Str × V) => q.1 = R.fnm p.1 ∧ VR R W p.2 q.2) fs gs
/-- the object o stands at a as ho -/
def OR (a : Addr) : MO → HO → Prop
  | .lst ds, ho => ∃ xs, ho = .lst xs ∧ VRs R W ds xs
  | .sd kvs, ho => ∃ ks, ho = .dK ks ∧ SKs R W kvs ks ∧ (kvs.map (·.1)).Nodup
  | .kd kvs, ho => ∃ es, ho = .ext (KDo R a es) ∧ KKs R W kvs es
  | .ins c fs, ho => ∃ dx gs, ho = .ins (R.cls c) dx gs ∧ FRs R W fs gs ∧ ((fs.map (·.1)).Nodup ∧ ∀ p ∈ fs, R.okf c p.1 = true)
  | .frz kvs, ho => ∃ ob es, ho = .frz ob (.ext (KDo R a es)) ∧ KKs R W kvs es
structure HR (h : Hm) : Prop where
  len : W.m.length = h.length
  nd : W.m.Nodup
  xs : ∀ a ∈ W.x, W.H a ≠ none ∧ a ∉ W.m
  at_ : ∀ (n : Nat) (o : MO) (a : Addr), h[n]? = some o → W.m[n]? = some a → ∃ ho, W.H a = some ho ∧ OR R W a o ho
/-- the slots -/
structure SR (σd : Sl) (σ : L2.St) : Prop where
  len : σd.length = σ.length
  at_ : ∀ (i : Nat) (d : D), σd[i]? = some (some d) → ∃ v, σ[i]? = some (some v) ∧ VR R W d v
end
theorem nodupA_ix {N : List Addr} (hN : N.Nodup) {i j : Nat} {x : Addr} (a : N[i]? = some x) (b : N[j]? = some x) : i = j := by
  obtain ⟨h1, e1⟩ := List.getElem?_eq_some_iff.mp a
  obtain ⟨h2, e2⟩ := List.getElem?_eq_some_iff.mp b
  exact (List.getElem_inj hN).mp (e1.trans e2.symm)
theorem Paired.imp {α β : Type} {F G : α → β → Prop} : ∀ {l₁ : List α} {l₂ : List β}, Paired F l₁ l₂ → (∀ a b, F a b → G a b) → Paired G l₁ l₂
  | _, _, .nil, _ => .nil
  | _, _, .cons r t, f => .cons (f _ _ r) (Paired.imp t f)
section
variable {R : Wr} {W W' : Wo} {h : Hm}
theorem OR.mono (l : Lw W W') {a o ho} (r : OR R W a o ho) : OR R W' a o ho := by
  cases o with
  | lst ds => obtain ⟨xs, e, r⟩ := r; exact ⟨xs, e, r.mono l⟩
  | sd kvs => obtain ⟨ks, e, r, nd⟩ := r; exact ⟨ks, e, Paired.imp r fun _ _ x => ⟨x.1, x.2.mono l⟩, nd⟩
  | kd kvs => obtain ⟨es, e, r⟩ := r; exact ⟨es, e, Paired.imp r fun _ _ x => ⟨x.1, x.2.1, x.2.2.1.mono l, let ⟨v, a, b⟩ := x.2.2.2; ⟨v, a, b.mono l⟩⟩⟩
  | ins c fs => obtain ⟨dx, gs, e, r, nd⟩ := r; exact ⟨dx, gs, e, Paired.imp r fun _ _ x => ⟨x.1, x.2.mono l⟩, nd⟩
  | frz kvs => obtain ⟨ob, es, e, r⟩ := r; exact ⟨ob, es, e, Paired.imp r fun _ _ x => ⟨x.1, x.2.1, x.2.2.1.mono l, let ⟨v, a, b⟩ := x.2.2.2; ⟨v, a, b.mono l⟩⟩⟩
theorem HR.mem (r : HR R W h) {a} (ha : a ∈ W.m) : W.H a ≠ none := by
  obtain ⟨n, hn⟩ := List.getElem?_of_mem ha
  have hl : n < h.length := by rw [← r.len]; exact (List.getElem?_eq_some_iff.mp hn).1
  obtain ⟨ho, e, _⟩ := r.at_ n _ a (List.getElem?_eq_getElem hl) hn
  rw [e]; simp
theorem HR.notin (r : HR R W h) {p} (hp : W.H p = none) : p ∉ W.m := fun hm => r.mem hm hp
theorem HR.notinx (r : HR R W h) {p} (hp : W.H p = none) : p ∉ W.x := fun hm => (r.xs p hm).1 hp
theorem HR.ix (r : HR R W h) {n : Nat} {o : MO} (e : h[n]? = some o) : ∃ a, W.m[n]? = some a ∧ a ∈ W.m ∧ ∃ ho, W.H a = some ho ∧ OR R W a o ho := by
  have hl : n < W.m.length := by rw [r.len]; exact (List.getElem?_eq_some_iff.mp e).1
  have hm := List.getElem?_eq_getElem hl
  exact ⟨_, hm, List.mem_of_getElem? hm, r.at_ n o _ e hm⟩
/-- the object of a place that a value names -/
theorem HR.loc (r : HR R W h) {n : Nat} {a : Addr} {o : MO} (e : W.m[n]? = some a) (ho : h[n]? = some o) : ∃ hu, W.H a = some hu ∧ OR R W a o hu := r.at_ n o a ho e
theorem im_ne {W : Wo} {a p o} (h : W.im a o) (hp : W.H p = none) : a ≠ p := ne_of_none h.2.2 hp
theorem Le.fresh {W : Wo} (r : HR R W h) {p o} (hp : W.H p = none) : Le W (W.at_ (upd W.H p o)) :=
  ⟨⟨rfl, ⟨[], by simp, by simp⟩, fun a u q => by show upd W.H p o a = _; rw [upd_ne (im_ne q hp)]; exact q.2.2, upd_there⟩,
    fun a ha => upd_ne (fun e => r.notinx hp (by rw [← e]; exact ha))⟩
theorem Le.alloc {W : Wo} (r : HR R W h) {p o} (hp : W.H p = none) : Le W { W with m := W.m ++ [p], H := upd W.H p o } :=
  ⟨⟨rfl, ⟨[p], rfl, fun a ha => by rw [List.mem_singleton.mp ha]; exact hp⟩, (Le.fresh (o := o) r hp).keep, upd_there⟩, (Le.fresh (o := o) r hp).hid⟩
theorem Le.set {W : Wo} (r : HR R W h) {a o} (ha : a ∈ W.m) : Le W (W.at_ (upd W.H a o)) :=
  ⟨⟨rfl, ⟨[], by simp, by simp⟩, fun b u q => by show upd W.H a o b = _; rw [upd_ne (fun e => q.1 (by rw [e]; exact ha))]; exact q.2.2, upd_there⟩,
    fun b hb => upd_ne (fun e => (r.xs b hb).2 (by rw [e]; exact ha))⟩
/-- nothing of ours changes -/
theorem HR.same {H' : Hp} (r : HR R W h) (l : Lw W (W.at_ H')) (k : ∀ a ∈ W.m, H' a = W.H a) : HR R (W.at_ H') h :=
  ⟨r.len, r.nd, fun a ha => ⟨l.there a (r.xs a ha).1, (r.xs a ha).2⟩, fun n o a e1 e2 => by
    obtain ⟨ho, e, x⟩ := r.at_ n o a e1 e2
    exact ⟨ho, by show H' a = _; rw [k a (List.mem_of_getElem? e2)]; exact e, x.mono l⟩⟩
theorem HR.fresh (r : HR R W h) {p : Addr} {o : HO} (hp : W.H p = none) : HR R (W.at_ (upd W.H p o)) h :=
  r.same (Le.fresh r hp).toLw fun a ha => upd_ne (fun e => r.notin hp (by rw [← e]; exact ha))
theorem HR.alloc (r : HR R W h) {p : Addr} {o : MO} {ho : HO} (hp : W.H p = none) (x : OR R { W with m := W.m ++ [p], H := upd W.H p ho } p o ho) : HR R { W with m := W.m ++ [p], H := upd W.H p ho } (h ++ [o]) := by
  have l := (Le.alloc (o := ho) r hp).toLw
  refine ⟨by simp [r.len], ?_, fun a ha => ⟨l.there a (r.xs a ha).1, ?_⟩, fun n u a e1 e2 => ?_⟩
  · show (W.m ++ [p]).Nodup
    rw [List.nodup_append]
    refine ⟨r.nd, by simp, fun a ha b hb => ?_⟩
    rw [List.mem_singleton.mp hb]
    exact fun e => r.notin hp (by rw [← e]; exact ha)
  · intro hm
    rcases List.mem_append.mp hm with q | q
    · exact (r.xs a ha).2 q
    · exact r.notinx hp (by rw [← List.mem_singleton.mp q]; exact ha)
  · have e2 : (W.m ++ [p])[n]? = some a := e2
    by_cases hn : n < h.length
    · rw [List.getElem?_append_left hn] at e1
      rw [List.getElem?_append_left (by rw [r.len]; exact hn)] at e2
      obtain ⟨hu, e, y⟩ := r.at_ n u a e1 e2
      exact ⟨hu, by show upd W.H p ho a = _; rw [upd_ne (ne_of_none e hp)]; exact e, y.mono l⟩
    · rw [List.getElem?_append_right (by omega)] at e1
      rw [List.getElem?_append_right (by rw [r.len]; omega), r.len] at e2
      have h0 : n - h.length = 0 := by
        have := (List.getElem?_eq_some_iff.mp e1).1
        simp at this; omega
      rw [h0] at e1 e2
      simp at e1 e2
      subst e1 e2
      exact ⟨ho, upd_same, x⟩
theorem HR.set (r : HR R W h) {n : Nat} {a : Addr} {o : MO} {ho : HO} (ha : W.m[n]? = some a) (x : OR R (W.at_ (upd W.H a ho)) a o ho) : HR R (W.at_ (upd W.H a ho)) (h.set n o) := by
  have hma := List.mem_of_getElem? ha
  have l := (Le.set (o := ho) r hma).toLw
  refine ⟨by simp [r.len], r.nd, fun b hb => ⟨l.there b (r.xs b hb).1, (r.xs b hb).2⟩, fun m u b e1 e2 => ?_⟩
  by_cases hm : n = m
  · subst hm
    have e2 : W.m[n]? = some b := e2
    rw [ha] at e2; cases e2
    have hl : n < h.length := by rw [← r.len]; exact (List.getElem?_eq_some_iff.mp ha).1
    rw [List.getElem?_set_self hl] at e1; cases e1
    exact ⟨ho, upd_same, x⟩
  · rw [List.getElem?_set_ne hm] at e1
    obtain ⟨hu, e, y⟩ := r.at_ m u b e1 e2
    have hab : b ≠ a := fun q => by
      subst q
      exact hm (nodupA_ix r.nd ha e2)
    exact ⟨hu, by show upd W.H a ho b = _; rw [upd_ne hab]; exact e, y.mono l⟩
theorem SR.mono (l : Lw W W') {σd σ} (s : SR R W σd σ) : SR R W' σd σ :=
  ⟨s.len, fun i d e => let ⟨v, a, b⟩ := s.at_ i d e; ⟨v, a, b.mono l⟩⟩
theorem SR.set {σd σ d v} (s : SR R W σd σ) (r : VR R W d v) (i : Nat) : SR R W (σd.set i (some d)) (σ.set i (some v)) :=
  ⟨by simp [s.len], fun j e q => by
    by_cases hj : i = j
    · subst hj
      by_cases hl : i < σd.length
      · rw [List.getElem?_set_self hl] at q; cases q
        exact ⟨v, by rw [List.getElem?_set_self (by rw [← s.len]; exact hl)], r⟩
      · rw [List.getElem?_eq_none (by simpa using hl)] at q; cases q
    · rw [List.getElem?_set_ne hj] at q
      rw [List.getElem?_set_ne hj]
      exact s.at_ j e q⟩
theorem SR.wipe {σd σ} (s : SR R W σd σ) (vs : List Nat) : SR R W (wipe σd vs) (L2.wipe σ vs) := by
  induction vs with
  | nil => exact s
  | cons v vs ih =>
    refine ⟨by simp [Mi.wipe, L2.wipe, ih.len], fun j e q => ?_⟩
    by_cases hj : v = j
    · subst hj
      unfold Mi.wipe at q
      by_cases hl : v < (Mi.wipe σd vs).length
      · rw [List.getElem?_set_self hl] at q; cases q
      · rw [List.getElem?_eq_none (by simpa using hl)] at q; cases q
    · unfold Mi.wipe at q
      unfold L2.wipe
      rw [List.getElem?_set_ne hj] at q
      rw [List.getElem?_set_ne hj]
      exact ih.at_ j e q
end
end Mi

set_option linter.all false
set_option maxRecDepth 100000
set_option maxHeartbeats 2000000
namespace Mi
open PySem PySem.Spec PyProof.Rows L2
/-! ## rules: expressions -/
theorem _root_.L2.PE.impW {X : Cx} {e : Expr} {t t' : TE} (h : PE X e t) (i : ∀ σ H Q, t' σ H Q → t σ H Q) : PE X e t' := ⟨fun pins s σ H Q I w => h.run pins s σ H Q I (i _ _ _ w)⟩
theorem _root_.L2.PT.impW {X : Cx} {e : Expr} {t t' : TT} (h : PT X e t) (i : ∀ σ H Q, t' σ H Q → t σ H Q) : PT X e t' := ⟨fun pins s σ H Q I w => h.run pins s σ H Q I (i _ _ _ w)⟩
theorem _root_.L2.PA.impW {X : Cx} {e : List Expr} {t t' : TA} (h : PA X e t) (i : ∀ σ H Q, t' σ H Q → t σ H Q) : PA X e t' := ⟨fun pos pins s σ H Q I w => h.run pos pins s σ H Q I (i _ _ _ w)⟩
theorem _root_.L2.PS.impW {X : Cx} {e : Stmt} {t t' : TS} (h : PS X e t) (i : ∀ σ H D, t' D σ H → t D σ H) : PS X e t' := ⟨fun pins s σ H D I w => h.run pins s σ H D I (i _ _ _ w)⟩
theorem _root_.L2.PSs.impW {X : Cx} {e : List Stmt} {t t' : TS} (h : PSs X e t) (i : ∀ σ H D, t' D σ H → t D σ H) : PSs X e t' := ⟨fun pins s σ H D I w => h.run pins s σ H D I (i _ _ _ w)⟩

/-- what surrounds a piece of code: the written part, the meaning of the defs (which stand at the level lev), the wish about exceptions, the state at the entry -/
structure Bx where
  R : Wr
  Γ : Gam
  lev : Nat
  Ex : PX
  W0 : Wo
/-- the mini state stands here -/
structure Bx.Re (B : Bx) (W : Wo) (σd : Sl) (h : Hm) (σ : L2.St) : Prop where
  le : Le B.W0 W
  hr : HR B.R W h
  sr : SR B.R W σd σ
theorem Bx.Re.to {B : Bx} {W W' σd h h' σ} (r : B.Re W σd h σ) (l : Le W W') (hr : HR B.R W' h') : B.Re W' σd h' σ := ⟨r.le.trans l, hr, r.sr.mono l.toLw⟩
/-- the wish of an expression's value -/
def PQ (R : Wr) (W : Wo) (Q : VK) : PD := fun d h' => ∀ W' v, Le W W' → HR R W' h' → VR R W' d v → Q v W'.H
def PQs (R : Wr) (W : Wo) (Q : List V → Hp → Prop) : List D → Hm → Prop := fun ds h' => ∀ W' vs, Le W W' → HR R W' h' → VRs R W' ds vs → Q vs W'.H
def PQT (R : Wr) (W : Wo) (Q : Bool → Hp → Prop) : PD := fun d h' => ∀ W', Le W W' → HR R W' h' → ∃ b, d = .bl b ∧ Q b W'.H
theorem PQ.le {R W W' Q d h} (q : PQ R W Q d h) (l : Le W W') : PQ R W' Q d h := fun W2 v l2 hr r => q W2 v (l.trans l2) hr r
theorem PQs.le {R W W' Q d h} (q : PQs R W Q d h) (l : Le W W') : PQs R W' Q d h := fun W2 v l2 hr r => q W2 v (l.trans l2) hr r
theorem PQT.le {R W W' Q d h} (q : PQT R W Q d h) (l : Le W W') : PQT R W' Q d h := fun W2 l2 hr => q W2 (l.trans l2) hr
theorem PQ.here {R W Q d h v} (q : PQ R W Q d h) (hr : HR R W h) (r : VR R W d v) : Q v W.H := q W v Le.refl hr r
def tE (B : Bx) (e : E) : TE := fun σ H Q => ∃ W σd h, W.H = H ∧ B.Re W σd h σ ∧ wpE B.Γ B.Ex e σd h (PQ B.R W Q)
def tEs (B : Bx) (es : Es) : TA := fun σ H Q => ∃ W σd h, W.H = H ∧ B.Re W σd h σ ∧ wpEs B.Γ B.Ex es σd h (PQs B.R W Q)
def tT (B : Bx) (e : E) : TT := fun σ H Q => ∃ W σd h, W.H = H ∧ B.Re W σd h σ ∧ wpE B.Γ B.Ex e σd h (PQT B.R W Q)
/-- a new list's own wish: it may be a value or an object -/
def PQF (R : Wr) (W : Wo) (Q : VK) : PD := fun d h' => ∃ ds, d = .lst ds ∧ ∀ W' p xs, Le W W' → HR R W' h' → p ∉ W'.m → p ∉ W'.x → W.H p = none → W'.H p = some (.lst xs) → VRs R { W' with x := p :: W'.x } ds xs →
  HR R { W' with x := p :: W'.x } h' → Q (.ref p) W'.H
def tF (B : Bx) (e : E) : TE := fun σ H Q => ∃ W σd h, W.H = H ∧ B.Re W σd h σ ∧ wpE B.Γ B.Ex e σd h (PQF B.R W Q)

/-- what the written part says -/
structure Wr.Ok (R : Wr) : Prop where
  cls : ∀ c f, R.T.okf c f = true → Cls R.K (R.cls c) ∧ NoAttr R.K (R.cls c) (R.T.fnm f)
  inj : ∀ c f g, R.T.okf c f = true → R.T.okf c g = true → R.T.fnm f = R.T.fnm g → f = g
  kp : ∀ f, f < R.T.nf → PySem.W.keepIn R.K (.ref (R.fna f)) = true
  bnd : ∀ f, f < R.T.nf → Binds R.K (R.fd f) (R.T.ps f) []
  glo : ∀ f, R.T.isg f = true → R.mg (R.T.fnn f) = some (.ref (R.fna f))
  met : ∀ m, R.T.ism m = true → Cls R.K (R.cls (R.T.mcls m)) ∧ Meth R.K (R.cls (R.T.mcls m)) (R.T.fnn m) (R.fna m)
  mak : ∀ c, R.T.isc c = true → Cls R.K (R.cls c) ∧ Mk R.K (R.cls c) (R.fna (R.T.init c)) ∧ R.mg (R.T.cnm c) = some (.ref (R.cls c))
  fre : ∀ n ∈ freeN, R.mg n = none
  exc : ∀ c n, R.T.exn c = some n → R.mg n = some (.ref (R.exa c)) ∧ PySem.W.excIn R.K (R.exa c) [.type "ValueError", .type "Exception", .type "BaseException", .type "object"] "ValueError.__new__" = true ∧ PySem.W.keepIn R.K (.ref (R.exa c)) = true ∧
    PySem.W.subIn R.K (.ref (R.exa c)) (.type "BaseException") = some true ∧ PySem.W.typeIn R.K (.ref (R.exa c)) = some (.type "type")
  sta : R.T.sta = true → ∃ (a : Addr) (o : Obj) (es : Array DictEntry) (n : Nat), R.mg "STARTS" = some (.ref a) ∧ R.K.lookup a = some ⟨.type "dict", none, .dict es n, #[]⟩ ∧ PySem.W.KeysLit R.w.params es.toList ∧ (a == sysModules) = false ∧
    ∀ k : List Nat, ∃ r, PySem.W.nsIn R.K a (tx k) = some r ∧ ((r = none ∧ startsOf k = .str []) ∨ ∃ u v, r = some u ∧ RelV v u ∧ ∀ W, VR R W (startsOf k) v)
  con : ∀ g d, R.T.gl g = some d → ∃ v u, R.mg (R.T.gln g) = some u ∧ RelV v u ∧ ∀ W, VR R W d v
/-- the promise of a def -/
def spM (R : Wr) (Γ : Gam) (f : Nat) : Sp := fun vs H Q E => ∃ W h ds, W.H = H ∧ HR R W h ∧ VRs R W ds vs ∧ Γ.call f ds h (PQ R W Q) fun c h' => ∀ W', Le W W' → HR R W' h' → E (.ref (R.exa c)) none W'.H
/-- the wish about exceptions in a body -/
def wX (B : Bx) : WX := fun cls d _ H => ∃ c W h, cls = .ref (B.R.exa c) ∧ d = none ∧ W.H = H ∧ Le B.W0 W ∧ HR B.R W h ∧ B.Ex c h
/-- the context of the walk fits -/
structure XOk (X : Cx) (B : Bx) : Prop where
  P : X.prog = B.R.P
  w : X.w = B.R.w
  K : X.K = B.R.K
  mg : X.mg = B.R.mg
  base : X.base = B.R.base
  calm : X.calm = true
  nd : X.N.Nodup
  mono : B.Γ.Mono
  room : Room 1 X.A
  roomL : Room (B.lev + 1) X.A
  wr : B.R.Ok
  gm : B.Γ.mcls = B.R.T.mcls
  gi : B.Γ.init = B.R.T.init
  go : B.Γ.okf = B.R.T.okf
  gg : B.Γ.gl = B.R.T.gl
  tk : Takes X (wX B)
  po : PassesOwn (model X.prog X.w) X.A X.env X.xe
  fn : ∀ f, f < B.R.T.nf → FnOk B.R.P B.R.w B.R.K B.R.mg B.R.base (L2.CX B.R.P B.R.w) B.lev (B.R.fna f) (B.R.fd f) (B.R.T.ps f) (spM B.R B.Γ f)

section
variable {X : Cx} {B : Bx} {pos : Pos}
theorem s_lit {py : Expr} {e : E} {d : D} {v : V} (hv : PE X py (tC v)) (hd : ∀ Γ Ex σ h Q, wpE Γ Ex e σ h Q → Q d h) (r : ∀ W, VR B.R W d v) : PE X py (tE B e) :=
  hv.impW fun σ H Q ⟨W, σd, h, e, hr, w⟩ => by
    subst e
    exact (hd _ _ _ _ _ w).here hr.hr (r W)
theorem s_non {j} : PE X (.Constant .none j pos) (tE B .non) := s_lit pe_non (fun _ _ _ _ _ w => by simpa only [wpE] using w) fun _ => .non
theorem s_bl {b j} : PE X (.Constant (.bool b) j pos) (tE B (.bl b)) := s_lit pe_bl (fun _ _ _ _ _ w => by simpa only [wpE] using w) fun _ => .bl b
theorem s_int {i j} : PE X (.Constant (.int i) j pos) (tE B (.int i)) := s_lit pe_int (fun _ _ _ _ _ w => by simpa only [wpE] using w) fun _ => .int i
theorem s_str {z : Str} {s : List Nat} {j} (e : z.cps.toList = s) : PE X (.Constant (.str z) j pos) (tE B (.str s)) :=
  s_lit pe_str (fun _ _ _ _ _ w => by simpa only [wpE] using w) fun _ => by rw [← e, show VR B.R _ (.str z.cps.toList) (.str z) = VR B.R _ (.str z.cps.toList) (.str (tx z.cps.toList)) by rw [tx_list]]; exact .str _
theorem s_var {i : Nat} {x : Str} (hN : X.N[i]? = some x) (hv : Vis X.env.scope x) (hd : (x == ("__debug__" : Str)) = false) (hcd : (x == ("__classdict__" : Str)) = false) : PE X (.Name x pos) (tE B (.var i)) :=
  (pe_var hN hv hd hcd).impW fun σ H Q ⟨W, σd, h, e, hr, w⟩ => by
    subst e
    simp only [wpE] at w
    obtain ⟨d, e1, w⟩ := w
    obtain ⟨v, e2, r⟩ := hr.sr.at_ i d e1
    exact ⟨v, e2, w.here hr.hr r⟩
theorem s_gl {x : Str} {u : Value} {v : V} {g : Nat} {d : D} (hg : Gl X x) (hm : X.mg x = some u) (r : RelV v u) (hd : (x == ("__debug__" : Str)) = false) (e : B.Γ.gl g = some d) (q : ∀ W, VR B.R W d v) : PE X (.Name x pos) (tE B (.gl g)) :=
  (pe_glob hg hm r hd).impW fun σ H Q ⟨W, σd, h, e1, hr, w⟩ => by
    subst e1
    simp only [wpE] at w
    obtain ⟨d', e2, w⟩ := w
    rw [e] at e2; cases e2
    exact w.here hr.hr (q W)
theorem s_fn {x : Str} {f : Nat} (hn : f < B.R.T.nf) (hg : Gl X x) (hm : X.mg x = some (.ref (B.R.fna f))) (hd : (x == ("__debug__" : Str)) = false) : PE X (.Name x pos) (tE B (.fn f)) :=
  (pe_glob (v := .ref (B.R.fna f)) hg hm rfl hd).impW fun σ H Q ⟨W, σd, h, e1, hr, w⟩ => by
    subst e1
    simp only [wpE] at w
    exact w.here hr.hr (.fn f hn)

/-! ### sequences of expressions -/
theorem step1 (x : XOk X B) {e : E} {W : Wo} {σd : Sl} {h : Hm} {σ : L2.St} {Q : VK} {K : PD} (hr : B.Re W σd h σ) (w : wpE B.Γ B.Ex e σd h K)
    (k : ∀ d h1 W1 v, K d h1 → Le W W1 → B.Re W1 σd h1 σ → VR B.R W1 d v → Q v W1.H) : tE B e σ W.H Q :=
  ⟨W, σd, h, rfl, hr, wpE_mono x.mono e _ _ _ _ _ _ (fun _ _ z => z) (fun d h1 w W1 v l r q => k d h1 W1 v w l (hr.to l r) q) w⟩
theorem steps (x : XOk X B) {es : Es} {W : Wo} {σd : Sl} {h : Hm} {σ : L2.St} {Q : List V → Hp → Prop} {K : List D → Hm → Prop} (hr : B.Re W σd h σ) (w : wpEs B.Γ B.Ex es σd h K)
    (k : ∀ d h1 W1 v, K d h1 → Le W W1 → B.Re W1 σd h1 σ → VRs B.R W1 d v → Q v W1.H) : tEs B es σ W.H Q :=
  ⟨W, σd, h, rfl, hr, wpEs_mono x.mono es _ _ _ _ _ _ (fun _ _ z => z) (fun d h1 w W1 v l r q => k d h1 W1 v w l (hr.to l r) q) w⟩
theorem stepT (x : XOk X B) {e : E} {W : Wo} {σd : Sl} {h : Hm} {σ : L2.St} {Q : Bool → Hp → Prop} {K : PD} (hr : B.Re W σd h σ) (w : wpE B.Γ B.Ex e σd h K)
    (k : ∀ d h1 W1, K d h1 → Le W W1 → B.Re W1 σd h1 σ → ∃ b, d = .bl b ∧ Q b W1.H) : tT B e σ W.H Q :=
  ⟨W, σd, h, rfl, hr, wpE_mono x.mono e _ _ _ _ _ _ (fun _ _ z => z) (fun d h1 w W1 l r => k d h1 W1 w l (hr.to l r)) w⟩
theorem sa_nil : PA X [] (tEs B .nil) := pa_nil.impW fun σ H Q ⟨W, σd, h, e, hr, w⟩ => by
  subst e
  simp only [wpEs] at w
  exact w W [] Le.refl hr.hr .nil
theorem sa_cons (x : XOk X B) {py : Expr} {pys : List Expr} {e : E} {es : Es} (h1 : PE X py (tE B e)) (h2 : PA X pys (tEs B es)) (hs : starEach (py :: pys) X.env = (false, eval py X.env) :: starEach pys X.env) : PA X (py :: pys) (tEs B (.cons e es)) :=
  (pa_cons h1 h2 hs).impW fun σ H Q ⟨W, σd, h, e, hr, w⟩ => by
    subst e
    simp only [wpEs] at w
    refine step1 x hr w fun d h1 W1 v w l hr1 r => ?_
    refine steps x hr1 w fun ds h2 W2 vs w l2 hr2 rs => ?_
    exact w W2 (v :: vs) (l.trans l2) hr2.hr (.cons (r.mono l2.toLw) rs)
theorem lim_line : lim ≤ sizeLine := by rw [sizeLine_eq]; decide

theorem s_tup (x : XOk X B) {pys : List Expr} {es : Es} {k} (h1 : PA X pys (tEs B es)) : PE X (.Tuple pys k pos) (tE B (.tup es)) :=
  (pe_tup h1).impW fun σ H Q ⟨W, σd, h, e, hr, w⟩ => by
    subst e
    simp only [wpE] at w
    refine steps x hr w fun ds h1 W1 vs w l hr1 rs => ?_
    refine ⟨by rw [← rs.length]; exact Nat.le_trans w.1 lim_line, fun p hp => ?_⟩
    have lf := Le.fresh (o := .tup vs) hr1.hr hp
    refine w.2 (W1.at_ (upd W1.H p (.tup vs))) (.ref p) (l.trans lf) (hr1.hr.fresh hp) (.tup (.inl ⟨hr1.hr.notin hp, hr1.hr.notinx hp, upd_same⟩) (rs.mono lf.toLw))

/-- a new list at p, not yet anybody's -/
theorem new_lst {R : Wr} {W W1 : Wo} {h1 : Hm} {Q : VK} {ds : List D} {vs : List V} {p : Addr} (w : ∀ W' p xs, Le W W' → HR R W' h1 → p ∉ W'.m → p ∉ W'.x → W.H p = none → W'.H p = some (.lst xs) → VRs R { W' with x := p :: W'.x } ds xs → HR R { W' with x := p :: W'.x } h1 → Q (.ref p) W'.H)
    (l : Le W W1) (r1 : HR R W1 h1) (rs : VRs R W1 ds vs) (hp : W1.H p = none) : Q (.ref p) (upd W1.H p (.lst vs)) := by
  have lf := Le.fresh (o := .lst vs) r1 hp
  have h0 : W.H p = none := by
    cases e : W.H p with
    | none => rfl
    | some o => exact absurd hp (l.there p (by rw [e]; simp))
  have lx : Lw W1 { m := W1.m, x := W1.x, H := upd W1.H p (.lst vs) } := lf.toLw
  -- the values know nothing of p
  have aux : ∀ {a o}, W1.im a o → ({ m := W1.m, x := p :: W1.x, H := upd W1.H p (.lst vs) } : Wo).im a o := fun {a o} q => by
    refine ⟨q.1, ?_, ?_⟩
    · intro hm
      rcases List.mem_cons.mp hm with e | e
      · exact im_ne q hp e
      · exact q.2.1 e
    · show upd W1.H p (.lst vs) a = _
      rw [upd_ne (im_ne q hp)]; exact q.2.2
  have vrm : ∀ d v, VR R W1 d v → VR R { m := W1.m, x := p :: W1.x, H := upd W1.H p (.lst vs) } d v := by
    intro d
    have both : (∀ v, VR R W1 d v → VR R { m := W1.m, x := p :: W1.x, H := upd W1.H p (.lst vs) } d v) := by
      intro v r
      exact VR.rec (motive_1 := fun d v _ => VR R { m := W1.m, x := p :: W1.x, H := upd W1.H p (.lst vs) } d v) (motive_2 := fun d v _ => VRs R { m := W1.m, x := p :: W1.x, H := upd W1.H p (.lst vs) } d v)
        .non (fun b => .bl b) (fun i => .int i) (fun s => .str s) (fun t _ ih => .tup (t.elim (fun q => .inl (aux q)) .inr) ih) (fun q _ ih => .lst (aux q) ih) (fun e => .loc e) (fun f q => .fn f q)
        (fun s => .scr (s.elim (fun ⟨o, q⟩ => .inl ⟨o, aux q⟩) .inr)) .nil (fun _ _ a b => .cons a b) r
    exact both
  have vrms : ∀ ds v, VRs R W1 ds v → VRs R { m := W1.m, x := p :: W1.x, H := upd W1.H p (.lst vs) } ds v := by
    intro ds
    induction ds with
    | nil => intro v r; cases r; exact .nil
    | cons d ds ih => intro v r; cases r with | cons a b => exact .cons (vrm _ _ a) (ih _ b)
  refine w { m := W1.m, x := W1.x, H := upd W1.H p (.lst vs) } p vs (l.trans lf) (r1.fresh hp) (r1.notin hp) (r1.notinx hp) h0 upd_same (vrms _ _ rs) ⟨r1.len, r1.nd, ?_, fun n o a e1 e2 => ?_⟩
  · intro a ha
    rcases List.mem_cons.mp ha with e | e
    · subst e; exact ⟨by show upd W1.H a (.lst vs) a ≠ none; rw [upd_same]; simp, r1.notin hp⟩
    · exact ⟨upd_there a (r1.xs a e).1, (r1.xs a e).2⟩
  · obtain ⟨ho, e, y⟩ := r1.at_ n o a e1 e2
    refine ⟨ho, by show upd W1.H p (.lst vs) a = _; rw [upd_ne (ne_of_none e hp)]; exact e, ?_⟩
    cases o with
    | lst ds => obtain ⟨xs, e, r⟩ := y; exact ⟨xs, e, vrms _ _ r⟩
    | sd kvs => obtain ⟨ks, e, r, nd⟩ := y; exact ⟨ks, e, Paired.imp r fun _ _ x => ⟨x.1, vrm _ _ x.2⟩, nd⟩
    | kd kvs => obtain ⟨es, e, r⟩ := y; exact ⟨es, e, Paired.imp r fun _ _ x => ⟨x.1, x.2.1, vrm _ _ x.2.2.1, let ⟨v, a, b⟩ := x.2.2.2; ⟨v, a, vrm _ _ b⟩⟩⟩
    | ins c fs => obtain ⟨dx, gs, e, r, nd⟩ := y; exact ⟨dx, gs, e, Paired.imp r fun _ _ x => ⟨x.1, vrm _ _ x.2⟩, nd⟩
    | frz kvs => obtain ⟨ob, es, e, r⟩ := y; exact ⟨ob, es, e, Paired.imp r fun _ _ x => ⟨x.1, x.2.1, vrm _ _ x.2.2.1, let ⟨v, a, b⟩ := x.2.2.2; ⟨v, a, vrm _ _ b⟩⟩⟩
theorem f_lst (x : XOk X B) {pys : List Expr} {es : Es} (h1 : PA X pys (tEs B es)) : PE X (.List pys pos) (tF B (.lst es)) :=
  (pe_lst h1).impW fun σ H Q ⟨W, σd, h, e, hr, w⟩ => by
    subst e
    simp only [wpE] at w
    refine steps x hr w fun ds h1 W1 vs w l hr1 rs => ?_
    obtain ⟨hl, ds', e, w⟩ := w
    cases e
    exact ⟨by rw [← rs.length]; exact Nat.le_trans hl lim_line, fun p hp => new_lst w l hr1.hr rs hp⟩
/-- values that know nothing of p may be taken for values where p is an object or nobody's -/
theorem unhide {R : Wr} {W : Wo} {p : Addr} {m' : List Addr} (hm : ∀ a, a ∈ m' → a ∈ W.m ∨ a = p) (hi : ∀ (n : Nat) (a : Addr), W.m[n]? = some a → m'[n]? = some a) : (∀ d v, VR R { W with x := p :: W.x } d v → VR R { W with m := m' } d v) ∧ (∀ d v, VRs R { W with x := p :: W.x } d v → VRs R { W with m := m' } d v) := by
  have aux : ∀ {a o}, ({ W with x := p :: W.x } : Wo).im a o → ({ W with m := m' } : Wo).im a o := fun {a o} q => by
    refine ⟨fun h => ?_, fun h => q.2.1 (List.mem_cons_of_mem _ h), q.2.2⟩
    rcases hm a h with e | e
    · exact q.1 e
    · exact q.2.1 (by rw [e]; exact List.mem_cons_self)
  have A : ∀ {d v}, VR R { W with x := p :: W.x } d v → VR R { W with m := m' } d v := fun {d v} r =>
    VR.rec (motive_1 := fun d v _ => VR R { W with m := m' } d v) (motive_2 := fun d v _ => VRs R { W with m := m' } d v)
      .non (fun b => .bl b) (fun i => .int i) (fun s => .str s) (fun t _ ih => .tup (t.elim (fun q => .inl (aux q)) .inr) ih) (fun q _ ih => .lst (aux q) ih) (fun e => .loc (hi _ _ e)) (fun f q => .fn f q)
      (fun s => .scr (s.elim (fun ⟨o, q⟩ => .inl ⟨o, aux q⟩) .inr)) .nil (fun _ _ a b => .cons a b) r
  refine ⟨fun _ _ r => A r, fun d v r => ?_⟩
  induction d generalizing v with
  | nil => cases r; exact .nil
  | cons d ds ih => cases r with | cons a b => exact .cons (A a) (ih _ b)
theorem unhideO {R : Wr} {W : Wo} {p : Addr} {m' : List Addr} (hm : ∀ a, a ∈ m' → a ∈ W.m ∨ a = p) (hi : ∀ (n : Nat) (a : Addr), W.m[n]? = some a → m'[n]? = some a) {a o ho} (y : OR R { W with x := p :: W.x } a o ho) : OR R { W with m := m' } a o ho := by
  have vrm := (unhide (R := R) (W := W) hm hi).1
  have vrms := (unhide (R := R) (W := W) hm hi).2
  cases o with
  | lst ds => obtain ⟨xs, e, r⟩ := y; exact ⟨xs, e, vrms _ _ r⟩
  | sd kvs => obtain ⟨ks, e, r, nd⟩ := y; exact ⟨ks, e, Paired.imp r fun _ _ x => ⟨x.1, vrm _ _ x.2⟩, nd⟩
  | kd kvs => obtain ⟨es, e, r⟩ := y; exact ⟨es, e, Paired.imp r fun _ _ x => ⟨x.1, x.2.1, vrm _ _ x.2.2.1, let ⟨v, a, b⟩ := x.2.2.2; ⟨v, a, vrm _ _ b⟩⟩⟩
  | ins c fs => obtain ⟨dx, gs, e, r, nd⟩ := y; exact ⟨dx, gs, e, Paired.imp r fun _ _ x => ⟨x.1, vrm _ _ x.2⟩, nd⟩
  | frz kvs => obtain ⟨ob, es, e, r⟩ := y; exact ⟨ob, es, e, Paired.imp r fun _ _ x => ⟨x.1, x.2.1, vrm _ _ x.2.2.1, let ⟨v, a, b⟩ := x.2.2.2; ⟨v, a, vrm _ _ b⟩⟩⟩
/-- the new list as a value -/
theorem F_val {R : Wr} {W : Wo} {Q : VK} {ds : List D} {h1 : Hm} (w : PQ R W Q (.lst ds) h1) : PQF R W Q (.lst ds) h1 :=
  ⟨ds, rfl, fun W' p xs l hr pm px h0 hp rs _ => w W' (.ref p) l hr (.lst ⟨pm, px, hp⟩ ((unhide (m' := W'.m) (fun a h => .inl h) fun n a h => h).2 _ _ rs))⟩
/-- .. as an object -/
theorem F_mk {R : Wr} {W : Wo} {Q : VK} {d : D} {h1 : Hm} (w : ∃ ds, d = .lst ds ∧ PQ R W Q (.loc h1.length) (h1 ++ [.lst ds])) : PQF R W Q d h1 := by
  obtain ⟨ds, e, w⟩ := w
  refine ⟨ds, e, fun W' p xs l hr pm px h0 hp rs hx => ?_⟩
  have hm : ∀ a, a ∈ W'.m ++ [p] → a ∈ W'.m ∨ a = p := fun a h => (List.mem_append.mp h).imp id fun h => List.mem_singleton.mp h
  have hi : ∀ (n : Nat) (a : Addr), W'.m[n]? = some a → (W'.m ++ [p])[n]? = some a := fun n a h => by
    rw [List.getElem?_append_left (List.getElem?_eq_some_iff.mp h).1]; exact h
  have lw : Le W { W' with m := W'.m ++ [p] } := by
    obtain ⟨ν, e1, n1⟩ := l.pre
    exact ⟨⟨l.x, ⟨ν ++ [p], by show W'.m ++ [p] = _; rw [e1, List.append_assoc], fun a ha => (List.mem_append.mp ha).elim (n1 a) fun q => by rw [List.mem_singleton.mp q]; exact h0⟩, l.keep, l.there⟩, l.hid⟩
  refine w { W' with m := W'.m ++ [p] } (.ref p) lw ⟨?_, ?_, fun a ha => ⟨(hr.xs a ha).1, fun h => ?_⟩, fun n o a e1 e2 => ?_⟩ (.loc ?_)
  · show (W'.m ++ [p]).length = _
    rw [List.length_append, List.length_append, hr.len]; rfl
  · show (W'.m ++ [p]).Nodup
    rw [List.nodup_append]
    refine ⟨hr.nd, by simp, fun a ha b hb => ?_⟩
    rw [List.mem_singleton.mp hb]
    exact fun e => pm (by rw [← e]; exact ha)
  · rcases hm a h with q | q
    · exact (hr.xs a ha).2 q
    · exact px (by rw [← q]; exact ha)
  · have e2 : (W'.m ++ [p])[n]? = some a := e2
    by_cases hn : n < h1.length
    · rw [List.getElem?_append_left hn] at e1
      rw [List.getElem?_append_left (by rw [hr.len]; exact hn)] at e2
      obtain ⟨hu, e, y⟩ := hx.at_ n o a e1 e2
      exact ⟨hu, e, unhideO hm hi y⟩
    · rw [List.getElem?_append_right (by omega)] at e1
      rw [List.getElem?_append_right (by rw [hr.len]; omega), hr.len] at e2
      have h0 : n - h1.length = 0 := by
        have := (List.getElem?_eq_some_iff.mp e1).1
        simp at this; omega
      rw [h0] at e1 e2
      simp at e1 e2
      subst e1 e2
      exact ⟨.lst xs, hp, xs, rfl, (unhide hm hi).2 _ _ rs⟩
  · show (W'.m ++ [p])[h1.length]? = some p
    rw [← hr.len, List.getElem?_append_right (Nat.le_refl _)]
    simp
/-- the constructs that make a list -/
def isF : E → Bool
  | .lst _ => true
  | .opl _ _ _ => true
  | .comp _ _ _ _ _ => true
  | _ => false
theorem wpE_lst {Γ : Gam} (hΓ : Γ.Mono) {Ex : PX} {e : E} (hf : isF e = true) {σ h Q Q'} (hq : ∀ ds h, Q (.lst ds) h → Q' (.lst ds) h) (w : wpE Γ Ex e σ h Q) : wpE Γ Ex e σ h Q' := by
  cases e with
  | lst es =>
    simp only [wpE] at w ⊢
    exact wpEs_mono hΓ es _ _ _ _ _ _ (fun _ _ z => z) (fun ds h w => ⟨w.1, hq ds h w.2⟩) w
  | opl o a b =>
    simp only [wpE] at w ⊢
    exact wpE_mono hΓ a _ _ _ _ _ _ (fun _ _ z => z) (fun _ _ w => wpE_mono hΓ b _ _ _ _ _ _ (fun _ _ z => z) (fun _ _ w => onSome_mono (fun ds w => hq ds _ w) w) w) w
  | comp tp tg it t e =>
    simp only [wpE] at w ⊢
    exact wpI_mono hΓ it _ _ _ _ _ _ (fun _ _ z => z) (fun xs src h w => ⟨w.1, compW_mono (T' := wpE Γ (fun _ _ => False) t) (V' := wpE Γ (fun _ _ => False) e) (fun σ h Q Q' hq w => wpE_mono hΓ t _ _ σ h Q Q' (fun _ _ z => z) hq w) (fun σ h Q Q' hq w => wpE_mono hΓ e _ _ σ h Q Q' (fun _ _ z => z) hq w) _ _ _ _ _ (fun ds h w => hq ds h w) w.2⟩) w
  | _ => cases hf
theorem s_ofF (x : XOk X B) {py : Expr} {e : E} (h : PE X py (tF B e)) (hf : isF e = true) : PE X py (tE B e) :=
  h.impW fun σ H Q ⟨W, σd, h, e1, hr, w⟩ => ⟨W, σd, h, e1, hr, wpE_lst x.mono hf (fun ds h w => F_val w) w⟩
theorem s_mk (x : XOk X B) {py : Expr} {e : E} (h : PE X py (tF B e)) : PE X py (tE B (.mk e)) :=
  h.impW fun σ H Q ⟨W, σd, h, e1, hr, w⟩ => ⟨W, σd, h, e1, hr, by
    simp only [wpE] at w
    exact wpE_mono x.mono e _ _ _ _ _ _ (fun _ _ z => z) (fun d h1 w => F_mk w) w⟩
end
end Mi

set_option linter.all false
set_option maxRecDepth 100000
set_option maxHeartbeats 2000000
namespace Mi
open PySem PySem.Spec PyProof.Rows L2
/-! ## dicts by tuples -/
mutual
theorem eqD_nk : ∀ (n m : Nat) (a b : D), hsh n a = true → hsh m b = true → eqD a b = NestedKey.beq (toNK a) (toNK b)
  | n, m, .non, b, ha, hb => by cases b <;> simp [hsh] at hb <;> simp [eqD, toNK, NestedKey.beq]
  | n, m, .int i, b, ha, hb => by
    cases b <;> simp [hsh] at hb <;> simp [eqD, toNK, NestedKey.beq]
    exact (Bool.beq_eq_decide_eq _ _)
  | n, m, .str s, b, ha, hb => by
    cases b <;> simp [hsh] at hb <;> simp [eqD, toNK, NestedKey.beq]
    rename_i s'
    rw [Bool.beq_eq_decide_eq]
    refine decide_eq_decide.mpr ⟨fun e => by rw [e], tx_inj⟩
  | n, m, .tup ds, b, ha, hb => by
    cases b with
    | tup es =>
      cases n with
      | zero => simp [hsh] at ha
      | succ n =>
        cases m with
        | zero => simp [hsh] at hb
        | succ m =>
          simp only [hsh] at ha hb
          simp only [eqD, toNK, NestedKey.beq]
          exact eqDs_nk n m ds es ha hb
    | non => simp [eqD, toNK, NestedKey.beq]
    | int _ => simp [eqD, toNK, NestedKey.beq]
    | str _ => simp [eqD, toNK, NestedKey.beq]
    | bl _ => simp [hsh] at hb
    | lst _ => simp [hsh] at hb
    | loc _ => simp [hsh] at hb
    | fn _ => simp [hsh] at hb
    | scr _ => simp [hsh] at hb
  | n, m, .bl _, b, ha, hb => by simp [hsh] at ha
  | n, m, .lst _, b, ha, hb => by simp [hsh] at ha
  | n, m, .loc _, b, ha, hb => by simp [hsh] at ha
  | n, m, .fn _, b, ha, hb => by simp [hsh] at ha
  | n, m, .scr _, b, ha, hb => by simp [hsh] at ha
theorem eqDs_nk : ∀ (n m : Nat) (as bs : List D), hshs n as = true → hshs m bs = true → eqDs as bs = NestedKey.beqAll (toNKs as) (toNKs bs)
  | n, m, [], [], _, _ => by simp [eqDs, toNKs, NestedKey.beqAll]
  | n, m, [], _ :: _, _, _ => by simp [eqDs, toNKs, NestedKey.beqAll]
  | n, m, _ :: _, [], _, _ => by simp [eqDs, toNKs, NestedKey.beqAll]
  | n, m, a :: as, b :: bs, ha, hb => by
    simp only [hshs, Bool.and_eq_true] at ha hb
    simp only [eqDs, toNKs, NestedKey.beqAll]
    rw [eqD_nk n m a b ha.1 hb.1, eqDs_nk n m as bs ha.2 hb.2]
end
mutual
theorem depth_nk : ∀ (n : Nat) (a : D), hsh n a = true → (toNK a).depth ≤ n
  | n, .non, _ => by simp [toNK, NestedKey.depth]
  | n, .int _, _ => by simp [toNK, NestedKey.depth]
  | n, .str _, _ => by simp [toNK, NestedKey.depth]
  | 0, .tup ds, h => by simp [hsh] at h
  | n + 1, .tup ds, h => by
    simp only [hsh] at h
    simp only [toNK, NestedKey.depth]
    have := depths_nk n ds h
    omega
  | n, .bl _, h => by simp [hsh] at h
  | n, .lst _, h => by simp [hsh] at h
  | n, .loc _, h => by simp [hsh] at h
  | n, .fn _, h => by simp [hsh] at h
  | n, .scr _, h => by simp [hsh] at h
theorem depths_nk : ∀ (n : Nat) (a : List D), hshs n a = true → NestedKey.depthAll (toNKs a) ≤ n
  | n, [], _ => by simp [toNKs, NestedKey.depthAll]
  | n, d :: ds, h => by
    simp only [hshs, Bool.and_eq_true] at h
    simp only [toNKs, NestedKey.depthAll]
    have h1 := depth_nk n d h.1
    have h2 := depths_nk n ds h.2
    omega
end
theorem isKey_hsh {k : D} (h : isKey k = true) : hsh 7 k = true ∧ ∃ ds, k = .tup ds := by
  cases k with
  | tup ds => exact ⟨by simpa [isKey, hsh] using h, ds, rfl⟩
  | _ => simp [isKey] at h
theorem key_eq {a b : D} (ha : isKey a = true) (hb : isKey b = true) : eqD a b = decide (toNK a = toNK b) := by
  rw [eqD_nk 7 7 a b (isKey_hsh ha).1 (isKey_hsh hb).1, NestedKey.decide_eq]

section
variable {X : Cx} {B : Bx} {pins : List (Addr × Obj)} {σ : L2.St} {s : Shared} {W : Wo}
mutual
theorem nested_of (K : X.K = B.R.K) (I : Inv X pins σ W.H s) : ∀ (n : Nat) (d : D) (v : V) (u : Value), hsh n d = true → VR B.R W d v → RelV v u → NestedIs s.heap (toNK d) u
  | n, .non, _, _, _, .non, r => by cases r; exact .none
  | n, .int i, _, _, _, .int _, r => by obtain ⟨t, rfl⟩ := r; exact .int i t
  | n, .str z, _, _, _, .str _, r => by obtain ⟨t, rfl⟩ := r; exact .text _ t
  | 0, .tup ds, _, _, h, _, _ => by simp [hsh] at h
  | n + 1, .tup ds, _, _, h, .tup ta rs, r => by
    cases r
    simp only [hsh] at h
    obtain ⟨its, rv, ⟨o, e, c, m, hd⟩, _⟩ := I.tuple (by rw [K]; exact ta.sq)
    exact .tup e c hd (by simpa using nesteds_of K I n ds _ its h rs rv)
  | n, .bl _, _, _, h, _, _ => by simp [hsh] at h
  | n, .lst _, _, _, h, _, _ => by simp [hsh] at h
  | n, .loc _, _, _, h, _, _ => by simp [hsh] at h
  | n, .fn _, _, _, h, _, _ => by simp [hsh] at h
  | n, .scr _, _, _, h, _, _ => by simp [hsh] at h
theorem nesteds_of (K : X.K = B.R.K) (I : Inv X pins σ W.H s) : ∀ (n : Nat) (d : List D) (v : List V) (u : List Value), hshs n d = true → VRs B.R W d v → Vals v u → NestedAll s.heap (toNKs d) u
  | n, [], _, _, _, .nil, .nil => .nil
  | n, d :: ds, _, _, h, .cons r rs, .cons q qs => by
    simp only [hshs, Bool.and_eq_true] at h
    exact .cons (nested_of K I n d _ _ h.1 r q) (nesteds_of K I n ds _ _ h.2 rs qs)
end
abbrev kn (B : Bx) := nestedKind B.R.P B.R.w
theorem key_is (K : X.K = B.R.K) (I : Inv X pins σ W.H s) {k : D} {a : Addr} (hk : isKey k = true) (r : VR B.R W k (.ref a)) : (kn B).is s.heap (toNK k) a :=
  ⟨nested_of K I 7 k (.ref a) _ (isKey_hsh hk).1 r rfl, by have := depth_nk 7 k (isKey_hsh hk).1; omega⟩
theorem key_ref {k : D} {v : V} (hk : isKey k = true) (r : VR B.R W k v) : ∃ a, v = .ref a := by
  obtain ⟨_, ds, rfl⟩ := isKey_hsh hk
  cases r
  exact ⟨_, rfl⟩
theorem keys_is (K : X.K = B.R.K) (I : Inv X pins σ W.H s) : ∀ {kvs : List (D × D)} {es : List (NestedKey × Addr × Value)}, KKs B.R W kvs es → ∀ x ∈ es, (kn B).is s.heap x.1 x.2.1
  | _, _, .nil, _, hx => by cases hx
  | _, _, .cons r t, x, hx => by
    rcases List.mem_cons.mp hx with e | hx
    · subst e
      rw [r.2.1]
      exact key_is K I r.1 r.2.2.1
    · exact keys_is K I t x hx
/-- the dict at a as the library has it -/
theorem kd_at (K : X.K = B.R.K) (hP : X.prog = B.R.P) (hw : X.w = B.R.w) (I : Inv X pins σ W.H s) {a : Addr} {kvs : List (D × D)} {es : List (NestedKey × Addr × Value)} (e : Rd W.H a (.ext (KDo B.R a es))) (r : KKs B.R W kvs es) :
    s.heap.DictOfH (kn B) a es ∧ (a == sysModules) = false := by
  have q : ObjOk X.prog X.w W.H s.heap a (.ext (KDo B.R a es)) := e.ok I.hok
  obtain ⟨⟨o, ep, tb, h1, h2, h3, h4, h5, h6⟩, _, _⟩ := q
  exact ⟨⟨o, tb, ep, h1, h2, h3, h4, keys_is K I r, h5⟩, h6⟩
theorem kd_get : ∀ {kvs : List (D × D)} {es : List (NestedKey × Addr × Value)} {k : D}, isKey k = true → KKs B.R W kvs es →
    (kget kvs k = none ∧ atKey es (toNK k) = none) ∨ ∃ d p v, kget kvs k = some d ∧ atKey es (toNK k) = some p ∧ RelV v p.2 ∧ VR B.R W d v
  | _, _, k, hk, .nil => .inl ⟨rfl, rfl⟩
  | _, _, k, hk, .cons (a := p) (b := q) (l₁ := kvs) (l₂ := es) r t => by
    have ek : eqD p.1 k = decide (q.1 = toNK k) := by rw [key_eq r.1 hk, r.2.1]
    by_cases h : q.1 = toNK k
    · refine .inr ?_
      obtain ⟨v, r1, r2⟩ := r.2.2.2
      refine ⟨p.2, q.2, v, ?_, ?_, r1, r2⟩
      · simp [kget, List.find?_cons, ek, h]
      · simp [atKey, List.find?_cons, h]
    · have e1 : kget ((p.1, p.2) :: kvs) k = kget kvs k := by simp [kget, List.find?_cons, ek, h]
      have e2 : atKey ((q.1, q.2.1, q.2.2) :: es) (toNK k) = atKey es (toNK k) := by simp [atKey, List.find?_cons, h]
      have := kd_get hk t
      rw [show (p :: kvs) = ((p.1, p.2) :: kvs) from rfl, e1, show (q :: es) = ((q.1, q.2.1, q.2.2) :: es) from rfl, e2]
      exact this
end
end Mi

set_option linter.all false
set_option maxRecDepth 100000
set_option maxHeartbeats 2000000
namespace Mi
open PySem PySem.Spec PyProof.Rows L2
/-! ## rules: operators by values -/
theorem Room.u {X : Cx} {B : Bx} (x : XOk X B) : X.A.units + 216 < cLine := by have := x.room.un; omega
/-- the reading of an operator on two values -/
def rD2 (B : Bx) (g : Hm → D → D → Option D) : R2 := fun v1 v2 H Q => ∃ W h d1 d2, W.H = H ∧ HR B.R W h ∧ VR B.R W d1 v1 ∧ VR B.R W d2 v2 ∧ onSome (g h d1 d2) fun d => PQ B.R W Q d h
section
variable {X : Cx} {B : Bx} {pos : Pos}
theorem s_op (x : XOk X B) {a b : Expr} {op : Operator} {o : Op} {ea eb : E} (ho : OpR X (binaryOp op) (rD2 B fun h => opD h o)) (ha : PE X a (tE B ea)) (hb : PE X b (tE B eb)) : PE X (.BinOp a op b pos) (tE B (.op o ea eb)) :=
  (pe_op ho ha hb).impW fun σ H Q ⟨W, σd, h, e, hr, w⟩ => by
    subst e
    simp only [wpE] at w
    refine step1 x hr w fun d1 h1 W1 v1 w l1 hr1 r1 => ?_
    refine step1 x hr1 w fun d2 h2 W2 v2 w l2 hr2 r2 => ?_
    exact ⟨W2, h2, d1, d2, rfl, hr2.hr, r1.mono l2.toLw, r2, onSome_mono (fun d w => w.le (l1.trans l2)) w⟩
theorem new_tup {R : Wr} {W : Wo} {h : Hm} {Q : VK} {ds : List D} {vs : List V} {p : Addr} (q : PQ R W Q (.tup ds) h) (hr : HR R W h) (rs : VRs R W ds vs) (hp : W.H p = none) : Q (.ref p) (upd W.H p (.tup vs)) := by
  have lf := Le.fresh (o := .tup vs) hr hp
  exact q (W.at_ (upd W.H p (.tup vs))) (.ref p) lf (hr.fresh hp) (.tup (.inl ⟨hr.notin hp, hr.notinx hp, upd_same⟩) (rs.mono lf.toLw))
theorem new_lstv {R : Wr} {W : Wo} {h : Hm} {Q : VK} {ds : List D} {vs : List V} {p : Addr} (q : PQ R W Q (.lst ds) h) (hr : HR R W h) (rs : VRs R W ds vs) (hp : W.H p = none) : Q (.ref p) (upd W.H p (.lst vs)) := by
  have lf := Le.fresh (o := .lst vs) hr hp
  exact q (W.at_ (upd W.H p (.lst vs))) (.ref p) lf (hr.fresh hp) (.lst ⟨hr.notin hp, hr.notinx hp, upd_same⟩ (rs.mono lf.toLw))
theorem VR.intd {R W d} {i : Int} (r : VR R W d (.int i)) : d = .int i := by cases r; rfl
theorem lim_le {n : Nat} (h : n ≤ lim) : n ≤ sizeLine := Nat.le_trans h lim_line
theorem sq_of {X : Cx} {B : Bx} {W : Wo} {a xs} (x : XOk X B) (t : TupAt B.R W a xs) : SqT X.K W.H a xs := by rw [x.K]; exact t.sq
theorem r_add (x : XOk X B) : OpR X (binaryOp .Add) (rD2 B fun h => opD h .add) := by
  intro pins s σ H v1 v2 u1 u2 Q I q1 q2 ⟨W, h, d1, d2, e, hr, r1, r2, d, ed, q⟩
  subst e
  cases r1 <;> cases r2 <;> simp only [opD] at ed <;> try contradiction
  · cases ed; exact op_add pins s σ _ _ _ _ _ Q I q1 q2 ⟨_, _, rfl, rfl, q.here hr (.int _)⟩
  · split at ed
    · cases ed
      rename_i z1 z2 hz
      exact op_add_str pins s σ _ _ _ _ _ Q I q1 q2 ⟨_, _, rfl, rfl, by rw [tx_len, tx_len]; exact lim_le hz, by rw [tx_app]; exact q.here hr (.str _)⟩
    · cases ed
  · split at ed
    · cases ed
      rename_i a1 xs1 ds1 t1 rs1 a2 xs2 ds2 t2 rs2 hz
      refine op_catA pins s σ _ _ _ _ _ Q I q1 q2 ⟨a1, a2, xs1, xs2, rfl, rfl, sq_of x t1, sq_of x t2, by rw [← rs1.length, ← rs2.length]; exact lim_le hz, fun e1 => ?_, fun e1 e2 => ?_, fun _ _ p hp => new_tup q hr (rs1.append rs2) hp⟩
      · subst e1
        cases rs1
        exact q.here hr (.tup t2 rs2)
      · subst e2
        cases rs2
        rw [List.append_nil] at q
        exact q.here hr (.tup t1 rs1)
    · cases ed
theorem r_sub : OpR X (binaryOp .Sub) (rD2 B fun h => opD h .sub) := by
  intro pins s σ H v1 v2 u1 u2 Q I q1 q2 ⟨W, h, d1, d2, e, hr, r1, r2, d, ed, q⟩
  subst e
  cases r1 <;> cases r2 <;> simp only [opD] at ed <;> try contradiction
  cases ed; exact op_sub pins s σ _ _ _ _ _ Q I q1 q2 ⟨_, _, rfl, rfl, q.here hr (.int _)⟩
theorem flat_rep (n : Nat) (z : List Nat) : (⟨(List.replicate n (tx z).cps).foldl (· ++ ·) #[]⟩ : Str) = tx (List.replicate n z).flatten := by
  have : ∀ (n : Nat) (acc : Array Nat), (List.replicate n (tx z).cps).foldl (· ++ ·) acc = (acc.toList ++ (List.replicate n z).flatten).toArray := by
    intro n
    induction n with
    | zero => intro acc; simp
    | succ n ih =>
      intro acc
      rw [List.replicate_succ, List.foldl_cons, ih]
      simp [tx, List.replicate_succ]
  rw [this]
  simp [tx]
theorem r_mul : OpR X (binaryOp .Mult) (rD2 B fun h => opD h .mul) := by
  intro pins s σ H v1 v2 u1 u2 Q I q1 q2 ⟨W, h, d1, d2, e, hr, r1, r2, d, ed, q⟩
  subst e
  cases r1 <;> cases r2 <;> simp only [opD] at ed <;> try contradiction
  · rename_i i j
    split at ed
    · rename_i hc
      cases ed
      simp only [Bool.or_eq_true, small, decide_eq_true_eq] at hc
      rcases hc with (hc | hc) | hc
      · exact op_mul pins s σ _ _ _ _ _ Q I q1 q2 ⟨_, _, rfl, rfl, .inl ⟨by omega, by omega⟩, q.here hr (.int _)⟩
      · exact op_mul pins s σ _ _ _ _ _ Q I q1 q2 ⟨_, _, rfl, rfl, .inr ⟨by omega, by omega⟩, q.here hr (.int _)⟩
      · exact op_mulW pins s σ _ _ _ _ _ Q I q1 q2 ⟨_, _, rfl, rfl, wide_mul hc.1 hc.2 (by decide) (by decide) (by decide), q.here hr (.int _)⟩
    · cases ed
  · rename_i z j
    split at ed
    · rename_i hc
      cases ed
      obtain ⟨t1, rfl⟩ := q1
      obtain ⟨t2, rfl⟩ := q2
      have hl : (tx z).length = z.length := tx_len z
      refine PySem.P.mul_str ?_ (fun h1 _ => ?_) (fun h1 _ => ?_) ?_
      · have h1 : ¬ j < -(2 ^ 63 : Int) := by omega
        have h2 : ¬ j ≥ 2 ^ 63 := by omega
        rw [decide_eq_false h1, decide_eq_false h2]; rfl
      · rw [hl]
        have h3 : (1000000 : Int) ≤ (2 ^ 63 - 1) / j := (Int.le_ediv_iff_mul_le (by omega)).mpr (by omega)
        omega
      · rw [hl]
        have h3 : z.length * j.toNat ≤ 1000 * 1000 := Nat.mul_le_mul hc.2.2 (by omega)
        unfold Builtin.Str.tooLong
        apply decide_eq_false
        rw [sizeLine_eq]
        omega
      · by_cases h1 : j < 1
        · rw [if_pos h1]
          have : j.toNat = 0 := by omega
          rw [this] at q
          exact ⟨by decide, ⟨.str (tx []), _, I.tok _, ⟨_, rfl⟩, q.here hr (.str _)⟩⟩
        · rw [if_neg h1]
          split
          · rename_i hb
            simp only [Bool.or_eq_true, beq_iff_eq] at hb
            have e0 : (List.replicate j.toNat z).flatten = z := by
              rcases hb with hb | hb
              · have : j.toNat = 1 := by omega
                rw [this]; simp
              · rw [hl] at hb
                have : z = [] := List.length_eq_zero_iff.mp hb
                subst this
                simp
            rw [e0] at q
            exact ⟨.str (tx z), _, I, ⟨_, rfl⟩, q.here hr (.str z)⟩
          · rw [flat_rep]
            have h3 : z.length * j.toNat ≤ 1000 * 1000 := Nat.mul_le_mul hc.2.2 (by omega)
            refine ⟨?_, ⟨.str (tx (List.replicate j.toNat z).flatten), _, I.tok _, ⟨_, rfl⟩, q.here hr (.str _)⟩⟩
            rw [tx_len, List.length_flatten]
            simp only [List.map_replicate, List.sum_replicate_nat]
            rw [sizeLine_eq]
            have := Nat.mul_comm z.length j.toNat
            omega
    · cases ed
theorem r_fdiv : OpR X (binaryOp .FloorDiv) (rD2 B fun h => opD h .fdiv) := by
  intro pins s σ H v1 v2 u1 u2 Q I q1 q2 ⟨W, h, d1, d2, e, hr, r1, r2, d, ed, q⟩
  subst e
  cases r1 <;> cases r2 <;> simp only [opD] at ed <;> try contradiction
  split at ed
  · rename_i hc
    cases ed
    exact op_fdiv pins s σ _ _ _ _ _ Q I q1 q2 ⟨_, _, rfl, rfl, hc, q.here hr (.int _)⟩
  · cases ed
theorem r_mod : OpR X (binaryOp .Mod) (rD2 B fun h => opD h .mod) := by
  intro pins s σ H v1 v2 u1 u2 Q I q1 q2 ⟨W, h, d1, d2, e, hr, r1, r2, d, ed, q⟩
  subst e
  cases r1 <;> cases r2 <;> simp only [opD] at ed <;> try contradiction
  split at ed
  · rename_i hc
    cases ed
    exact op_mod pins s σ _ _ _ _ _ Q I q1 q2 ⟨_, _, rfl, rfl, hc, q.here hr (.int _)⟩
  · cases ed
theorem r_pow : OpR X (binaryOp .Pow) (rD2 B fun h => opD h .pow) := by
  intro pins s σ H v1 v2 u1 u2 Q I q1 q2 ⟨W, h, d1, d2, e, hr, r1, r2, d, ed, q⟩
  subst e
  cases r1 <;> cases r2 <;> simp only [opD] at ed <;> try contradiction
  split at ed
  · rename_i i j hc
    cases ed
    simp only [small, decide_eq_true_eq] at hc
    exact op_pow pins s σ _ _ _ _ _ Q I q1 q2 ⟨_, _, rfl, rfl, ⟨hc.1, by omega, by omega⟩, q.here hr (.int _)⟩
  · cases ed
theorem r_op (x : XOk X B) : ∀ o : Op, OpR X (binaryOp (match o with | .add => .Add | .sub => .Sub | .mul => .Mult | .fdiv => .FloorDiv | .mod => .Mod | .pow => .Pow)) (rD2 B fun h => opD h o)
  | .add => r_add x
  | .sub => r_sub
  | .mul => r_mul
  | .fdiv => r_fdiv
  | .mod => r_mod
  | .pow => r_pow

/-! ### lists made by operators -/
theorem lst_at {R : Wr} {W : Wo} {h : Hm} {d : D} {v : V} {xs : List D} (hr : HR R W h) (r : VR R W d v) (e : lstOf h d = some xs) : ∃ a vs, v = .ref a ∧ W.H a = some (.lst vs) ∧ VRs R W xs vs := by
  cases r <;> simp only [lstOf] at e <;> try contradiction
  · rename_i a ys ds q rs
    cases e
    exact ⟨a, ys, rfl, q.2.2, rs⟩
  · rename_i n a hn
    split at e
    · rename_i ds hd
      cases e
      obtain ⟨hu, e1, ys, e2, rs⟩ := hr.loc hn hd
      exact ⟨a, ys, rfl, by rw [e1, e2], rs⟩
    · cases e
def rF2 (B : Bx) (g : Hm → D → D → Option (List D)) : R2 := fun v1 v2 H Q => ∃ W0 W h d1 d2, W.H = H ∧ Le W0 W ∧ HR B.R W h ∧ VR B.R W d1 v1 ∧ VR B.R W d2 v2 ∧ onSome (g h d1 d2) fun ds => PQF B.R W0 Q (.lst ds) h
theorem f_opl (x : XOk X B) {a b : Expr} {op : Operator} {o : Op} {ea eb : E} (ho : OpR X (binaryOp op) (rF2 B fun h => opL h o)) (ha : PE X a (tE B ea)) (hb : PE X b (tE B eb)) : PE X (.BinOp a op b pos) (tF B (.opl o ea eb)) :=
  (pe_op ho ha hb).impW fun σ H Q ⟨W, σd, h, e, hr, w⟩ => by
    subst e
    simp only [wpE] at w
    refine step1 x hr w fun d1 h1 W1 v1 w l1 hr1 r1 => ?_
    refine step1 x hr1 w fun d2 h2 W2 v2 w l2 hr2 r2 => ?_
    exact ⟨W, W2, h2, d1, d2, rfl, l1.trans l2, hr2.hr, r1.mono l2.toLw, r2, w⟩
theorem r_cat : OpR X (binaryOp .Add) (rF2 B fun h => opL h .add) := by
  intro pins s σ H v1 v2 u1 u2 Q I q1 q2 ⟨W0, W, h, d1, d2, e, l, hr, r1, r2, d, ed, q⟩
  subst e
  simp only [opL] at ed
  cases e1 : lstOf h d1 with
  | none => rw [e1] at ed; cases ed
  | some xs =>
    cases e2 : lstOf h d2 with
    | none => rw [e1, e2] at ed; cases ed
    | some ys =>
      rw [e1, e2] at ed
      dsimp only at ed
      split at ed
      · rename_i hz
        cases ed
        obtain ⟨a, vs, rfl, h1, rs1⟩ := lst_at hr r1 e1
        obtain ⟨b, ws, rfl, h2, rs2⟩ := lst_at hr r2 e2
        obtain ⟨ds, eds, q⟩ := q
        cases eds
        exact op_cat pins s σ _ _ _ _ _ Q I q1 q2 ⟨a, b, vs, ws, rfl, rfl, h1, h2, by rw [← rs1.length, ← rs2.length]; exact lim_le hz, fun p hp => new_lst q l hr (rs1.append rs2) hp⟩
      · cases ed
theorem VRs.rep {R W} {ds : List D} {vs : List V} (r : VRs R W ds vs) : ∀ n, VRs R W (List.replicate n ds).flatten (List.replicate n vs).flatten
  | 0 => by simpa using VRs.nil
  | n + 1 => by
    rw [List.replicate_succ, List.replicate_succ, List.flatten_cons, List.flatten_cons]
    exact r.append (VRs.rep r n)
theorem r_rep : OpR X (binaryOp .Mult) (rF2 B fun h => opL h .mul) := by
  intro pins s σ H v1 v2 u1 u2 Q I q1 q2 ⟨W0, W, h, d1, d2, e, l, hr, r1, r2, d, ed, q⟩
  subst e
  cases r2 <;> simp only [opL] at ed <;> try contradiction
  rename_i j
  cases e1 : lstOf h d1 with
  | none => rw [e1] at ed; cases ed
  | some xs =>
    rw [e1] at ed
    dsimp only at ed
    split at ed
    · rename_i hz
      cases ed
      obtain ⟨a, vs, rfl, h1, rs1⟩ := lst_at hr r1 e1
      obtain ⟨ds, eds, q⟩ := q
      cases eds
      have hl := rs1.length
      exact op_rep pins s σ _ _ _ _ _ Q I q1 q2 ⟨a, j, vs, rfl, rfl, h1, by omega, by omega, by
        have : vs.length * j.toNat ≤ 1000 * 1000 := Nat.mul_le_mul (by omega) (by omega)
        rw [sizeLine_eq]; omega, fun p hp => new_lst q l hr (rs1.rep _) hp⟩
    · cases ed
end
end Mi

set_option linter.all false
set_option maxRecDepth 100000
set_option maxHeartbeats 2000000
namespace Mi
open PySem PySem.Spec PyProof.Rows L2
/-! ## rules: comparisons, subscripts -/
mutual
def toP : D → PyData
  | .bl b => .bool b
  | .int i => .int i
  | .str s => .str (tx s)
  | .tup ds => .tuple (toPs ds)
  | .lst ds => .list (toPs ds)
  | _ => .none
def toPs : List D → List PyData
  | [] => []
  | d :: ds => toP d :: toPs ds
end
mutual
theorem eqv_P : ∀ (n m : Nat) (a b : D), flat n a = true → flat m b = true → eqD a b = PyData.eqv (toP a) (toP b)
  | n, m, .non, b, ha, hb => by cases b <;> simp [flat] at hb <;> simp [eqD, toP, PyData.eqv]
  | n, m, .bl x, b, ha, hb => by cases b <;> simp [flat] at hb <;> simp [eqD, toP, PyData.eqv]
  | n, m, .int x, b, ha, hb => by cases b <;> simp [flat] at hb <;> simp [eqD, toP, PyData.eqv]
  | n, m, .str x, b, ha, hb => by
    cases b <;> simp [flat] at hb <;> simp [eqD, toP, PyData.eqv]
    rename_i y
    rw [Bool.eq_iff_iff]
    simp only [beq_iff_eq]
    exact ⟨fun e => by rw [e], tx_inj⟩
  | n, m, .tup x, b, ha, hb => by
    cases b with
    | tup y =>
      cases n with
      | zero => simp [flat] at ha
      | succ n =>
        cases m with
        | zero => simp [flat] at hb
        | succ m =>
          simp only [flat] at ha hb
          simp only [eqD, toP, PyData.eqv]
          exact eqv_Ps n m x y ha hb
    | non => simp [eqD, toP, PyData.eqv]
    | bl _ => simp [eqD, toP, PyData.eqv]
    | int _ => simp [eqD, toP, PyData.eqv]
    | str _ => simp [eqD, toP, PyData.eqv]
    | lst _ => simp [eqD, toP, PyData.eqv]
    | loc _ => simp [flat] at hb
    | fn _ => simp [flat] at hb
    | scr _ => simp [flat] at hb
  | n, m, .lst x, b, ha, hb => by
    cases b with
    | lst y =>
      cases n with
      | zero => simp [flat] at ha
      | succ n =>
        cases m with
        | zero => simp [flat] at hb
        | succ m =>
          simp only [flat] at ha hb
          simp only [eqD, toP, PyData.eqv]
          exact eqv_Ps n m x y ha hb
    | non => simp [eqD, toP, PyData.eqv]
    | bl _ => simp [eqD, toP, PyData.eqv]
    | int _ => simp [eqD, toP, PyData.eqv]
    | str _ => simp [eqD, toP, PyData.eqv]
    | tup _ => simp [eqD, toP, PyData.eqv]
    | loc _ => simp [flat] at hb
    | fn _ => simp [flat] at hb
    | scr _ => simp [flat] at hb
  | n, m, .loc _, b, ha, hb => by simp [flat] at ha
  | n, m, .fn _, b, ha, hb => by simp [flat] at ha
  | n, m, .scr _, b, ha, hb => by simp [flat] at ha
theorem eqv_Ps : ∀ (n m : Nat) (as bs : List D), flats n as = true → flats m bs = true → eqDs as bs = PyData.eqvAll (toPs as) (toPs bs)
  | n, m, [], [], _, _ => by simp [eqDs, toPs, PyData.eqvAll]
  | n, m, [], _ :: _, _, _ => by simp [eqDs, toPs, PyData.eqvAll]
  | n, m, _ :: _, [], _, _ => by simp [eqDs, toPs, PyData.eqvAll]
  | n, m, a :: as, b :: bs, ha, hb => by
    simp only [flats, Bool.and_eq_true] at ha hb
    simp only [eqDs, toPs, PyData.eqvAll]
    rw [eqv_P n m a b ha.1 hb.1, eqv_Ps n m as bs ha.2 hb.2]
end
mutual
theorem shp : ∀ (n : Nat) (a : D), flat n a = true → (toP a).canLay0 = true ∧ (toP a).depth ≤ n
  | n, .non, h => by simp [toP, PyData.canLay0, PyData.depth]
  | n, .bl _, h => by simp [toP, PyData.canLay0, PyData.depth]
  | n, .int _, h => by simp [toP, PyData.canLay0, PyData.depth]
  | n, .str s, h => by
    simp only [flat] at h
    refine ⟨?_, by simp [toP, PyData.depth]⟩
    simp only [toP, PyData.canLay0, PyData.strOk, tx]
    simpa [Array.all_eq_true_iff_forall_mem] using h
  | 0, .tup _, h => by simp [flat] at h
  | n + 1, .tup ds, h => by
    simp only [flat] at h
    have := shps n ds h
    simp only [toP, PyData.canLay0, PyData.depth]
    exact ⟨this.1, by omega⟩
  | 0, .lst _, h => by simp [flat] at h
  | n + 1, .lst ds, h => by
    simp only [flat] at h
    have := shps n ds h
    simp only [toP, PyData.canLay0, PyData.depth]
    exact ⟨this.1, by omega⟩
  | n, .loc _, h => by simp [flat] at h
  | n, .fn _, h => by simp [flat] at h
  | n, .scr _, h => by simp [flat] at h
theorem shps : ∀ (n : Nat) (a : List D), flats n a = true → PyData.canLayAll0 (toPs a) = true ∧ PyData.depthAll (toPs a) ≤ n
  | n, [], _ => by simp [toPs, PyData.canLayAll0, PyData.depthAll]
  | n, d :: ds, h => by
    simp only [flats, Bool.and_eq_true] at h
    have h1 := shp n d h.1
    have h2 := shps n ds h.2
    simp only [toPs, PyData.canLayAll0, PyData.depthAll, Bool.and_eq_true]
    exact ⟨⟨h1.1, h2.1⟩, by omega⟩
end
theorem shaped_of {n : Nat} {a : D} (h : flat n a = true) (hn : n ≤ 60) : SeqAt.shaped (toP a) = true := by
  have := shp n a h
  unfold SeqAt.shaped
  rw [this.1, decide_eq_true (by omega)]
  rfl
section
variable {X : Cx} {B : Bx} {pos : Pos}
mutual
theorem dp_of (x : XOk X B) {W : Wo} : ∀ (n : Nat) (d : D) (v : V), flat n d = true → VR B.R W d v → Dp X.K W.H v (toP d)
  | n, .non, _, _, .non => .non
  | n, .bl b, _, _, .bl _ => .bl b
  | n, .int i, _, _, .int _ => .int i
  | n, .str s, _, _, .str _ => .str _
  | 0, .tup _, _, h, _ => by simp [flat] at h
  | n + 1, .tup ds, _, h, .tup t rs => by
    simp only [flat] at h
    exact .tup (sq_of x t) (dps_of x n ds _ h rs)
  | 0, .lst _, _, h, _ => by simp [flat] at h
  | n + 1, .lst ds, _, h, .lst q rs => by
    simp only [flat] at h
    exact .lst (.inl (.inl q.2.2)) (dps_of x n ds _ h rs)
  | n, .loc _, _, h, _ => by simp [flat] at h
  | n, .fn _, _, h, _ => by simp [flat] at h
  | n, .scr _, _, h, _ => by simp [flat] at h
theorem dps_of (x : XOk X B) {W : Wo} : ∀ (n : Nat) (d : List D) (v : List V), flats n d = true → VRs B.R W d v → DpAll X.K W.H v (toPs d)
  | n, [], _, _, .nil => .nil
  | n, d :: ds, _, h, .cons r rs => by
    simp only [flats, Bool.and_eq_true] at h
    exact .cons (dp_of x n d _ h.1 r) (dps_of x n ds _ h.2 rs)
end
theorem dps_int (K : PySem.W.Frag) (H : Hp) : ∀ ns : List Int, DpAll K H (ns.map V.int) (toPs (ns.map D.int))
  | [] => .nil
  | n :: ns => .cons (.int n) (dps_int K H ns)
theorem scr_of {R : Wr} {W : Wo} {a xs} (x : XOk X B) (t : ScrAt B.R W a xs) : SqL X.K W.H a xs := by rw [x.K]; exact t.sq
/-- .. an object by its items -/
theorem dpd (x : XOk X B) {W : Wo} {h : Hm} (hr : HR B.R W h) {d : D} {v : V} (r : VR B.R W d v) (hf : flat 20 (deref h d) = true) : Dp X.K W.H v (toP (deref h d)) := by
  cases r with
  | loc e =>
    rename_i n a
    unfold deref at hf ⊢
    dsimp only at hf ⊢
    split at hf
    · rename_i ds hd
      obtain ⟨hu, e1, ys, e2, rs⟩ := hr.loc e hd
      simp only [flat] at hf
      exact .lst (.inl (.inl (by rw [e1, e2]))) (dps_of x 19 ds _ hf rs)
    · simp [flat] at hf
  | scr t => exact .lst (scr_of (R := B.R) x t) (dps_int _ _ _)
  | non => exact dp_of x 20 _ _ hf .non
  | bl b => exact dp_of x 20 _ _ hf (.bl b)
  | int b => exact dp_of x 20 _ _ hf (.int b)
  | str b => exact dp_of x 20 _ _ hf (.str b)
  | tup t rs => exact dp_of x 20 _ _ hf (.tup t rs)
  | lst t rs => exact dp_of x 20 _ _ hf (.lst t rs)
  | fn f => simp [deref, flat] at hf
abbrev cmR (B : Bx) (o : Cm) : R2 := rD2 B fun h d1 d2 => (cmB h o d1 d2).map .bl
theorem s_cmp (x : XOk X B) {a b : Expr} {op : CmpOp} {o : Cm} {ea eb : E} (ho : OpR X (compareOp op) (cmR B o)) (ha : PE X a (tE B ea)) (hb : PE X b (tE B eb)) (hm : behindInMarks op b = false) : PE X (.Compare a [op] [b] pos) (tE B (.cmp o ea eb)) :=
  (pe_cmpR ho ha hb hm).impW fun σ H Q ⟨W, σd, h, e, hr, w⟩ => by
    subst e
    simp only [wpE] at w
    refine step1 x hr w fun d1 h1 W1 v1 w l1 hr1 r1 => ?_
    refine step1 x hr1 w fun d2 h2 W2 v2 w l2 hr2 r2 => ?_
    obtain ⟨c, e, w⟩ := w
    exact ⟨W2, h2, d1, d2, rfl, hr2.hr, r1.mono l2.toLw, r2, .bl c, by dsimp only; rw [e]; rfl, w.le (l1.trans l2)⟩
theorem t_cmp (x : XOk X B) {a b : Expr} {op : CmpOp} {o : Cm} {ea eb : E} (ho : OpR X (compareOp op) (cmR B o)) (ha : PE X a (tE B ea)) (hb : PE X b (tE B eb)) (hm : behindInMarks op b = false) : PT X (.Compare a [op] [b] pos) (tT B (.cmp o ea eb)) :=
  (pt_cmpR ho ha hb hm).impW fun σ H Q ⟨W, σd, h, e, hr, w⟩ => by
    subst e
    simp only [wpE] at w
    refine step1 x hr w fun d1 h1 W1 v1 w l1 hr1 r1 => ?_
    refine step1 x hr1 w fun d2 h2 W2 v2 w l2 hr2 r2 => ?_
    obtain ⟨c, e, w⟩ := w
    refine ⟨W2, h2, d1, d2, rfl, hr2.hr, r1.mono l2.toLw, r2, .bl c, by dsimp only; rw [e]; rfl, fun W3 v l3 hr3 r3 => ?_⟩
    cases r3
    obtain ⟨b, e, q⟩ := w W3 ((l1.trans l2).trans l3) hr3
    cases e
    exact ⟨_, rfl, q⟩
theorem c_eq (x : XOk X B) : OpR X (compareOp .Eq) (cmR B .eq) := by
  intro pins s σ H v1 v2 u1 u2 Q I q1 q2 ⟨W, h, d1, d2, e, hr, r1, r2, d, ed, q⟩
  subst e
  simp only [cmB, eqQ] at ed
  split at ed
  · rename_i hf
    cases ed
    simp only [Bool.and_eq_true] at hf
    refine op_eqD (by have := x.room.un; omega) pins s σ _ _ _ _ _ Q I q1 q2 ⟨_, _, dpd x hr r1 hf.1, dpd x hr r2 hf.2, shaped_of hf.1 (by omega), shaped_of hf.2 (by omega), ?_⟩
    rw [← eqv_P 20 20 _ _ hf.1 hf.2]
    exact q.here hr (.bl _)
  · cases ed
theorem c_ne (x : XOk X B) : OpR X (compareOp .NotEq) (cmR B .ne) := by
  intro pins s σ H v1 v2 u1 u2 Q I q1 q2 ⟨W, h, d1, d2, e, hr, r1, r2, d, ed, q⟩
  subst e
  simp only [cmB, eqQ] at ed
  split at ed
  · rename_i hf
    cases ed
    simp only [Bool.and_eq_true] at hf
    refine op_neD (by have := x.room.un; omega) pins s σ _ _ _ _ _ Q I q1 q2 ⟨_, _, dpd x hr r1 hf.1, dpd x hr r2 hf.2, shaped_of hf.1 (by omega), shaped_of hf.2 (by omega), ?_⟩
    rw [← eqv_P 20 20 _ _ hf.1 hf.2]
    exact q.here hr (.bl _)
  · cases ed
theorem c_lt : OpR X (compareOp .Lt) (cmR B .lt) := by
  intro pins s σ H v1 v2 u1 u2 Q I q1 q2 ⟨W, h, d1, d2, e, hr, r1, r2, d, ed, q⟩
  subst e
  cases r1 <;> cases r2 <;> simp only [cmB] at ed <;> try contradiction
  cases ed; exact op_lt pins s σ _ _ _ _ _ Q I q1 q2 ⟨_, _, rfl, rfl, q.here hr (.bl _)⟩
theorem c_le : OpR X (compareOp .LtE) (cmR B .le) := by
  intro pins s σ H v1 v2 u1 u2 Q I q1 q2 ⟨W, h, d1, d2, e, hr, r1, r2, d, ed, q⟩
  subst e
  cases r1 <;> cases r2 <;> simp only [cmB] at ed <;> try contradiction
  cases ed; exact op_le pins s σ _ _ _ _ _ Q I q1 q2 ⟨_, _, rfl, rfl, q.here hr (.bl _)⟩
theorem c_gt : OpR X (compareOp .Gt) (cmR B .gt) := by
  intro pins s σ H v1 v2 u1 u2 Q I q1 q2 ⟨W, h, d1, d2, e, hr, r1, r2, d, ed, q⟩
  subst e
  cases r1 <;> cases r2 <;> simp only [cmB] at ed <;> try contradiction
  cases ed; exact op_gt pins s σ _ _ _ _ _ Q I q1 q2 ⟨_, _, rfl, rfl, q.here hr (.bl _)⟩
theorem c_ge : OpR X (compareOp .GtE) (cmR B .ge) := by
  intro pins s σ H v1 v2 u1 u2 Q I q1 q2 ⟨W, h, d1, d2, e, hr, r1, r2, d, ed, q⟩
  subst e
  cases r1 <;> cases r2 <;> simp only [cmB] at ed <;> try contradiction
  cases ed; exact op_ge pins s σ _ _ _ _ _ Q I q1 q2 ⟨_, _, rfl, rfl, q.here hr (.bl _)⟩
theorem c_is : OpR X (compareOp .Is) (cmR B .is_) := by
  intro pins s σ H v1 v2 u1 u2 Q I q1 q2 ⟨W, h, d1, d2, e, hr, r1, r2, d, ed, q⟩
  subst e
  cases r2 with
  | non =>
    cases r1 <;> simp only [cmB] at ed <;> cases ed <;> exact op_isN pins s σ _ _ _ _ _ Q I q1 q2 ⟨rfl, q.here hr (.bl _)⟩
  | bl b =>
    cases r1 <;> simp only [cmB] at ed <;> try contradiction
    cases ed
    exact op_is_bl pins s σ _ _ _ _ _ Q I q1 q2 ⟨_, _, rfl, rfl, by rw [← Bool.beq_eq_decide_eq]; exact q.here hr (.bl _)⟩
  | _ => cases r1 <;> simp only [cmB] at ed <;> contradiction
theorem c_isnt : OpR X (compareOp .IsNot) (cmR B .isnt) := by
  intro pins s σ H v1 v2 u1 u2 Q I q1 q2 ⟨W, h, d1, d2, e, hr, r1, r2, d, ed, q⟩
  subst e
  cases r2 with
  | non =>
    cases r1 <;> simp only [cmB] at ed <;> cases ed <;> exact op_notN pins s σ _ _ _ _ _ Q I q1 q2 ⟨rfl, q.here hr (.bl _)⟩
  | bl b =>
    cases r1 <;> simp only [cmB] at ed <;> try contradiction
    cases ed
    exact op_isnot_bl pins s σ _ _ _ _ _ Q I q1 q2 ⟨_, _, rfl, rfl, by rw [← Bool.beq_eq_decide_eq]; exact q.here hr (.bl _)⟩
  | _ => cases r1 <;> simp only [cmB] at ed <;> contradiction
end
end Mi

set_option linter.all false
set_option maxRecDepth 100000
set_option maxHeartbeats 2000000
namespace Mi
open PySem PySem.Spec PyProof.Rows L2
/-! ## rules: in, tests, subscripts -/
theorem pre_eq : ∀ (x y : List Nat), x.isPrefixOf y = (y.take x.length == x)
  | [], y => by simp
  | a :: x, [] => by simp
  | a :: x, b :: y => by
    rw [List.isPrefixOf_cons₂, pre_eq x y]
    simp only [List.length_cons, List.take_succ_cons]
    rw [Bool.eq_iff_iff]
    simp only [Bool.and_eq_true, beq_iff_eq, List.cons.injEq]
    exact ⟨fun ⟨h1, h2⟩ => ⟨h1.symm, h2⟩, fun ⟨h1, h2⟩ => ⟨h1.symm, h2⟩⟩
theorem infix_iff (x : List Nat) : ∀ y : List Nat, infixB x y = true ↔ ∃ i, i + x.length ≤ y.length ∧ (y.drop i).take x.length = x
  | [] => by
    cases x with
    | nil => simp [infixB]
    | cons a x => simp [infixB]
  | b :: y => by
    unfold infixB
    rw [Bool.or_eq_true, infix_iff x y, pre_eq, beq_iff_eq]
    constructor
    · rintro (h | ⟨i, h1, h2⟩)
      · refine ⟨0, ?_, by simpa using h⟩
        have := congrArg List.length h
        rw [List.length_take] at this
        omega
      · exact ⟨i + 1, by simp; omega, by simpa using h2⟩
    · rintro ⟨i, h1, h2⟩
      cases i with
      | zero => exact .inl (by simpa using h2)
      | succ i => exact .inr ⟨i, by simp at h1; omega, by simpa using h2⟩
theorem found_infix (x y : List Nat) : (!(Builtin.Str.occurrences (tx y) (tx x) 0 (tx y).length 1).isEmpty) = infixB x y := by
  rw [Bool.eq_iff_iff, PySem.StrLaws.found_iff, infix_iff]
  simp only [tx_len, PySem.StrLaws.subAt_eq, beq_iff_eq]
  rfl
section
variable {X : Cx} {B : Bx} {pos : Pos}
theorem any_P {n m : Nat} {a : D} (ha : flat n a = true) : ∀ (ds : List D), flats m ds = true → (ds.any fun z => eqD z a) = ((toPs ds).any fun z => PyData.eqv z (toP a))
  | [], _ => rfl
  | d :: ds, h => by
    simp only [flats, Bool.and_eq_true] at h
    simp only [List.any_cons, toPs]
    rw [eqv_P m n d a h.1 ha, any_P ha ds h.2]
theorem c_in_core (x : XOk X B) {pins : List (Addr × Obj)} {s : Shared} {σ : L2.St} {W : Wo} {h : Hm} {d1 d2 : D} {v1 v2 : V} {u1 u2 : Value} {c : Bool} {Q : VK} (neg : Bool) (I : Inv X pins σ W.H s) (q1 : RelV v1 u1) (q2 : RelV v2 u2) (hr : HR B.R W h)
    (r1 : VR B.R W d1 v1) (r2 : VR B.R W d2 v2) (ed : inD h d1 d2 = some c) (q : Q (.bl (if neg then !c else c)) W.H) : wpAny (model X.prog X.w) X.A (compareOp (if neg then .NotIn else .In) u1 u2) (EP X pins σ Q) X.xe s := by
  have u := x.room.un
  -- a list or a tuple of data
  have seqL : ∀ {a : Addr} {vs : List V} {ds : List D}, v2 = .ref a → W.H a = some (.lst vs) → VRs B.R W ds vs → (flat 20 d1 && flats 20 ds) = true → c = (ds.any fun z => eqD z d1) → wpAny (model X.prog X.w) X.A (compareOp (if neg then .NotIn else .In) u1 u2) (EP X pins σ Q) X.xe s := by
    intro a vs ds ev ea rs hf ec
    simp only [Bool.and_eq_true] at hf
    subst ev
    have hs : flat 21 (.lst ds) = true := by simpa [flat] using hf.2
    have e : c = ((toPs ds).any fun z => PyData.eqv z (toP d1)) := by rw [ec]; exact any_P hf.1 ds hf.2
    have hD : Dp X.K W.H (.ref a) (.list (toPs ds)) := .lst (.inl (.inl ea)) (dps_of x 20 ds _ hf.2 rs)
    have hS : SeqAt.shaped (.list (toPs ds)) = true := shaped_of (a := .lst ds) hs (by omega)
    cases neg with
    | false => exact op_inD (by omega) pins s σ _ _ _ _ _ Q I q1 q2 ⟨_, _, dp_of x 20 _ _ hf.1 r1, hD, shaped_of hf.1 (by omega), hS, by rw [← e]; exact q⟩
    | true => exact op_notInD (by omega) pins s σ _ _ _ _ _ Q I q1 q2 ⟨_, _, dp_of x 20 _ _ hf.1 r1, hD, shaped_of hf.1 (by omega), hS, by rw [← e]; exact q⟩
  have seqT : ∀ {a : Addr} {vs : List V} {ds : List D}, v2 = .ref a → SqT X.K W.H a vs → VRs B.R W ds vs → (flat 20 d1 && flats 20 ds) = true → c = (ds.any fun z => eqD z d1) → wpAny (model X.prog X.w) X.A (compareOp (if neg then .NotIn else .In) u1 u2) (EP X pins σ Q) X.xe s := by
    intro a vs ds ev ea rs hf ec
    simp only [Bool.and_eq_true] at hf
    subst ev
    have hs : flat 21 (.tup ds) = true := by simpa [flat] using hf.2
    have e : c = ((toPs ds).any fun z => PyData.eqv z (toP d1)) := by rw [ec]; exact any_P hf.1 ds hf.2
    have hD : Dp X.K W.H (.ref a) (.tuple (toPs ds)) := .tup ea (dps_of x 20 ds _ hf.2 rs)
    have hS : SeqAt.shaped (.tuple (toPs ds)) = true := shaped_of (a := .tup ds) hs (by omega)
    obtain ⟨as, m1⟩ := Dp.reads I _ _ u1 (dp_of x 20 _ _ hf.1 r1) q1
    obtain ⟨bs, m2⟩ := Dp.reads I _ _ u2 hD q2
    have hd := shaped_of hf.1 (by omega : 20 ≤ 60)
    cases neg with
    | false => exact SeqAt.in_tuple_reads m2 m1 (SeqAt.canLay_of_shaped hS) (SeqAt.canLay_of_shaped hd) (room_in_shaped hd (by omega)) ⟨.bl c, _, I, by rw [e]; rfl, q⟩
    | true => exact SeqAt.notIn_tuple_reads m2 m1 (SeqAt.canLay_of_shaped hS) (SeqAt.canLay_of_shaped hd) (room_in_shaped hd (by omega)) ⟨.bl (!c), _, I, by rw [e]; rfl, q⟩
  have dct : ∀ {a : Addr} {kvs : List (D × D)} {es : List (NestedKey × Addr × Value)}, v2 = .ref a → Rd W.H a (.ext (KDo B.R a es)) → KKs B.R W kvs es → isKey d1 = true → c = (kget kvs d1).isSome → wpAny (model X.prog X.w) X.A (compareOp (if neg then .NotIn else .In) u1 u2) (EP X pins σ Q) X.xe s := by
    intro a kvs es ev ea rk hk ec
    subst ev
    cases q2
    obtain ⟨b, rfl⟩ := key_ref hk r1
    cases q1
    obtain ⟨hD, hsm⟩ := kd_at x.K x.P x.w I ea rk
    have hi := key_is x.K I hk r1
    have hroom : (kn B).room X.A.in1 := by show X.A.units + 1 + 8 < cLine; omega
    have e : (atKey es (toNK d1)).isSome = c := by
      rw [ec]
      rcases kd_get hk rk with ⟨e1, e2⟩ | ⟨d, p, v, e1, e2, _, _⟩
      · rw [e1, e2]; rfl
      · rw [e1, e2]; rfl
    rw [x.P, x.w]
    cases neg with
    | false => exact wpAny_in_heap (knd := kn B) hroom hi hsm hD ⟨.bl c, _, I.tok _, by rw [e]; rfl, q⟩
    | true => exact wpAny_notIn_heap (knd := kn B) hroom hi hsm hD ⟨.bl (!c), _, I.tok _, by rw [e]; rfl, q⟩
  cases r2 with
  | str y =>
    cases r1 <;> simp only [inD] at ed <;> try contradiction
    rename_i z
    cases ed
    cases neg with
    | false => exact op_in_str pins s σ _ _ _ _ _ Q I q1 q2 ⟨_, _, rfl, rfl, by rw [found_infix]; exact q⟩
    | true => exact op_notin_str pins s σ _ _ _ _ _ Q I q1 q2 ⟨_, _, rfl, rfl, by rw [found_infix]; exact q⟩
  | tup t rs =>
    rename_i a xs ds
    have ed' : (if (flat 20 d1 && flats 20 ds) = true then some (ds.any fun z => eqD z d1) else none) = some c := by
      cases r1 <;> simpa only [inD] using ed
    split at ed'
    · rename_i hf
      cases ed'
      exact seqT rfl (sq_of x t) rs hf rfl
    · cases ed'
  | lst t rs =>
    rename_i a xs ds
    have ed' : (if (flat 20 d1 && flats 20 ds) = true then some (ds.any fun z => eqD z d1) else none) = some c := by
      cases r1 <;> simpa only [inD] using ed
    split at ed'
    · rename_i hf
      cases ed'
      exact seqL rfl t.2.2 rs hf rfl
    · cases ed'
  | loc e =>
    rename_i n a
    cases hn : h[n]? with
    | none => cases r1 <;> simp [inD, hn] at ed
    | some o =>
      cases o with
      | lst ds =>
        obtain ⟨hu, e1, ys, e2, rs⟩ := hr.loc e hn
        have ed' : (if (flat 20 d1 && flats 20 ds) = true then some (ds.any fun z => eqD z d1) else none) = some c := by
          cases r1 <;> (rw [← ed]; simp only [inD, hn])
        split at ed'
        · rename_i hf
          cases ed'
          exact seqL rfl (by rw [e1, e2]) rs hf rfl
        · cases ed'
      | kd kvs =>
        obtain ⟨hu, e1, es, e2, rk⟩ := hr.loc e hn
        have ed' : (if isKey d1 = true then some (kget kvs d1).isSome else none) = some c := by
          cases r1 <;> (rw [← ed]; simp only [inD, hn])
        split at ed'
        · rename_i hf
          cases ed'
          exact dct rfl (.inl (by rw [e1, e2])) rk hf rfl
        · cases ed'
      | frz kvs =>
        obtain ⟨hu, e1, ob, es, e2, rk⟩ := hr.loc e hn
        have ed' : (if isKey d1 = true then some (kget kvs d1).isSome else none) = some c := by
          cases r1 <;> (rw [← ed]; simp only [inD, hn])
        split at ed'
        · rename_i hf
          cases ed'
          exact dct rfl (.inr ⟨ob, by rw [e1, e2]⟩) rk hf rfl
        · cases ed'
      | sd kvs => cases r1 <;> simp [inD, hn] at ed
      | ins cc fs => cases r1 <;> simp [inD, hn] at ed
  | _ => cases r1 <;> simp only [inD] at ed <;> contradiction
theorem c_in (x : XOk X B) : OpR X (compareOp .In) (cmR B .in_) := by
  intro pins s σ H v1 v2 u1 u2 Q I q1 q2 ⟨W, h, d1, d2, e, hr, r1, r2, d, ed, q⟩
  subst e
  cases e1 : inD h d1 d2 with
  | none => simp [cmB, e1] at ed
  | some c =>
    simp [cmB, e1] at ed
    subst ed
    exact c_in_core x false I q1 q2 hr r1 r2 e1 (q.here hr (.bl _))
theorem c_notin (x : XOk X B) : OpR X (compareOp .NotIn) (cmR B .notin) := by
  intro pins s σ H v1 v2 u1 u2 Q I q1 q2 ⟨W, h, d1, d2, e, hr, r1, r2, d, ed, q⟩
  subst e
  cases e1 : inD h d1 d2 with
  | none => simp [cmB, e1] at ed
  | some c =>
    simp [cmB, e1] at ed
    subst ed
    exact c_in_core x true I q1 q2 hr r1 r2 e1 (q.here hr (.bl _))
def cmOp : Cm → CmpOp
  | .eq => .Eq | .ne => .NotEq | .lt => .Lt | .le => .LtE | .gt => .Gt | .ge => .GtE | .is_ => .Is | .isnt => .IsNot | .in_ => .In | .notin => .NotIn
theorem r_cmp (x : XOk X B) : ∀ o : Cm, OpR X (compareOp (cmOp o)) (cmR B o)
  | .eq => c_eq x | .ne => c_ne x | .lt => c_lt | .le => c_le | .gt => c_gt | .ge => c_ge | .is_ => c_is | .isnt => c_isnt | .in_ => c_in x | .notin => c_notin x

/-! ### chains and truth -/
theorem s_chain (x : XOk X B) {a b c : Expr} {ea eb ec : E} (ha : PE X a (tE B ea)) (hb : PE X b (tE B eb)) (hc : PE X c (tE B ec)) (hm : lastMarks [CmpOp.LtE, CmpOp.LtE] [b, c] = false) : PE X (.Compare a [.LtE, .LtE] [b, c] pos) (tE B (.chain ea eb ec)) :=
  (pe_chain op_le op_le ha hb hc hm).impW fun σ H Q ⟨W, σd, h, e, hr, w⟩ => by
    subst e
    simp only [wpE] at w
    refine step1 x hr w fun d1 h1 W1 v1 w l1 hr1 r1 => ?_
    refine step1 x hr1 w fun d2 h2 W2 v2 w l2 hr2 r2 => ?_
    obtain ⟨i, j, e1, e2, w1, w2⟩ := w
    subst e1 e2
    cases r1; cases r2
    refine ⟨i, j, rfl, rfl, _, rfl, ?_⟩
    by_cases hij : i ≤ j
    · simp only [decide_eq_true hij, if_true]
      refine step1 x hr2 (w1 hij) fun d3 h3 W3 v3 w l3 hr3 r3 => ?_
      obtain ⟨k, e3, w⟩ := w
      subst e3
      cases r3
      exact ⟨j, k, rfl, rfl, w W3 _ ((l1.trans l2).trans l3) hr3.hr (.bl _)⟩
    · simp only [decide_eq_false hij, Bool.false_eq_true, if_false]
      exact w2 hij W2 _ (l1.trans l2) hr2.hr (.bl _)
theorem t_of {Q : Bool → Hp → Prop} {R : Wr} {W : Wo} {d : D} {h : Hm} (w : PQT R W Q d h) : PQ R W (fun v H1 => ∃ c, v = .bl c ∧ Q c H1) d h := fun W' v l hr r => by
  obtain ⟨b, e, q⟩ := w W' l hr
  subst e
  cases r
  exact ⟨b, rfl, q⟩
theorem t_chain (x : XOk X B) {a b c : Expr} {ea eb ec : E} (ha : PE X a (tE B ea)) (hb : PE X b (tE B eb)) (hc : PE X c (tE B ec)) (hm : lastMarks [CmpOp.LtE, CmpOp.LtE] [b, c] = false) : PT X (.Compare a [.LtE, .LtE] [b, c] pos) (tT B (.chain ea eb ec)) :=
  (pt_chain op_le op_le ha hb hc hm).impW fun σ H Q ⟨W, σd, h, e, hr, w⟩ => by
    subst e
    simp only [wpE] at w
    refine step1 x hr w fun d1 h1 W1 v1 w l1 hr1 r1 => ?_
    refine step1 x hr1 w fun d2 h2 W2 v2 w l2 hr2 r2 => ?_
    obtain ⟨i, j, e1, e2, w1, w2⟩ := w
    subst e1 e2
    cases r1; cases r2
    refine ⟨i, j, rfl, rfl, _, rfl, ?_⟩
    by_cases hij : i ≤ j
    · simp only [decide_eq_true hij, if_true]
      refine step1 x hr2 (w1 hij) fun d3 h3 W3 v3 w l3 hr3 r3 => ?_
      obtain ⟨k, e3, w⟩ := w
      subst e3
      cases r3
      exact ⟨j, k, rfl, rfl, t_of w W3 _ ((l1.trans l2).trans l3) hr3.hr (.bl _)⟩
    · simp only [decide_eq_false hij, Bool.false_eq_true, if_false]
      exact t_of (w2 hij) W2 _ (l1.trans l2) hr2.hr (.bl _)
theorem t_val (x : XOk X B) {py : Expr} {e : E} (h : PE X py (tE B e)) (he : ∀ whole, isTrue py X.env whole = (do let v ← whole; standAt py.pos; holding [v] (truthy v))) : PT X py (tT B e) :=
  (pt_val h he).impW fun σ H Q ⟨W, σd, h, e1, hr, w⟩ => ⟨W, σd, h, e1, hr, wpE_mono x.mono e _ _ _ _ _ _ (fun _ _ z => z) (fun _ _ w => t_of w) w⟩
theorem t_tru (x : XOk X B) {py : Expr} {e : E} (h : PE X py (tE B e)) (he : ∀ whole, isTrue py X.env whole = (do let v ← whole; standAt py.pos; holding [v] (truthy v))) : PT X py (tT B (.tru e)) :=
  (pt_truth h he).impW fun σ H Q ⟨W, σd, h, e1, hr, w⟩ => by
    subst e1
    simp only [wpE] at w
    refine step1 x hr w fun d1 h1 W1 v1 w l1 hr1 r1 => ?_
    obtain ⟨b, eb, w⟩ := w
    obtain ⟨b', e, q⟩ := w W1 l1 hr1.hr
    cases e
    refine ⟨b, ?_, q⟩
    cases r1 <;> simp only [truD] at eb <;> try contradiction
    · cases eb; rfl
    · cases eb; rfl
    · cases eb; rfl
    · rename_i z
      split at eb
      · rename_i hz
        cases eb
        refine ⟨by rw [tx_len]; exact lim_le hz, ?_⟩
        rw [tx_len]
        cases z with
        | nil => rfl
        | cons a z => rw [bne_iff_ne.mpr (by simp : (a :: z).length ≠ 0)]; exact (bne_iff_ne.mpr (by simp; omega)).symm
      · cases eb
    · rename_i a xs ds t rs
      cases eb
      refine .inr (.inl ⟨xs, sq_of x t, ?_⟩)
      cases rs <;> rfl
    · rename_i a xs ds t rs
      cases eb
      refine .inl ⟨xs, .inl (.inl t.2.2), ?_⟩
      cases rs <;> rfl
theorem w_one {py : Expr} {e : E} (op : BoolOp) (h : PT X py (tT B e)) : PW X (.BoolOp op [py] pos) (tT B e) := by
  cases op with
  | And => exact pw_and1 h
  | Or => exact pw_or1 h
theorem w_and (x : XOk X B) {a b : Expr} {rest : List Expr} {ea eb : E} (ha : PT X a (tT B ea)) (hb : PW X (.BoolOp .And (b :: rest) pos) (tT B eb)) : PW X (.BoolOp .And (a :: b :: rest) pos) (tT B (.and ea eb)) :=
  ⟨fun wh pins s σ H Q I ⟨W, σd, h, e, hr, w⟩ => (pw_and ha hb).run wh pins s σ H Q I (by
    subst e
    simp only [wpE] at w
    refine stepT x hr w fun d1 h1 W1 w l1 hr1 => ?_
    rcases w with ⟨e1, w⟩ | ⟨e1, w⟩
    · refine ⟨true, e1, ?_⟩
      simp only [if_true]
      exact ⟨W1, σd, h1, rfl, hr1, wpE_mono x.mono eb _ _ _ _ _ _ (fun _ _ z => z) (fun _ _ w => w.le l1) w⟩
    · refine ⟨false, e1, ?_⟩
      simp only [Bool.false_eq_true, if_false]
      obtain ⟨b, e2, q⟩ := w W1 l1 hr1.hr
      cases e2
      exact q)⟩
theorem w_or (x : XOk X B) {a b : Expr} {rest : List Expr} {ea eb : E} (ha : PT X a (tT B ea)) (hb : PW X (.BoolOp .Or (b :: rest) pos) (tT B eb)) : PW X (.BoolOp .Or (a :: b :: rest) pos) (tT B (.or ea eb)) :=
  ⟨fun wh pins s σ H Q I ⟨W, σd, h, e, hr, w⟩ => (pw_or ha hb).run wh pins s σ H Q I (by
    subst e
    simp only [wpE] at w
    refine stepT x hr w fun d1 h1 W1 w l1 hr1 => ?_
    rcases w with ⟨e1, w⟩ | ⟨e1, w⟩
    · refine ⟨true, e1, ?_⟩
      simp only [if_true]
      obtain ⟨b, e2, q⟩ := w W1 l1 hr1.hr
      cases e2
      exact q
    · refine ⟨false, e1, ?_⟩
      simp only [Bool.false_eq_true, if_false]
      exact ⟨W1, σd, h1, rfl, hr1, wpE_mono x.mono eb _ _ _ _ _ _ (fun _ _ z => z) (fun _ _ w => w.le l1) w⟩)⟩
theorem t_not (x : XOk X B) {a : Expr} {ea : E} (ha : PT X a (tT B ea)) : PT X (.UnaryOp .Not a pos) (tT B (.not ea)) :=
  (pt_not ha).impW fun σ H Q ⟨W, σd, h, e, hr, w⟩ => by
    subst e
    simp only [wpE] at w
    refine stepT x hr w fun d1 h1 W1 w l1 hr1 => ?_
    obtain ⟨b, e1, w⟩ := w
    obtain ⟨b', e2, q⟩ := w W1 l1 hr1.hr
    cases e2
    exact ⟨b, e1, q⟩
theorem s_one {py : Expr} {e : E} (op : BoolOp) (h : PE X py (tE B e)) : PE X (.BoolOp op [py] pos) (tE B e) := pe_one h
theorem s_and (x : XOk X B) {a b : Expr} {rest : List Expr} {ea eb : E} (ha : PE X a (tE B ea)) (hb : PE X (.BoolOp .And (b :: rest) pos) (tE B eb)) : PE X (.BoolOp .And (a :: b :: rest) pos) (tE B (.and ea eb)) :=
  (pe_and ha hb).impW fun σ H Q ⟨W, σd, h, e, hr, w⟩ => by
    subst e
    simp only [wpE] at w
    refine step1 x hr w fun d1 h1 W1 v1 w l1 hr1 r1 => ?_
    rcases w with ⟨e1, w⟩ | ⟨e1, w⟩
    · subst e1; cases r1
      refine ⟨true, rfl, ?_⟩
      simp only [if_true]
      exact ⟨W1, σd, h1, rfl, hr1, wpE_mono x.mono eb _ _ _ _ _ _ (fun _ _ z => z) (fun _ _ w => w.le l1) w⟩
    · subst e1; cases r1
      refine ⟨false, rfl, ?_⟩
      simp only [Bool.false_eq_true, if_false]
      exact w W1 _ l1 hr1.hr (.bl _)
theorem s_or (x : XOk X B) {a b : Expr} {rest : List Expr} {ea eb : E} (ha : PE X a (tE B ea)) (hb : PE X (.BoolOp .Or (b :: rest) pos) (tE B eb)) : PE X (.BoolOp .Or (a :: b :: rest) pos) (tE B (.or ea eb)) :=
  (pe_or ha hb).impW fun σ H Q ⟨W, σd, h, e, hr, w⟩ => by
    subst e
    simp only [wpE] at w
    refine step1 x hr w fun d1 h1 W1 v1 w l1 hr1 r1 => ?_
    rcases w with ⟨e1, w⟩ | ⟨e1, w⟩
    · subst e1; cases r1
      refine ⟨true, rfl, ?_⟩
      simp only [if_true]
      exact w W1 _ l1 hr1.hr (.bl _)
    · subst e1; cases r1
      refine ⟨false, rfl, ?_⟩
      simp only [Bool.false_eq_true, if_false]
      exact ⟨W1, σd, h1, rfl, hr1, wpE_mono x.mono eb _ _ _ _ _ _ (fun _ _ z => z) (fun _ _ w => w.le l1) w⟩
theorem s_not (x : XOk X B) {a : Expr} {ea : E} (ha : PE X a (tE B ea)) : PE X (.UnaryOp .Not a pos) (tE B (.not ea)) :=
  (pe_not ha).impW fun σ H Q ⟨W, σd, h, e, hr, w⟩ => by
    subst e
    simp only [wpE] at w
    refine step1 x hr w fun d1 h1 W1 v1 w l1 hr1 r1 => ?_
    obtain ⟨b, e1, w⟩ := w
    subst e1; cases r1
    exact ⟨b, rfl, w W1 _ l1 hr1.hr (.bl _)⟩
theorem s_ite (x : XOk X B) {t a b : Expr} {et ea eb : E} (ht : PT X t (tT B et)) (ha : PE X a (tE B ea)) (hb : PE X b (tE B eb)) : PE X (.IfExp t a b pos) (tE B (.ite et ea eb)) :=
  (pe_ifExp ht ha hb).impW fun σ H Q ⟨W, σd, h, e, hr, w⟩ => by
    subst e
    simp only [wpE] at w
    refine stepT x hr w fun d1 h1 W1 w l1 hr1 => ?_
    rcases w with ⟨e1, w⟩ | ⟨e1, w⟩
    · refine ⟨true, e1, ?_⟩
      simp only [if_true]
      exact ⟨W1, σd, h1, rfl, hr1, wpE_mono x.mono ea _ _ _ _ _ _ (fun _ _ z => z) (fun _ _ w => w.le l1) w⟩
    · refine ⟨false, e1, ?_⟩
      simp only [Bool.false_eq_true, if_false]
      exact ⟨W1, σd, h1, rfl, hr1, wpE_mono x.mono eb _ _ _ _ _ _ (fun _ _ z => z) (fun _ _ w => w.le l1) w⟩
theorem s_neg (x : XOk X B) {a : Expr} {ea : E} (ha : PE X a (tE B ea)) : PE X (.UnaryOp .USub a pos) (tE B (.neg ea)) :=
  (pe_un un_neg ha).impW fun σ H Q ⟨W, σd, h, e, hr, w⟩ => by
    subst e
    simp only [wpE] at w
    refine step1 x hr w fun d1 h1 W1 v1 w l1 hr1 r1 => ?_
    obtain ⟨i, e1, w⟩ := w
    subst e1; cases r1
    exact ⟨i, rfl, w W1 _ l1 hr1.hr (.int _)⟩
end
end Mi

set_option linter.all false
set_option maxRecDepth 100000
set_option maxHeartbeats 2000000
namespace Mi
open PySem PySem.Spec PyProof.Rows L2
/-! ## rules: subscripts, slices, dicts, fields, isinstance -/
theorem ixN_L (n : Nat) (i : Int) : Mi.ixN n i = L2.ixN n i := by
  unfold Mi.ixN L2.ixN
  by_cases h : 0 ≤ i
  · rw [if_pos h, if_pos h]
  · rw [if_neg h, if_neg h]
    by_cases h2 : 0 ≤ i + n
    · rw [if_pos h2, if_pos (by omega)]
    · rw [if_neg h2, if_neg (by omega)]
theorem at_get {R : Wr} {W : Wo} {ds : List D} {vs : List V} {i : Int} {d : D} (r : VRs R W ds vs) (e : at_ ds i = some d) : ∃ v, atI vs i = some v ∧ VR R W d v := by
  unfold at_ at e
  unfold atI
  rw [ixN_L, r.length] at e
  cases h : L2.ixN vs.length i with
  | none => rw [h] at e; cases e
  | some j =>
    rw [h] at e
    obtain ⟨v, h1, h2⟩ := r.get e
    exact ⟨v, h1, h2⟩
theorem sd_get {R : Wr} {W : Wo} {k : List Nat} : ∀ {kvs : List (List Nat × D)} {ks : List (Key × V)}, SKs R W kvs ks → (sget kvs k = none ∧ valV ks (Sum.inr (tx k)) = none) ∨ ∃ d v, sget kvs k = some d ∧ valV ks (Sum.inr (tx k)) = some v ∧ VR R W d v
  | _, _, .nil => .inl ⟨rfl, rfl⟩
  | _, _, .cons (a := p) (b := q) (l₁ := kvs) (l₂ := ks) r t => by
    by_cases h : p.1 = k
    · refine .inr ⟨p.2, q.2, by simp [sget, List.find?_cons, h], ?_, r.2⟩
      simp [valV, List.find?_cons, r.1, h]
    · have e1 : sget (p :: kvs) k = sget kvs k := by simp [sget, List.find?_cons, h]
      have e2 : valV (q :: ks) (Sum.inr (tx k)) = valV ks (Sum.inr (tx k)) := valV_neg (by rw [r.1]; intro e; exact h (tx_inj (Sum.inr.inj e)))
      rw [e1, e2]
      exact sd_get t
section
variable {X : Cx} {B : Bx} {pos : Pos}
theorem r_ix (x : XOk X B) : IxR X (rD2 B ixD) := by
  intro value slice pins s σ H v1 v2 u1 u2 Q I q1 q2 ⟨W, h, d1, d2, e, hr, r1, r2, d, ed, q⟩ hs
  subst e
  have un := x.room.un
  cases r1 with
  | tup t rs =>
    cases r2 <;> simp only [ixD] at ed <;> try contradiction
    obtain ⟨v, e1, r⟩ := at_get rs ed
    exact ix_tup value slice pins s σ _ _ _ _ _ Q I q1 q2 ⟨_, _, _, v, rfl, rfl, sq_of x t, e1, q.here hr r⟩ hs
  | lst t rs =>
    cases r2 <;> simp only [ixD] at ed <;> try contradiction
    obtain ⟨v, e1, r⟩ := at_get rs ed
    exact ix_list value slice pins s σ _ _ _ _ _ Q I q1 q2 ⟨_, _, _, v, rfl, rfl, .inl (.inl t.2.2), e1, q.here hr r⟩ hs
  | str z =>
    cases r2 <;> simp only [ixD] at ed <;> try contradiction
    split at ed
    · rename_i i hz
      cases ec : at_ z i with
      | none => rw [ec] at ed; cases ed
      | some c =>
        rw [ec] at ed; cases ed
        refine ix_str value slice pins s σ _ _ _ _ _ Q I q1 q2 ⟨tx z, i, c, rfl, rfl, by rw [tx_len]; exact lim_le hz, ?_, q.here hr (.str [c])⟩ hs
        rw [← ec]
        show atI (tx z).cps.toList i = _
        unfold at_ atI
        rw [ixN_L]
        simp [tx]
    · cases ed
  | scr t =>
    cases r2 <;> simp only [ixD] at ed <;> try contradiction
    rename_i a ns i
    cases ec : at_ ns i with
    | none => rw [ec] at ed; cases ed
    | some c =>
      rw [ec] at ed; cases ed
      refine ix_list value slice pins s σ _ _ _ _ _ Q I q1 q2 ⟨_, _, _, .int c, rfl, rfl, scr_of (R := B.R) x t, ?_, q.here hr (.int c)⟩ hs
      unfold at_ at ec
      unfold atI
      rw [ixN_L] at ec
      rw [List.length_map]
      cases hj : L2.ixN ns.length i with
      | none => rw [hj] at ec; cases ec
      | some j =>
        rw [hj] at ec
        show (ns.map V.int)[j]? = _
        rw [List.getElem?_map, show ns[j]? = some c from ec]; rfl
  | loc e =>
    rename_i n a
    cases r2 with
    | int i =>
      simp only [ixD] at ed
      split at ed
      · rename_i ds hd
        obtain ⟨hu, e1, ys, e2, rs⟩ := hr.loc e hd
        obtain ⟨v, e3, r⟩ := at_get rs ed
        exact ix_list value slice pins s σ _ _ _ _ _ Q I q1 q2 ⟨_, _, _, v, rfl, rfl, .inl (.inl (by rw [e1, e2])), e3, q.here hr r⟩ hs
      · cases ed
    | str k =>
      simp only [ixD] at ed
      split at ed
      · rename_i kvs hd
        obtain ⟨hu, e1, ks, e2, rk, _⟩ := hr.loc e hd
        rcases sd_get (k := k) rk with ⟨h1, _⟩ | ⟨d', v, h1, h2, r⟩
        · rw [h1] at ed; cases ed
        · rw [h1] at ed; cases ed
          have g : DGet W.H a (.str (tx k)) (some v) := .inl ⟨ks, Sum.inr (tx k), .inl (by rw [e1, e2]), rfl, h2.symm⟩
          cases q1
          exact tail_any (dict_typeIs I g) PySem.F.slot_dict_getitem.lookup (d_getItem (by omega) I g q2 fun w' s' I' rw' => ⟨v, _, I', rw', q.here hr r⟩) hs
      · cases ed
    | tup t rs =>
      rename_i b vs ks
      have dct : ∀ {kvs : List (D × D)} {es : List (NestedKey × Addr × Value)}, Rd W.H a (.ext (KDo B.R a es)) → KKs B.R W kvs es → isKey (.tup ks) = true → kget kvs (.tup ks) = some d → wpAny (model X.prog X.w) X.A (subscriptTail value slice u1 u2) (EP X pins σ Q) X.xe s := by
        intro kvs es ea rk hk eg
        cases q1
        have hv : VR B.R W (.tup ks) (.ref b) := .tup t rs
        obtain ⟨hD, hsm⟩ := kd_at x.K x.P x.w I ea rk
        have hi := key_is x.K I hk hv
        cases q2
        rcases kd_get hk rk with ⟨h1, _⟩ | ⟨d', p, v, h1, h2, rv, r⟩
        · rw [h1] at eg; cases eg
        · rw [h1] at eg; cases eg
          have hroom : (kn B).room X.A.in1 := by show X.A.units + 1 + 8 < cLine; omega
          refine tail_any hD.typeIs PySem.F.slot_dict_getitem.lookup ?_ hs
          rw [x.P, x.w]
          exact wpAny_getItem_heap (knd := kn B) hroom hi hD h2 ⟨v, _, I.tok _, rv, q.here hr r⟩
      cases hn : h[n]? with
      | none => simp [ixD, hn] at ed
      | some o =>
        cases o with
        | kd kvs =>
          obtain ⟨hu, e1, es, e2, rk⟩ := hr.loc e hn
          simp only [ixD, hn] at ed
          split at ed
          · rename_i hk
            exact dct (.inl (by rw [e1, e2])) rk hk ed
          · cases ed
        | frz kvs =>
          obtain ⟨hu, e1, ob, es, e2, rk⟩ := hr.loc e hn
          simp only [ixD, hn] at ed
          split at ed
          · rename_i hk
            exact dct (.inr ⟨ob, by rw [e1, e2]⟩) rk hk ed
          · cases ed
        | lst _ => simp [ixD, hn] at ed
        | sd _ => simp [ixD, hn] at ed
        | ins _ _ => simp [ixD, hn] at ed
    | _ => simp [ixD] at ed
  | _ => cases r2 <;> simp [ixD] at ed
theorem s_ix (x : XOk X B) {a b : Expr} {ea eb : E} (ha : PE X a (tE B ea)) (hb : PE X b (tE B eb)) (hs : PlainIx b) : PE X (.Subscript a b pos) (tE B (.ix ea eb)) :=
  (pe_ix (r_ix x) ha hb hs).impW fun σ H Q ⟨W, σd, h, e, hr, w⟩ => by
    subst e
    simp only [wpE] at w
    refine step1 x hr w fun d1 h1 W1 v1 w l1 hr1 r1 => ?_
    refine step1 x hr1 w fun d2 h2 W2 v2 w l2 hr2 r2 => ?_
    exact ⟨W2, h2, d1, d2, rfl, hr2.hr, r1.mono l2.toLw, r2, onSome_mono (fun d w => w.le (l1.trans l2)) w⟩

/-! ### slices -/
theorem cut_cut {R : Wr} {W : Wo} {ds : List D} {vs : List V} (r : VRs R W ds vs) (lo hi : Option Int) : VRs R W (cut ds lo hi) (cutV vs lo hi) := by
  have e : ∀ n d (o : Option Int), Mi.sIx n d o = HT.sIx n d o := fun n d o => by cases o <;> rfl
  unfold cut cutV
  rw [e, e, r.length]
  exact (r.drop _).take _
theorem cut_all {R : Wr} {W : Wo} {ds : List D} {vs : List V} (r : VRs R W ds vs) {lo hi : Option Int} (h : HT.sIx vs.length 0 lo = 0 ∧ HT.sIx vs.length vs.length hi = vs.length) : cut ds lo hi = ds := by
  have e : ∀ n d (o : Option Int), Mi.sIx n d o = HT.sIx n d o := fun n d o => by cases o <;> rfl
  unfold cut
  rw [e, e, r.length, h.1, h.2, ← r.length]
  simp
def rSl (B : Bx) : V → Option Int → Option Int → Hp → VK → Prop := fun v lo hi H Q => ∃ W h d, W.H = H ∧ HR B.R W h ∧ VR B.R W d v ∧ onSome (slD h d lo hi) fun d => PQ B.R W Q d h
theorem r_sl (x : XOk X B) : SlR X (rSl B) := by
  intro pins s σ H v u ul uu lo hi sl Q I q1 hs pl pu ⟨W, h, d, e, hr, r, d', ed, q⟩
  subst e
  have lst : ∀ {a : Addr} {vs : List V} {ds : List D}, v = .ref a → W.H a = some (.lst vs) → VRs B.R W ds vs → d' = .lst (cut ds lo hi) → ∃ T id, typeLookup (.type T) "__getitem__" = pure (some (.builtin id)) ∧ s.TypeIs u T ∧ wpAny (model X.prog X.w) X.A (getItem u (.ref sl)) (EP X pins σ Q) X.xe s := by
    intro a vs ds ev ea rs e
    subst e
    exact sl_list pins s σ _ _ _ _ _ lo hi sl Q I q1 hs pl pu ⟨a, vs, ev, .inl (.inl ea), fun p hp => new_lstv q hr (cut_cut rs lo hi) hp⟩
  cases r with
  | tup t rs =>
    simp only [slD] at ed
    cases ed
    refine sl_tupA pins s σ _ _ _ _ _ lo hi sl Q I q1 hs pl pu ⟨_, _, rfl, sq_of x t, fun hw => ?_, fun hw p hp => new_tup q hr (cut_cut rs lo hi) hp⟩
    rw [cut_all rs hw] at q
    exact q.here hr (.tup t rs)
  | str z =>
    simp only [slD] at ed
    split at ed
    · rename_i hz
      cases ed
      refine sl_str pins s σ _ _ _ _ _ lo hi sl Q I q1 hs pl pu ⟨tx z, rfl, by rw [tx_len]; exact lim_le hz, ?_⟩
      have e : ∀ n d (o : Option Int), Mi.sIx n d o = HT.sIx n d o := fun n d o => by cases o <;> rfl
      have e2 : cutS (tx z) lo hi = tx (cut z lo hi) := by
        unfold cutS cut
        rw [tx_len, e, e]
        simp [tx]
      rw [e2]
      exact q.here hr (.str _)
    · cases ed
  | lst t rs =>
    simp only [slD, lstOf] at ed
    cases ed
    exact lst rfl t.2.2 rs rfl
  | loc e =>
    rename_i n a
    cases hn : h[n]? with
    | none => simp [slD, lstOf, hn] at ed
    | some o =>
      cases o with
      | lst ds =>
        obtain ⟨hu, e1, ys, e2, rs⟩ := hr.loc e hn
        simp only [slD, lstOf, hn] at ed
        cases ed
        exact lst rfl (by rw [e1, e2]) rs rfl
      | _ => simp [slD, lstOf, hn] at ed
  | _ => simp [slD, lstOf] at ed
/-- a bound -/
def tO (B : Bx) (e : E) : TO := fun σ H Q => ∃ W σd h, W.H = H ∧ B.Re W σd h σ ∧ wpE B.Γ B.Ex e σd h fun d h' => ∃ i, bnd e d = some i ∧ ∀ W', Le W W' → HR B.R W' h' → Q i W'.H
theorem _root_.L2.PO.impW {X : Cx} {e : Option Expr} {t t' : TO} (h : PO X e t) (i : ∀ σ H Q, t' σ H Q → t σ H Q) : PO X e t' := ⟨fun pins s σ H Q I w => h.run pins s σ H Q I (i _ _ _ w)⟩
theorem o_none : PO X none (tO B .non) := po_none.impW fun σ H Q ⟨W, σd, h, e, hr, w⟩ => by
  subst e
  simp only [wpE, bnd] at w
  obtain ⟨i, e, w⟩ := w
  cases e
  exact w W Le.refl hr.hr
def isNon : E → Bool
  | .non => true
  | _ => false
theorem bnd_int {e : E} {d : D} {i : Option Int} (hn : isNon e = false) (h : bnd e d = some i) : ∃ j, d = .int j ∧ i = some j := by
  cases e <;> first | (simp [isNon] at hn; done) | (cases d <;> simp [bnd] at h; exact ⟨_, rfl, h.symm⟩)
theorem o_some (x : XOk X B) {a : Expr} {ea : E} (ha : PE X a (tE B ea)) (hn : isNon ea = false) : PO X (some a) (tO B ea) :=
  (po_some ha).impW fun σ H Q ⟨W, σd, h, e, hr, w⟩ => by
    subst e
    refine step1 x hr w fun d1 h1 W1 v1 w l1 hr1 r1 => ?_
    obtain ⟨i, e, w⟩ := w
    obtain ⟨j, e1, e2⟩ := bnd_int hn e
    subst e1 e2
    cases r1
    exact ⟨j, rfl, w W1 l1 hr1.hr⟩
theorem stepO (x : XOk X B) {e : E} {W : Wo} {σd : Sl} {h : Hm} {σ : L2.St} {Q : Option Int → Hp → Prop} {K : Option Int → Hm → Prop} (hr : B.Re W σd h σ) (w : wpE B.Γ B.Ex e σd h fun d h => onSome (bnd e d) fun i => K i h)
    (k : ∀ i h1 W1, K i h1 → Le W W1 → B.Re W1 σd h1 σ → Q i W1.H) : tO B e σ W.H Q :=
  ⟨W, σd, h, rfl, hr, wpE_mono x.mono e _ _ _ _ _ _ (fun _ _ z => z) (fun d h1 ⟨i, e, w⟩ => ⟨i, e, fun W1 l r => k i h1 W1 w l (hr.to l r)⟩) w⟩
theorem s_sl (x : XOk X B) {p2 : Pos} {a : Expr} {lo hi : Option Expr} {ea el eh : E} (ha : PE X a (tE B ea)) (hl : PO X lo (tO B el)) (hh : PO X hi (tO B eh)) : PE X (.Subscript a (.Slice lo hi none p2) pos) (tE B (.sl ea el eh)) :=
  (pe_slice (r_sl x) ha hl hh).impW fun σ H Q ⟨W, σd, h, e, hr, w⟩ => by
    subst e
    simp only [wpE] at w
    refine step1 x hr w fun d1 h1 W1 v1 w l1 hr1 r1 => ?_
    refine stepO x hr1 w fun i h2 W2 w l2 hr2 => ?_
    refine stepO x hr2 w fun j h3 W3 w l3 hr3 => ?_
    exact ⟨W3, h3, d1, rfl, hr3.hr, r1.mono (l2.trans l3).toLw, onSome_mono (fun d w => w.le (l1.trans (l2.trans l3))) w⟩

/-! ### new dicts -/
theorem alloc_PQ {R : Wr} {W : Wo} {h : Hm} {Q : VK} {p : Addr} {o : MO} {ho : HO} (q : PQ R W Q (.loc h.length) (h ++ [o])) (hr : HR R W h) (hp : W.H p = none) (y : OR R { W with m := W.m ++ [p], H := upd W.H p ho } p o ho) : Q (.ref p) (upd W.H p ho) := by
  refine q { W with m := W.m ++ [p], H := upd W.H p ho } (.ref p) (Le.alloc hr hp) (hr.alloc hp y) (.loc ?_)
  show (W.m ++ [p])[h.length]? = some p
  rw [← hr.len, List.getElem?_append_right (Nat.le_refl _)]
  simp
theorem kdo_stay {R : Wr} {a : Addr} {es : List (NestedKey × Addr × Value)} : ∀ h1 h2 : Heap, KDo R a es h1 → (∀ o, h1.get? a = some o → h2.get? a = some o) → KDo R a es h2 :=
  fun h1 h2 ⟨o, ep, tb, e, r⟩ k => ⟨o, ep, tb, k _ e, r⟩
/-- the dict that was just laid -/
theorem kdo_new {R : Wr} (h : Heap) (hb : sysModules < h.objs.size) : KDo R h.objs.size [] (h.push { cls := .type "dict", data := .dict #[] }) :=
  ⟨_, 0, #[], Heap.get?_push_size _ rfl, ⟨rfl, rfl, rfl⟩, rfl, rfl, List.nodup_nil, beq_eq_false_iff_ne.mpr (Ne.symm (Nat.ne_of_lt hb))⟩
def tNewKD (R : Wr) : TE := fun _ H Q => ∀ p, H p = none → Q (.ref p) (upd H p (.ext (KDo R p [])))
theorem pe_newKD {R : Wr} : PE X (.Dict [] [] pos) (tNewKD R) := ⟨fun pins s σ H Q I h =>
  wpAny_Dict_empty ⟨.ref s.heap.objs.size, _, I.laid (a := s.heap.objs.size) (o := .ext (KDo R s.heap.objs.size [])) (t' := s.toks) (fun _ _ q => Heap.get?_push_of_some _ q) (Nat.le_refl _)
    ⟨kdo_new s.heap I.big, ⟨_, Heap.get?_push_size _ rfl⟩, kdo_stay⟩, rfl, h _ (I.hok.fresh (Nat.le_refl _))⟩⟩
theorem s_dnew (x : XOk X B) (k : Bool) : PE X (.Dict [] [] pos) (tE B (.dnew k)) := by
  cases k with
  | true =>
    refine (pe_newKD (R := B.R)).impW fun σ H Q ⟨W, σd, h, e, hr, w⟩ => ?_
    subst e
    simp only [wpE, if_true] at w
    exact fun p hp => alloc_PQ w hr.hr hp ⟨[], rfl, .nil⟩
  | false =>
    refine pe_dnewK.impW fun σ H Q ⟨W, σd, h, e, hr, w⟩ => ?_
    subst e
    simp only [wpE, Bool.false_eq_true, if_false] at w
    exact fun p hp => alloc_PQ w hr.hr hp ⟨[], rfl, .nil, List.nodup_nil⟩
end
end Mi

set_option linter.all false
set_option maxRecDepth 100000
set_option maxHeartbeats 2000000
namespace Mi
open PySem PySem.Spec PyProof.Rows L2
/-! ## rules: fields, isinstance, calls -/
theorem fr_get {R : Wr} {W : Wo} (ok : R.Ok) {c f : Nat} {d : D} (hc : R.okf c f = true) : ∀ {fs : List (Nat × D)} {gs : List (Str × V)}, FRs R W fs gs → (∀ p ∈ fs, R.okf c p.1 = true) → fget fs f = some d → ∃ v, gs.lookup (R.fnm f) = some v ∧ VR R W d v
  | _, _, .nil, _, e => by simp [fget] at e
  | _, _, .cons (a := p) (b := q) (l₁ := fs) (l₂ := gs) r t, ha, e => by
    obtain ⟨g, y⟩ := q
    by_cases h : p.1 = f
    · have e2 : fget (p :: fs) f = some p.2 := by simp [fget, List.find?_cons, h]
      rw [e2] at e; cases e
      refine ⟨y, ?_, r.2⟩
      rw [List.lookup_cons, show g = R.fnm f from by rw [← h]; exact r.1]
      simp
    · have e2 : fget (p :: fs) f = fget fs f := by simp [fget, List.find?_cons, h]
      rw [e2] at e
      obtain ⟨v, h1, h2⟩ := fr_get ok hc t (fun p hp => ha p (List.mem_cons_of_mem _ hp)) e
      refine ⟨v, ?_, h2⟩
      rw [List.lookup_cons]
      have hne : (R.fnm f == g) = false := by
        rw [show g = R.fnm p.1 from r.1]
        refine beq_eq_false_iff_ne.mpr fun z => h ?_
        exact (ok.inj c f p.1 hc (ha p List.mem_cons_self) z).symm
      rw [hne]
      exact h1
theorem fr_none {R : Wr} {W : Wo} {x : Str} : ∀ {fs : List (Nat × D)} {gs : List (Str × V)}, FRs R W fs gs → (∀ p ∈ fs, R.fnm p.1 ≠ x) → gs.lookup x = none
  | _, _, .nil, _ => rfl
  | _, _, .cons (a := p) (b := q) (l₁ := fs) (l₂ := gs) r t, ha => by
    obtain ⟨g, y⟩ := q
    rw [List.lookup_cons]
    have hne : (x == g) = false := by
      rw [show g = R.fnm p.1 from r.1]
      exact beq_eq_false_iff_ne.mpr (Ne.symm (ha p List.mem_cons_self))
    rw [hne]
    exact fr_none t fun p hp => ha p (List.mem_cons_of_mem _ hp)
section
variable {X : Cx} {B : Bx} {pos : Pos}
theorem s_fld (x : XOk X B) {a : Expr} {ea : E} {f : Nat} (ha : PE X a (tE B ea)) (hb : attributeBase a (B.R.T.fnm f) X.env (eval a X.env) = eval a X.env) : PE X (.Attribute a (B.R.T.fnm f) pos) (tE B (.fld ea f)) :=
  (pe_fld ha hb).impW fun σ H Q ⟨W, σd, h, e, hr, w⟩ => by
    subst e
    simp only [wpE] at w
    refine step1 x hr w fun d1 h1 W1 v1 w l1 hr1 r1 => ?_
    obtain ⟨n, c, fs, v, e1, ⟨e2, e3⟩, e4, w⟩ := w
    subst e1
    cases r1 with
    | loc e =>
      obtain ⟨hu, e5, dx, gs, e6, rf, _, ha⟩ := hr1.hr.loc e e2
      rw [x.go] at e3
      obtain ⟨h2, h3⟩ := x.wr.cls c f e3
      obtain ⟨v, h4, r⟩ := fr_get x.wr e3 rf ha e4
      refine ⟨_, B.R.cls c, dx, gs, v, rfl, by rw [e5, e6], ?_, ?_, h4, w W1 v l1 hr1.hr r⟩
      · rw [x.K]; exact h2
      · rw [x.K]; exact h3

/-! ### isinstance -/
def tyN : Ty → String
  | .int => "int" | .bool => "bool" | .str => "str" | .tuple => "tuple"
/-- names of built-ins that the program's modules do not use for themselves -/
def isFree (R : Wr) (n : Str) : Prop := R.mg n = none
theorem r_isi (x : XOk X B) {pins : List (Addr × Obj)} {s : Shared} {σ : L2.St} {W : Wo} {h : Hm} {d : D} {v : V} {t : Ty} {b : Bool} (hr : HR B.R W h) (r : VR B.R W d v) (e : isiD h t d = some b) : ∃ u, TyX X.K W.H v u ∧ PySem.W.kitOne X.K u (.type (tyN t)) = some b := by
  have k : ∀ {a c : String} {r : Bool}, kitB a c = some r → PySem.W.kitOne X.K (.type a) (.type c) = some r := fun h => kit_ty h
  have lst : ∀ {a : Addr} {vs : List V}, v = .ref a → W.H a = some (.lst vs) → b = false → ∃ u, TyX X.K W.H v u ∧ PySem.W.kitOne X.K u (.type (tyN t)) = some b := by
    intro a vs e1 e2 e3
    subst e1 e3
    refine ⟨_, .base (.lst e2), ?_⟩
    cases t <;> exact k (by decide +kernel)
  cases r with
  | non =>
    simp only [isiD] at e; cases e
    refine ⟨_, .base .non, ?_⟩
    cases t <;> exact k (by decide +kernel)
  | bl c =>
    simp only [isiD] at e; cases e
    refine ⟨_, .base (.bl c), ?_⟩
    cases t <;> exact k (by decide +kernel)
  | int i =>
    simp only [isiD] at e; cases e
    refine ⟨_, .base (.int i), ?_⟩
    cases t <;> exact k (by decide +kernel)
  | str z =>
    simp only [isiD] at e; cases e
    refine ⟨_, .base (.str _), ?_⟩
    cases t <;> exact k (by decide +kernel)
  | tup ta rs =>
    simp only [isiD] at e; cases e
    rcases ta with ta | ⟨o, its, n, hl, hc, _⟩
    · refine ⟨_, .base (.tup ta.2.2), ?_⟩
      cases t <;> exact k (by decide +kernel)
    · refine ⟨_, .kTuple (by rw [x.K]; exact hl) hc, ?_⟩
      cases t <;> exact k (by decide +kernel)
  | lst q rs =>
    simp only [isiD] at e; cases e
    exact lst rfl q.2.2 rfl
  | loc en =>
    rename_i n a
    cases hn : h[n]? with
    | none => simp [isiD, hn] at e
    | some o =>
      cases o with
      | lst ds =>
        obtain ⟨hu, e1, ys, e2, rs⟩ := hr.loc en hn
        simp only [isiD, hn] at e
        cases e
        exact lst rfl (by rw [e1, e2]) rfl
      | _ => simp [isiD, hn] at e
  | fn f => simp [isiD] at e
  | scr _ => simp [isiD] at e
theorem boot_ty : ∀ t : Ty, bootBuiltins (tyN t) = some (.type (tyN t))
  | .int => by decide +kernel | .bool => by decide +kernel | .str => by decide +kernel | .tuple => by decide +kernel
theorem ty_free : ∀ t : Ty, (Str.ofString (tyN t)) ≠ "__name__" ∧ ((Str.ofString (tyN t)) == ("__debug__" : Str)) = false
  | .int => by decide | .bool => by decide | .str => by decide | .tuple => by decide
theorem s_isi (x : XOk X B) {a : Expr} {ea : E} {t : Ty} {p p2 : Pos} (ha : PE X a (tE B ea)) (hg : Gl X "isinstance") (hm : X.mg "isinstance" = none) (hg2 : Gl X (tyN t)) (hm2 : X.mg (tyN t) = none)
    (he : starEach [a, .Name (tyN t) p2] X.env = (false, eval a X.env) :: starEach [.Name (tyN t) p2] X.env) (he2 : starEach [.Name (tyN t) p2] X.env = (false, eval (.Name (tyN t) p2) X.env) :: starEach [] X.env) (hpl : (backTo pos (starEach [.Name (tyN t) p2] X.env)).any (·.1) = false) :
    PE X (.Call (.Name "isinstance" p) [a, .Name (tyN t) p2] [] pos) (tE B (.isi ea t)) :=
  (pe_callB call_isi hg hm boot_isinstance (pa_cons ha (pa_cons (pe_bltn (v := .ty (tyN t)) (u := .type (tyN t)) hg2 hm2 (boot_ty t) rfl (ty_free t).1 (ty_free t).2) pa_nil he2) he) (he := he) (hpl := hpl)).impW fun σ H Q ⟨W, σd, h, e, hr, w⟩ => by
    subst e
    simp only [wpE] at w
    refine step1 x hr w fun d1 h1 W1 v1 w l1 hr1 r1 => ?_
    obtain ⟨b, e, w⟩ := w
    obtain ⟨u, h2, h3⟩ := r_isi x (pins := []) (s := X.s_0) (σ := σ) hr1.hr r1 e
    exact ⟨v1, .ty (tyN t), u, _, b, rfl, .ty _, h2, h3, w W1 _ l1 hr1.hr (.bl b)⟩

/-! ### calls -/
/-- what a callee may let out -/
theorem PE_ex {Q : PX} {W : Wo} {h : Hm} : True := trivial
def wXE (B : Bx) : XK := fun cls d H => ∃ c W h, cls = .ref (B.R.exa c) ∧ d = none ∧ W.H = H ∧ Le B.W0 W ∧ HR B.R W h ∧ B.Ex c h
theorem passX (x : XOk X B) : ∀ σ, PassesAt (L2.CX X.prog X.w) X σ (wXE B) := fun σ => passAt (W := wX B) x.tk σ
theorem passXX (x : XOk X B) : Passes (L2.CX X.prog X.w) X (wXE B) := fun pins σ H s e s' I c => passX x σ pins H s e s' I c
/-- the callee's promise at a call -/
theorem sp_call (x : XOk X B) {W0 W : Wo} {h : Hm} {ds : List D} {vs : List V} {f : Nat} {Q : VK} {Qd : PD} (l0 : Le B.W0 W) (hr : HR B.R W h) (rs : VRs B.R W ds vs) (w : B.Γ.call f ds h Qd B.Ex) (hq : ∀ d h', Qd d h' → PQ B.R W Q d h') : spM B.R B.Γ f vs W.H Q (wXE B) :=
  ⟨W, h, ds, rfl, hr, rs, x.mono f ds h _ _ _ _ hq (fun c h' w W' l r => ⟨c, W', h', rfl, rfl, rfl, l0.trans l, r, w⟩) w⟩
theorem fnX (x : XOk X B) {f : Nat} (hf : f < B.R.T.nf) : FnOk X.prog X.w X.K X.mg X.base (L2.CX X.prog X.w) B.lev (B.R.fna f) (B.R.fd f) (B.R.T.ps f) (spM B.R B.Γ f) := by
  rw [x.P, x.w, x.K, x.mg, x.base]
  exact x.fn f hf
theorem bndX (x : XOk X B) {f : Nat} (hf : f < B.R.T.nf) : Binds X.K (B.R.fd f) (B.R.T.ps f) [] := by rw [x.K]; exact x.wr.bnd f hf
theorem kpX (x : XOk X B) {f : Nat} (hf : f < B.R.T.nf) : PySem.W.keepIn X.K (.ref (B.R.fna f)) = true := by rw [x.K]; exact x.wr.kp f hf
theorem pe_callS0 {CX : CXT} {k : Nat} {f : Addr} {fd : FuncData} {ps : List Str} {sp : Sp} {E : XK} {x : Str} {p : Pos} (F : FnOk X.prog X.w X.K X.mg X.base CX k f fd ps sp) (hr : Room k X.A) (hg : Gl X x) (hm : X.mg x = some (.ref f)) (hk : PySem.W.keepIn X.K (.ref f) = true) (hb : Binds X.K fd ps []) (hx : ∀ σ, PassesAt CX X σ E)
    (hdb : (x == ("__debug__" : Str)) = false) : PE X (.Call (.Name x p) [] [] pos) (fun σ H Q => sp [] H Q E) := by
  refine ⟨fun pins s σ H Q I h => ?_⟩
  refine wpAny_Call_Name_kw (ld_glob I hg hm ?_ hdb)
  exact PySem.W.callWith_K0 I.kIn hk (run_fnS (us := []) (vs := []) (E := fun _ => E) F hr hb (hx σ) I .nil h)
theorem s_call (x : XOk X B) {a : Expr} {as : List Expr} {f : Nat} {es : Es} {p : Pos} (hf : f < B.R.T.nf) (hgf : B.R.T.isg f = true) (hg : Gl X (B.R.T.fnn f)) (ha : PA X (a :: as) (tEs B es)) (hdb : (B.R.T.fnn f == ("__debug__" : Str)) = false)
    (he : starEach (a :: as) X.env = (false, eval a X.env) :: starEach as X.env) (hpl : (backTo pos (starEach as X.env)).any (·.1) = false) : PE X (.Call (.Name (B.R.T.fnn f) p) (a :: as) [] pos) (tE B (.call f es)) :=
  (pe_callS (E := fun _ => wXE B) (fnX x hf) (x.roomL.mono (by omega)) hg (by rw [x.mg]; exact x.wr.glo f hgf) (kpX x hf) (bndX x hf) (passX x) ha hdb he hpl).impW fun σ H Q ⟨W, σd, h, e, hr, w⟩ => by
    subst e
    simp only [wpE] at w
    refine steps x hr w fun ds h1 W1 vs w l1 hr1 rs => ?_
    exact sp_call (W0 := W) x hr1.le hr1.hr rs w fun d h' q => q.le l1
theorem s_callv (x : XOk X B) {fe a : Expr} {as : List Expr} {eo : E} {es : Es} (hfe : PE X fe (tE B eo)) (ha : PA X (a :: as) (tEs B es)) (he : starEach (a :: as) X.env = (false, eval a X.env) :: starEach as X.env) (hpl : (backTo pos (starEach as X.env)).any (·.1) = false)
    (ht : eval (.Call fe (a :: as) [] pos) X.env = (do callWith pos (← eval fe X.env) [] (backTo pos (starEach (a :: as) X.env)) (backToKw pos (keywordEach [] X.env)))) : PE X (.Call fe (a :: as) [] pos) (tE B (.callv eo es)) := by
  refine ⟨fun pins s σ H Q I ⟨W, σd, h, e, hr, w⟩ => ?_⟩
  subst e
  simp only [wpE] at w
  have z : tE B eo σ W.H (fun v H1 => ∃ f W1 h1, v = .ref (B.R.fna f) ∧ f < B.R.T.nf ∧ W1.H = H1 ∧ Le W W1 ∧ B.Re W1 σd h1 σ ∧ wpEs B.Γ B.Ex es σd h1 fun ds h2 => B.Γ.call f ds h2 (PQ B.R W Q) B.Ex) := step1 x hr w fun d1 h1 W1 v1 w l1 hr1 r1 => by
    obtain ⟨f, e, w⟩ := w
    subst e
    cases r1 with
    | fn _ hf => exact ⟨f, W1, h1, rfl, hf, rfl, l1, hr1, w⟩
  refine Call_ (thn (hfe.run pins s σ W.H _ I z) fun u s1 ⟨v, H1, I1, r1, f, W1, h1, ev, hf, eH, l1, hr1, w⟩ => ?_) ht
  subst ev eH
  obtain rfl : u = .ref (B.R.fna f) := r1
  have z2 : tEs B es σ W1.H (fun vs H2 => spM B.R B.Γ f vs H2 Q (wXE B)) := steps x hr1 w fun ds h2 W2 vs w l2 hr2 rs => sp_call (W0 := W) x hr2.le hr2.hr rs w fun d h' q => q.le (l1.trans l2)
  refine PySem.W.callWith_K (h₀ := X.base) I1.ok.mod.kin (kpX x hf) (thn (ha.run pos pins s1 σ W1.H _ I1 z2) fun us s2 ⟨vs, H2, I2, r, q⟩ => ⟨I2.kIn, ?_⟩) he hpl
  exact run_fnS (E := fun _ => wXE B) (fnX x hf) (x.roomL.mono (by omega)) (bndX x hf) (passX x σ) I2 r q
theorem s_call0 (x : XOk X B) {f : Nat} {p : Pos} (hf : f < B.R.T.nf) (hgf : B.R.T.isg f = true) (hg : Gl X (B.R.T.fnn f)) (hdb : (B.R.T.fnn f == ("__debug__" : Str)) = false) : PE X (.Call (.Name (B.R.T.fnn f) p) [] [] pos) (tE B (.call f .nil)) :=
  (pe_callS0 (E := wXE B) (fnX x hf) (x.roomL.mono (by omega)) hg (by rw [x.mg]; exact x.wr.glo f hgf) (kpX x hf) (bndX x hf) (passX x) hdb).impW fun σ H Q ⟨W, σd, h, e, hr, w⟩ => by
    subst e
    simp only [wpE, wpEs] at w
    exact sp_call (W0 := W) x hr.le hr.hr .nil w fun d h' q => q
theorem s_meth (x : XOk X B) {o a : Expr} {as : List Expr} {m : Nat} {eo : E} {es : Es} {apos : Pos} {pl : Sem Bool} (hf : m < B.R.T.nf) (hm : B.R.T.ism m = true) (ho : PE X o (tE B eo)) (ha : PA X (a :: as) (tEs B es))
    (he : starEach (a :: as) X.env = (false, eval a X.env) :: starEach as X.env) (hpl : (backTo pos (starEach as X.env)).any (·.1) = false)
    (ht : eval (.Call (.Attribute o (B.R.T.fnn m) apos) (a :: as) [] pos) X.env = (do
      let ov ← eval o X.env
      standAt apos.atName
      let (f, first) ← holding [ov] (getMethod ov (B.R.T.fnn m) pl)
      callWith pos f first (backTo pos (starEach (a :: as) X.env)) (backToKw pos (keywordEach [] X.env)))) :
    PE X (.Call (.Attribute o (B.R.T.fnn m) apos) (a :: as) [] pos) (tE B (.meth m eo es)) :=
  (pe_meth (pl := pl) ho (C := B.R.cls (B.R.T.mcls m)) (m := B.R.T.fnn m) (f := B.R.fna m) (by rw [x.K]; exact (x.wr.met m hm).1) (by rw [x.K]; exact (x.wr.met m hm).2) (fnX x hf) (x.roomL.mono (by omega)) (bndX x hf) .nil (passXX x) ha he hpl ht).impW fun σ H Q ⟨W, σd, h, e, hr, w⟩ => by
    subst e
    simp only [wpE] at w
    refine step1 x hr w fun d1 h1 W1 v1 w l1 hr1 r1 => ?_
    obtain ⟨n, fs, e1, e2, w⟩ := w
    subst e1
    cases r1 with
    | loc e =>
      rename_i a'
      obtain ⟨hu, e5, dx, gs, e6, rf, _, hal⟩ := hr1.hr.loc e e2
      have hM := (x.wr.met m hm).2
      rw [x.gm] at e6 hal
      refine ⟨a', dx, gs, rfl, by rw [e5, e6], ?_, ?_⟩
      · refine fr_none rf fun p hp z => ?_
        have := (x.wr.cls _ _ (hal p hp)).2
        have h2 := hM.at_
        have h3 : PySem.W.findIn B.R.K (.ref (B.R.cls (B.R.T.mcls m))) (B.R.fnm p.1) = some none := this
        rw [z, h2] at h3
        cases h3
      · refine steps x hr1 w fun ds h2 W2 vs w l2 hr2 rs => ?_
        rw [List.append_nil]
        exact sp_call (W0 := W) x hr2.le hr2.hr (.cons (.loc (l2.toLw.ix e)) rs) w fun d h' q => q.le (l1.trans l2)
theorem s_meth0 (x : XOk X B) {o : Expr} {m : Nat} {eo : E} {apos : Pos} {pl : Sem Bool} (hf : m < B.R.T.nf) (hm : B.R.T.ism m = true) (ho : PE X o (tE B eo))
    (ht : eval (.Call (.Attribute o (B.R.T.fnn m) apos) [] [] pos) X.env = (do
      let ov ← eval o X.env
      standAt apos.atName
      let (f, first) ← holding [ov] (getMethod ov (B.R.T.fnn m) pl)
      callWith pos f first (backTo pos (starEach [] X.env)) (backToKw pos (keywordEach [] X.env)))) :
    PE X (.Call (.Attribute o (B.R.T.fnn m) apos) [] [] pos) (tE B (.meth m eo .nil)) :=
  (pe_meth0 (pl := pl) ho (C := B.R.cls (B.R.T.mcls m)) (m := B.R.T.fnn m) (f := B.R.fna m) (by rw [x.K]; exact (x.wr.met m hm).1) (by rw [x.K]; exact (x.wr.met m hm).2) (fnX x hf) (x.roomL.mono (by omega)) (bndX x hf) .nil (passXX x) ht).impW fun σ H Q ⟨W, σd, h, e, hr, w⟩ => by
    subst e
    simp only [wpE, wpEs] at w
    refine step1 x hr w fun d1 h1 W1 v1 w l1 hr1 r1 => ?_
    obtain ⟨n, fs, e1, e2, w⟩ := w
    subst e1
    cases r1 with
    | loc e =>
      rename_i a'
      obtain ⟨hu, e5, dx, gs, e6, rf, _, hal⟩ := hr1.hr.loc e e2
      have hM := (x.wr.met m hm).2
      rw [x.gm] at e6 hal
      refine ⟨a', dx, gs, rfl, by rw [e5, e6], ?_, ?_⟩
      · refine fr_none rf fun p hp z => ?_
        have := (x.wr.cls _ _ (hal p hp)).2
        have h2 := hM.at_
        have h3 : PySem.W.findIn B.R.K (.ref (B.R.cls (B.R.T.mcls m))) (B.R.fnm p.1) = some none := this
        rw [z, h2] at h3
        cases h3
      · exact sp_call (W0 := W) x hr1.le hr1.hr (.cons (.loc e) .nil) w fun d h' q => q.le l1
/-- a new instance -/
theorem alloc_ins {R : Wr} {W : Wo} {h : Hm} {p dx : Addr} {c : Nat} (hr : HR R W h) (hp : W.H p = none) (hd : W.H dx = none) (hne : dx ≠ p) :
    ∃ W', W'.H = upd (upd W.H dx (.own p)) p (.ins (R.cls c) dx []) ∧ Le W W' ∧ HR R W' (h ++ [.ins c []]) ∧ VR R W' (.loc h.length) (.ref p) := by
  have l1 := Le.fresh (o := .own p) hr hd
  have r1 := hr.fresh (o := .own p) hd
  have hp1 : (W.at_ (upd W.H dx (.own p))).H p = none := by show upd W.H dx (.own p) p = none; rw [upd_ne (Ne.symm hne)]; exact hp
  refine ⟨_, rfl, l1.trans (Le.alloc r1 hp1), r1.alloc (o := .ins c []) hp1 ⟨dx, [], rfl, .nil, List.nodup_nil, fun p hp => by cases hp⟩, .loc ?_⟩
  show (W.m ++ [p])[h.length]? = some p
  rw [← hr.len, List.getElem?_append_right (Nat.le_refl _)]
  simp
theorem s_make (x : XOk X B) {a : Expr} {as : List Expr} {c : Nat} {es : Es} {p : Pos} (hf : B.R.T.init c < B.R.T.nf) (hc : B.R.T.isc c = true) (hg : Gl X (B.R.T.cnm c)) (ha : PA X (a :: as) (tEs B es)) (hdb : (B.R.T.cnm c == ("__debug__" : Str)) = false)
    (he : starEach (a :: as) X.env = (false, eval a X.env) :: starEach as X.env) (hpl : (backTo pos (starEach as X.env)).any (·.1) = false) : PE X (.Call (.Name (B.R.T.cnm c) p) (a :: as) [] pos) (tE B (.make c es)) :=
  (pe_make (C := B.R.cls c) (by rw [x.K]; exact (x.wr.mak c hc).2.1) (fnX x hf) x.roomL hg (by rw [x.mg]; exact (x.wr.mak c hc).2.2) (bndX x hf) .nil (passXX x) ha hdb he hpl).impW fun σ H Q ⟨W, σd, h, e, hr, w⟩ => by
    subst e
    simp only [wpE] at w
    refine steps x hr w fun ds h1 W1 vs w l1 hr1 rs => ?_
    intro xa dx hxa hdx hne
    rw [List.append_nil]
    obtain ⟨W2, e2, l2, r2, v2⟩ := alloc_ins (R := B.R) (c := c) hr1.hr hxa hdx hne
    rw [← e2]
    rw [x.gi] at w
    refine sp_call (W0 := W) x (hr1.le.trans l2) r2 (.cons v2 (rs.mono l2.toLw)) w fun d h' q => ?_
    obtain ⟨e, q⟩ := q
    subst e
    intro W3 v3 l3 r3 vr
    cases vr
    exact ⟨rfl, q W3 _ (l1.trans (l2.trans l3)) r3 (v2.mono l3.toLw)⟩
end
end Mi

set_option linter.all false
set_option maxRecDepth 100000
set_option maxHeartbeats 2000000
namespace Mi
open PySem PySem.Spec PyProof.Rows L2
/-! ## what is walked -/
/-- values stay values (whatever lists are being made) -/
structure Lv (W W' : Wo) : Prop where
  im : ∀ {a o}, W.im a o → W'.im a o
  ix : ∀ {n : Nat} {a : Addr}, W.m[n]? = some a → W'.m[n]? = some a
theorem Lw.lv {W W'} (l : Lw W W') : Lv W W' := ⟨fun h => l.im h, fun h => l.ix h⟩
theorem Lv.trans {W W1 W2} (a : Lv W W1) (b : Lv W1 W2) : Lv W W2 := ⟨fun h => b.im (a.im h), fun h => b.ix (a.ix h)⟩
section
variable {R : Wr} {W W' : Wo}
theorem TupAt.monoV (l : Lv W W') {a xs} (h : TupAt R W a xs) : TupAt R W' a xs := h.elim (fun h => .inl (l.im h)) .inr
theorem ScrAt.monoV (l : Lv W W') {a xs} (h : ScrAt R W a xs) : ScrAt R W' a xs := h.elim (fun ⟨o, h⟩ => .inl ⟨o, l.im h⟩) .inr
mutual
theorem VR.monoV (l : Lv W W') : ∀ {d v}, VR R W d v → VR R W' d v
  | _, _, .non => .non
  | _, _, .bl b => .bl b
  | _, _, .int i => .int i
  | _, _, .str s => .str s
  | _, _, .tup t r => .tup (t.monoV l) (VRs.monoV l r)
  | _, _, .lst n r => .lst (l.im n) (VRs.monoV l r)
  | _, _, .loc e => .loc (l.ix e)
  | _, _, .fn f q => .fn f q
  | _, _, .scr s => .scr (s.monoV l)
theorem VRs.monoV (l : Lv W W') : ∀ {ds vs}, VRs R W ds vs → VRs R W' ds vs
  | _, _, .nil => .nil
  | _, _, .cons h t => .cons (VR.monoV l h) (VRs.monoV l t)
end
theorem SR.monoV (l : Lv W W') {σd σ} (s : SR R W σd σ) : SR R W' σd σ :=
  ⟨s.len, fun i d e => let ⟨v, a, b⟩ := s.at_ i d e; ⟨v, a, b.monoV l⟩⟩
theorem OR.monoV (l : Lv W W') {a o ho} (r : OR R W a o ho) : OR R W' a o ho := by
  cases o with
  | lst ds => obtain ⟨xs, e, r⟩ := r; exact ⟨xs, e, r.monoV l⟩
  | sd kvs => obtain ⟨ks, e, r, nd⟩ := r; exact ⟨ks, e, Paired.imp r fun _ _ x => ⟨x.1, x.2.monoV l⟩, nd⟩
  | kd kvs => obtain ⟨es, e, r⟩ := r; exact ⟨es, e, Paired.imp r fun _ _ x => ⟨x.1, x.2.1, x.2.2.1.monoV l, let ⟨v, a, b⟩ := x.2.2.2; ⟨v, a, b.monoV l⟩⟩⟩
  | ins c fs => obtain ⟨dx, gs, e, r, nd⟩ := r; exact ⟨dx, gs, e, Paired.imp r fun _ _ x => ⟨x.1, x.2.monoV l⟩, nd⟩
  | frz kvs => obtain ⟨ob, es, e, r⟩ := r; exact ⟨ob, es, e, Paired.imp r fun _ _ x => ⟨x.1, x.2.1, x.2.2.1.monoV l, let ⟨v, a, b⟩ := x.2.2.2; ⟨v, a, b.monoV l⟩⟩⟩
end
/-- the walk J gives the items xs, while src stands -/
def JOk (R : Wr) (J : It) (W0 : Wo) (xs : List D) (src : Src) : Prop := ∀ i W h, Lv W0 W → HR R W h → still src h →
  (∀ d, xs[i]? = some d → J.go i W.H ∧ ∀ v H', J.yld i W.H v H' → ∃ W', W'.H = H' ∧ Le W W' ∧ HR R W' h ∧ VR R W' d v) ∧ (xs[i]? = none → J.stop i W.H)
theorem JOk.imp {R J W W' xs src} (j : JOk R J W xs src) (l : Lv W W') : JOk R J W' xs src := fun i W2 h l2 => j i W2 h (l.trans l2)
def tI (B : Bx) (e : E) : TI := fun σ H R => ∃ W σd h, W.H = H ∧ B.Re W σd h σ ∧ wpI B.Γ B.Ex e σd h fun xs src h' => ∀ W' J, Le W W' → HR B.R W' h' → JOk B.R J W' xs src → R J W'.H
theorem _root_.L2.PI.impW {X : Cx} {tg e : Expr} {t t' : TI} (h : PI X tg e t) (i : ∀ σ H Q, t' σ H Q → t σ H Q) : PI X tg e t' := ⟨fun pins s σ H Q I w => h.run pins s σ H Q I (i _ _ _ w)⟩
/-- a list, a tuple or a text -/
def iAny (K : PySem.W.Frag) (te : TE) : TI := fun σ H R => te σ H fun x H1 => (∃ a, x = .ref a ∧ (∃ xs, SqL K H1 a xs) ∧ R (Itl K a) H1) ∨ (∃ a, x = .ref a ∧ (∃ xs, SqT K H1 a xs) ∧ R (Itt K a) H1) ∨ ∃ z, x = .str z ∧ R (Its z) H1
theorem pi_any {X : Cx} {tg e : Expr} {te : TE} (he : PE X e te) : PI X tg e (iAny X.K te) := by
  refine ⟨fun pins s σ H R I h => ?_⟩
  refine thn (he.run pins s σ H _ I h) fun v s1 ⟨x, H1, I1, r1, q1⟩ => ?_
  rcases q1 with ⟨a, e, ⟨xs, hq⟩, q⟩ | ⟨a, e, ⟨xs, hq⟩, q⟩ | ⟨z, ex, q⟩
  · subst e
    cases r1
    obtain ⟨its, rv, p, hz⟩ := I1.list hq
    exact wpAny_pyIter_list p.isList (pi_one (tk := s1.toks) I1 _ (turn_list a _) ⟨_, Heap.get?_push_size _ rfl, rfl, rfl⟩ q)
  · subst e
    cases r1
    obtain ⟨its, rv, p, hz⟩ := I1.tuple hq
    exact wpAny_pyIter_tuple (show s1.heap.IsTuple a its.toArray from p) (pi_one (tk := s1.toks) I1 _ (turn_tuple a _) ⟨_, Heap.get?_push_size _ rfl, rfl, rfl⟩ q)
  · subst ex
    obtain ⟨t, rfl⟩ := r1
    cases ha : z.cps.all (· < 128)
    · exact wpAny_pyIter_wide ha (pi_one (tk := s1.toks) I1 _ (turn_str _ z t "str_iterator" (.inr rfl)) ⟨_, Heap.get?_push_size _ rfl, rfl, rfl⟩ q)
    · exact wpAny_pyIter_ascii ha (pi_one (tk := s1.toks) I1 _ (turn_str _ z t "str_ascii_iterator" (.inl rfl)) ⟨_, Heap.get?_push_size _ rfl, rfl, rfl⟩ q)
theorem VRs.none {R : Wr} {W : Wo} {ds : List D} {vs : List V} (r : VRs R W ds vs) {i : Nat} (e : ds[i]? = none) : vs.length ≤ i := by
  have := r.length
  have := List.getElem?_eq_none_iff.mp e
  omega
section
variable {X : Cx} {B : Bx} {pos : Pos}
theorem j_list (x : XOk X B) {W0 : Wo} {a : Addr} {vs : List V} {ds : List D} (im : W0.im a (.lst vs)) (rs : VRs B.R W0 ds vs) : JOk B.R (Itl X.K a) W0 ds none := by
  intro i W h l hr _
  have q : SqL X.K W.H a vs := .inl (.inl (l.im im).2.2)
  have rs := rs.monoV l
  refine ⟨fun d e => ?_, fun e => ⟨vs, q, rs.none e⟩⟩
  obtain ⟨v, e1, r⟩ := rs.get e
  refine ⟨⟨vs, v, q, e1⟩, fun v' H' y => ?_⟩
  obtain ⟨rfl, y⟩ := y
  have := y vs q
  rw [e1] at this; cases this
  exact ⟨W, rfl, Le.refl, hr, r⟩
theorem j_tup (x : XOk X B) {W0 : Wo} {a : Addr} {vs : List V} {ds : List D} (t : TupAt B.R W0 a vs) (rs : VRs B.R W0 ds vs) : JOk B.R (Itt X.K a) W0 ds none := by
  intro i W h l hr _
  have q : SqT X.K W.H a vs := sq_of x (t.monoV l)
  have rs := rs.monoV l
  refine ⟨fun d e => ?_, fun e => ⟨vs, q, rs.none e⟩⟩
  obtain ⟨v, e1, r⟩ := rs.get e
  refine ⟨⟨vs, v, q, e1⟩, fun v' H' y => ?_⟩
  obtain ⟨rfl, y⟩ := y
  have := y vs q
  rw [e1] at this; cases this
  exact ⟨W, rfl, Le.refl, hr, r⟩
theorem j_loc {W0 : Wo} {a : Addr} {n : Nat} {ds : List D} (hn : W0.m[n]? = some a) : JOk B.R (Itl X.K a) W0 ds (some (n, .lst ds)) := by
  intro i W h l hr st
  obtain ⟨hu, e1, vs, e2, rs⟩ := hr.loc (l.ix hn) st
  have q : SqL X.K W.H a vs := .inl (.inl (by rw [e1, e2]))
  refine ⟨fun d e => ?_, fun e => ⟨vs, q, rs.none e⟩⟩
  obtain ⟨v, e1, r⟩ := rs.get e
  refine ⟨⟨vs, v, q, e1⟩, fun v' H' y => ?_⟩
  obtain ⟨rfl, y⟩ := y
  have := y vs q
  rw [e1] at this; cases this
  exact ⟨W, rfl, Le.refl, hr, r⟩
theorem j_str {W0 : Wo} (s : List Nat) : JOk B.R (Its (tx s)) W0 (s.map fun c => .str [c]) none := by
  intro i W h l hr _
  have hs : ∀ j : Nat, (tx s).cps[j]? = s[j]? := fun j => by simp [tx]
  refine ⟨fun d e => ?_, fun e => ?_⟩
  · rw [List.getElem?_map] at e
    cases hc : s[i]? with
    | none => rw [hc] at e; cases e
    | some c =>
      rw [hc] at e; cases e
      refine ⟨?_, fun v' H' y => ?_⟩
      · show i < (tx s).cps.size
        have := (List.getElem?_eq_some_iff.mp hc).1
        simpa [tx] using this
      · obtain ⟨rfl, c', e1, rfl⟩ := y
        rw [hs, hc] at e1; cases e1
        exact ⟨W, rfl, Le.refl, hr, .str [c]⟩
  · show (tx s).cps.size ≤ i
    have := List.getElem?_eq_none_iff.mp e
    simpa [tx] using this
/-- what a value gives when it is walked -/
theorem i_val (x : XOk X B) {tg py : Expr} {e : E} (he : PE X py (tE B e)) (hw : ∀ Γ Ex σ h Q, wpI Γ Ex e σ h Q → wpE Γ Ex e σ h fun d h => onSome (srcOf h d) fun u => Q u.1 u.2 h) : PI X tg py (tI B e) :=
  (pi_any he).impW fun σ H R ⟨W, σd, h, e1, hr, w⟩ => by
    subst e1
    refine step1 x hr (hw _ _ _ _ _ w) fun d1 h1 W1 v1 w l1 hr1 r1 => ?_
    obtain ⟨u, eu, w⟩ := w
    cases r1 <;> simp only [srcOf] at eu <;> try contradiction
    · cases eu
      exact .inr (.inr ⟨_, rfl, w W1 _ l1 hr1.hr (j_str _)⟩)
    · rename_i a vs ds t rs
      cases eu
      exact .inr (.inl ⟨a, rfl, ⟨vs, sq_of x t⟩, w W1 _ l1 hr1.hr (j_tup x t rs)⟩)
    · rename_i a vs ds t rs
      cases eu
      exact .inl ⟨a, rfl, ⟨vs, .inl (.inl t.2.2)⟩, w W1 _ l1 hr1.hr (j_list x t rs)⟩
    · rename_i n a en
      cases hn : h1[n]? with
      | none => simp [hn] at eu
      | some o =>
        cases o with
        | lst ds =>
          simp only [hn] at eu
          cases eu
          obtain ⟨hu, e1, vs, e2, rs⟩ := hr1.hr.loc en hn
          exact .inl ⟨a, rfl, ⟨vs, .inl (.inl (by rw [e1, e2]))⟩, w W1 _ l1 hr1.hr (j_loc en)⟩
        | _ => simp [hn] at eu
/-- the expressions that are walked by their value -/
def isIt : E → Bool
  | .rng _ => false
  | .rng2 _ _ => false
  | .zip _ _ => false
  | .enum _ => false
  | .keys _ => false
  | _ => true
theorem i_of (x : XOk X B) {tg py : Expr} {e : E} (he : PE X py (tE B e)) (hi : isIt e = true) : PI X tg py (tI B e) := i_val x he fun Γ Ex σ h Q w => by
  cases e <;> first | (simp [isIt] at hi; done) | (simpa only [wpI] using w)
theorem j_rng {W0 : Wo} (lo : Int) (n : Nat) : JOk B.R (Itr lo n) W0 ((List.range n).map fun (k : Nat) => .int (lo + (k : Int))) none := by
  intro i W h l hr _
  refine ⟨fun d e => ?_, fun e => ?_⟩
  · rw [List.getElem?_map] at e
    cases hc : (List.range n)[i]? with
    | none => rw [hc] at e; cases e
    | some c =>
      rw [hc] at e; cases e
      obtain ⟨h1, h2⟩ := List.getElem?_eq_some_iff.mp hc
      simp at h1 h2
      subst h2
      refine ⟨h1, fun v' H' y => ?_⟩
      obtain ⟨rfl, rfl⟩ := y
      exact ⟨W, rfl, Le.refl, hr, .int _⟩
  · have := List.getElem?_eq_none_iff.mp e
    show n ≤ i
    simpa using this
theorem i_rng (x : XOk X B) {tg a : Expr} {ea : E} {p : Pos} (ha : PE X a (tE B ea)) (hg : Gl X "range") (hm : X.mg "range" = none) (hs : starEach [a] X.env = [(false, eval a X.env)]) (hs' : starEach [a] X.env = (false, eval a X.env) :: starEach [] X.env) :
    PI X tg (.Call (.Name "range" p) [a] [] pos) (tI B (.rng ea)) :=
  (pi_range1 hg hm (pa_cons ha pa_nil hs') hs).impW fun σ H R ⟨W, σd, h, e1, hr, w⟩ => by
    subst e1
    simp only [wpI] at w
    refine step1 x hr w fun d1 h1 W1 v1 w l1 hr1 r1 => ?_
    obtain ⟨n, e, b1, b2, w⟩ := w
    subst e
    cases r1
    exact ⟨n, rfl, by omega, by omega, w W1 _ l1 hr1.hr (j_rng 0 _)⟩
theorem i_rng2 (x : XOk X B) {tg a b : Expr} {ea eb : E} {p : Pos} (ha : PE X a (tE B ea)) (hb : PE X b (tE B eb)) (hg : Gl X "range") (hm : X.mg "range" = none) (hs : starEach [a, b] X.env = [(false, eval a X.env), (false, eval b X.env)]) (hs2 : starEach [b] X.env = [(false, eval b X.env)])
    (hs' : starEach [a, b] X.env = (false, eval a X.env) :: starEach [b] X.env) (hs2' : starEach [b] X.env = (false, eval b X.env) :: starEach [] X.env) : PI X tg (.Call (.Name "range" p) [a, b] [] pos) (tI B (.rng2 ea eb)) :=
  (pi_range2 hg hm (pa_cons ha (pa_cons hb pa_nil hs2') hs') hs hs2).impW fun σ H R ⟨W, σd, h, e1, hr, w⟩ => by
    subst e1
    simp only [wpI] at w
    refine step1 x hr w fun d1 h1 W1 v1 w l1 hr1 r1 => ?_
    refine step1 x hr1 w fun d2 h2 W2 v2 w l2 hr2 r2 => ?_
    obtain ⟨i, j, e, e', b, w2⟩ := w
    subst e'
    subst e
    cases r1
    cases r2
    exact ⟨i, j, rfl, by omega, w2 W2 _ (l1.trans l2) hr2.hr (j_rng i _)⟩
end
end Mi

set_option linter.all false
set_option maxRecDepth 100000
set_option maxHeartbeats 2000000
namespace Mi
open PySem PySem.Spec PyProof.Rows L2
/-! ## targets, comprehensions, loops -/
def gNames : List Nat → TGs
  | [] => gNil
  | i :: is => gCons (gName i) (gNames is)
def gOf (K : PySem.W.Frag) (tp : Bool) (tg : List Nat) : TG := match tp, tg with
  | false, [i] => gName i
  | true, tg => gTup K tg.length (gNames tg)
  | _, _ => fun _ _ _ _ => False
def setV : L2.St → List Nat → List V → L2.St
  | σ, i :: is, v :: vs => setV (σ.set i (some v)) is vs
  | σ, _, _ => σ
theorem gNames_ok {Q : L2.St → Hp → Prop} {H : Hp} : ∀ {tg : List Nat} {vs : List V} {σ : L2.St}, vs.length = tg.length → Q (setV σ tg vs) H → gNames tg vs σ H Q
  | [], [], _, _, q => ⟨rfl, q⟩
  | i :: tg, v :: vs, σ, hl, q => ⟨v, vs, rfl, gNames_ok (by simpa using hl) q⟩
  | [], _ :: _, _, hl, _ => by simp at hl
  | _ :: _, [], _, hl, _ => by simp at hl
theorem SR.setAll {R : Wr} {W : Wo} : ∀ {tg : List Nat} {ds : List D} {vs : List V} {σd : Sl} {σ : L2.St}, SR R W σd σ → VRs R W ds vs → SR R W (setAll σd tg ds) (setV σ tg vs)
  | [], _, _, _, _, s, r => by
    cases r <;> exact s
  | i :: tg, _, _, _, _, s, .nil => s
  | i :: tg, _, _, _, _, s, .cons r rs => by
    have h := SR.setAll (tg := tg) (s.set r i) rs
    exact h
theorem wipe_set {σ : L2.St} {i : Nat} {v : Option V} : ∀ {vs : List Nat}, i ∈ vs → L2.wipe (σ.set i v) vs = L2.wipe σ vs
  | w :: vs, h => by
    unfold L2.wipe
    by_cases hi : i ∈ vs
    · rw [wipe_set hi]
    · have e : i = w := by
        rcases List.mem_cons.mp h with e | e
        · exact e
        · exact absurd e hi
      subst e
      have aux : ∀ {vs : List Nat} {σ : L2.St}, i ∉ vs → L2.wipe (σ.set i v) vs = (L2.wipe σ vs).set i v := by
        intro vs
        induction vs with
        | nil => intro σ _; rfl
        | cons w vs ih =>
          intro σ h
          unfold L2.wipe
          rw [ih (fun q => h (List.mem_cons_of_mem _ q))]
          rw [List.set_comm]
          exact fun q => h (by rw [q]; exact List.mem_cons_self)
      rw [aux hi, List.set_set]
theorem wipe_setV {all : List Nat} : ∀ {tg : List Nat} {vs : List V} {σ : L2.St}, (∀ i ∈ tg, i ∈ all) → L2.wipe (setV σ tg vs) all = L2.wipe σ all
  | [], vs, σ, _ => by cases vs <;> rfl
  | i :: tg, [], σ, _ => rfl
  | i :: tg, v :: vs, σ, h => by
    show L2.wipe (setV (σ.set i (some v)) tg vs) all = _
    rw [wipe_setV (fun j hj => h j (List.mem_cons_of_mem _ hj)), wipe_set (h i List.mem_cons_self)]
theorem wipe_wipe {σ : L2.St} (all : List Nat) : ∀ {vs : List Nat}, (∀ i ∈ vs, i ∈ all) → L2.wipe (L2.wipe σ vs) all = L2.wipe σ all
  | [], _ => rfl
  | w :: vs, h => by
    show L2.wipe ((L2.wipe σ vs).set w none) all = _
    rw [wipe_set (h w List.mem_cons_self), wipe_wipe all fun i hi => h i (List.mem_cons_of_mem _ hi)]
theorem tgt {R : Wr} {K : PySem.W.Frag} {W : Wo} {tp : Bool} {tg : List Nat} {σd σ1 : Sl} {σ : L2.St} {d : D} {v : V} {Q : L2.St → Hp → Prop} (hK : ∀ {a xs}, TupAt R W a xs → SqT K W.H a xs) (s : SR R W σd σ) (r : VR R W d v) (e : bindT tp tg σd d = some σ1)
    (q : ∀ σ2, SR R W σ1 σ2 → (∀ all : List Nat, (∀ i ∈ tg, i ∈ all) → L2.wipe σ2 all = L2.wipe σ all) → Q σ2 W.H) : gOf K tp tg v σ W.H Q := by
  cases tp with
  | false =>
    cases tg with
    | nil => simp [bindT] at e
    | cons i tg =>
      cases tg with
      | nil =>
        simp only [bindT, Option.some.injEq] at e
        subst e
        exact q _ (s.set r i) fun all h => wipe_set (h i List.mem_cons_self)
      | cons j tg => simp [bindT] at e
  | true =>
    cases r with
    | tup t rs =>
      rename_i a vs ds
      simp only [bindT] at e
      split at e
      · rename_i hl
        cases e
        have hv : vs.length = tg.length := by rw [← rs.length]; exact hl
        exact ⟨a, vs, rfl, hK t, hv, gNames_ok hv (q _ (s.setAll rs) fun all h => wipe_setV h)⟩
      · cases e
    | _ => simp [bindT] at e

/-! ### comprehensions -/
/-- as Le, but for the list at p that is being made -/
structure LeX (W : Wo) (p : Addr) (W' : Wo) : Prop where
  x : W'.x = p :: W.x
  pre : ∃ ν, W'.m = W.m ++ ν ∧ ∀ a ∈ ν, W.H a = none
  keep : ∀ a o, W.im a o → W'.H a = some o
  there : ∀ a, W.H a ≠ none → W'.H a ≠ none
  hid : ∀ a ∈ W.x, W'.H a = W.H a
  pm : p ∉ W'.m
  new : W.H p = none
theorem LeX.lv {W p W'} (l : LeX W p W') : Lv W W' := by
  obtain ⟨ν, e, n⟩ := l.pre
  refine ⟨fun {a o} h => ⟨?_, ?_, l.keep a o h⟩, fun {n a} h => ?_⟩
  · rw [e]
    intro hx
    rcases List.mem_append.mp hx with q | q
    · exact h.1 q
    · have := h.2.2
      rw [n a q] at this; cases this
  · rw [l.x]
    intro hx
    rcases List.mem_cons.mp hx with q | q
    · subst q
      have := h.2.2
      rw [l.new] at this; cases this
    · exact h.2.1 q
  · rw [e, List.getElem?_append_left (List.getElem?_eq_some_iff.mp h).1]
    exact h
theorem LeX.to {W p W' W2} (l : LeX W p W') (k : Le W' W2) (pm : p ∉ W2.m) : LeX W p W2 := by
  obtain ⟨ν, e, n⟩ := l.pre
  obtain ⟨ν', e', n'⟩ := k.pre
  refine ⟨k.x.trans l.x, ⟨ν ++ ν', by rw [e', e, List.append_assoc], fun a ha => ?_⟩, fun a o h => k.keep a o (l.lv.im h), fun a h => k.there a (l.there a h), fun a ha => ?_, pm, l.new⟩
  · rcases List.mem_append.mp ha with q | q
    · exact n a q
    · have h1 := n' a q
      cases h : W.H a with
      | none => rfl
      | some o => exact absurd h1 (l.there a (by rw [h]; simp))
  · rw [k.hid a (by rw [l.x]; exact List.mem_cons_of_mem _ ha)]
    exact l.hid a ha
/-- p's own object is written -/
theorem LeX.put {W p W'} {o : HO} (hx : ∀ a ∈ W.x, W.H a ≠ none) (l : LeX W p W') : LeX W p (W'.at_ (upd W'.H p o)) :=
  ⟨l.x, l.pre, fun a u h => by
    show upd W'.H p o a = _
    rw [upd_ne (fun e => by rw [e] at h; have := h.2.2; rw [l.new] at this; cases this)]
    exact l.keep a u h, fun a h => upd_there a (l.there a h), fun a ha => by
    show upd W'.H p o a = _
    rw [upd_ne (fun e => hx a ha (by rw [e]; exact l.new))]
    exact l.hid a ha, l.pm, l.new⟩
theorem Lv.put {W : Wo} {p : Addr} {o : HO} (hp : p ∈ W.x) : Lv W (W.at_ (upd W.H p o)) :=
  ⟨fun {a u} h => ⟨h.1, h.2.1, by show upd W.H p o a = _; rw [upd_ne (fun e => h.2.1 (by rw [e]; exact hp))]; exact h.2.2⟩, fun h => h⟩
theorem HR.put {R : Wr} {W : Wo} {h : Hm} {p : Addr} {o : HO} (r : HR R W h) (hp : p ∈ W.x) : HR R (W.at_ (upd W.H p o)) h :=
  ⟨r.len, r.nd, fun a ha => ⟨upd_there a (r.xs a ha).1, (r.xs a ha).2⟩, fun n u a e1 e2 => by
    obtain ⟨ho, e, y⟩ := r.at_ n u a e1 e2
    refine ⟨ho, ?_, y.monoV (Lv.put hp)⟩
    show upd W.H p o a = _
    rw [upd_ne (fun q => (r.xs p hp).2 (by rw [← q]; exact List.mem_of_getElem? e2))]
    exact e⟩
theorem LeX.le {W W1 : Wo} {p W'} (l0 : Le W W1) (l : LeX W1 p W') : Le W { W' with x := W1.x } := by
  obtain ⟨ν, e, n⟩ := l0.pre
  obtain ⟨ν', e', n'⟩ := l.pre
  refine ⟨⟨l0.x, ⟨ν ++ ν', by show W'.m = _; rw [e', e, List.append_assoc], fun a ha => ?_⟩, fun a o h => l.keep a o (l0.im h), fun a h => l.there a (l0.there a h)⟩, fun a ha => ?_⟩
  · rcases List.mem_append.mp ha with q | q
    · exact n a q
    · have h1 := n' a q
      cases h : W.H a with
      | none => rfl
      | some o => exact absurd h1 (l0.there a (by rw [h]; simp))
  · show W'.H a = _
    rw [l.hid a (by rw [l0.x]; exact ha)]
    exact l0.hid a ha
/-- less is being made -/
theorem HR.less {R : Wr} {W : Wo} {h : Hm} {p : Addr} {x0 : List Addr} (e : W.x = p :: x0) (r : HR R W h) : HR R { W with x := x0 } h := by
  have l : Lv W { W with x := x0 } := ⟨fun {a o} h => ⟨h.1, fun q => h.2.1 (by rw [e]; exact List.mem_cons_of_mem _ q), h.2.2⟩, fun h => h⟩
  refine ⟨r.len, r.nd, fun a ha => r.xs a (by rw [e]; exact List.mem_cons_of_mem _ ha), fun n u a e1 e2 => ?_⟩
  obtain ⟨ho, e, y⟩ := r.at_ n u a e1 e2
  exact ⟨ho, e, y.monoV l⟩
section
variable {X : Cx} {B : Bx} {pos : Pos}
/-- inside a comprehension nothing is raised; the world is any -/
def tEn (B : Bx) (e : E) : TE := fun σ H Q => ∃ W0, tE { B with Ex := fun _ _ => False, W0 := W0 } e σ H Q
def tTn (B : Bx) (e : E) : TT := fun σ H Q => ∃ W0, tT { B with Ex := fun _ _ => False, W0 := W0 } e σ H Q
theorem s_n {py : Expr} {e : E} (h : ∀ W0, PE X py (tE { B with Ex := fun _ _ => False, W0 := W0 } e)) : PE X py (tEn B e) := ⟨fun pins s σ H Q I ⟨W0, w⟩ => (h W0).run pins s σ H Q I w⟩
theorem t_n {py : List Expr} {e : E} (h : ∀ W0, PTs X py (tT { B with Ex := fun _ _ => False, W0 := W0 } e)) : PTs X py (tTn B e) := ⟨fun pins s σ H Q I ⟨W0, w⟩ => (h W0).run pins s σ H Q I w⟩
theorem ts_nil : PTs X [] (tT B (.bl true)) := ⟨fun pins s σ H Q I w => pts_nil.run pins s σ H Q I (by
  obtain ⟨W, σd, h, e, hr, w⟩ := w
  subst e
  simp only [wpE] at w
  obtain ⟨b, e, q⟩ := w W Le.refl hr.hr
  cases e
  exact q)⟩
theorem VRs.snoc {R W} {ds : List D} {vs : List V} {d v} (r : VRs R W ds vs) (r1 : VR R W d v) : VRs R W (ds ++ [d]) (vs ++ [v]) := r.append (.cons r1 .nil)
/-- the reading of a comprehension -/
theorem comp_read (x : XOk X B) {tp : Bool} {tg : List Nat} {it t e : E} {σ : L2.St} {H : Hp} {Q : VK} (w : tF B (.comp tp tg it t e) σ H Q) : tLc (tI B it) (gOf X.K tp tg) (tTn B t) (tEn B e) tg σ H Q := by
  obtain ⟨W, σd, h, eH, hr, w⟩ := w
  subst eH
  simp only [wpE] at w
  refine ⟨W, σd, h, rfl, hr, wpI_mono x.mono it _ _ _ _ _ _ (fun _ _ z => z) (fun xs src h1 w W1 J l1 r1 j => ?_) w⟩
  intro Dd hD
  obtain ⟨hlim, w⟩ := w
  have s1 : SR B.R W1 (wipe σd tg) (L2.wipe σ tg) := (hr.sr.mono l1.toLw).wipe tg
  have lX : LeX W1 Dd { m := W1.m, x := Dd :: W1.x, H := upd W1.H Dd (.lst []) } :=
    ⟨rfl, ⟨[], by simp, by simp⟩, fun a o q => by show upd W1.H Dd _ a = _; rw [upd_ne (im_ne q hD)]; exact q.2.2, upd_there, fun a ha => upd_ne (fun e => (r1.xs a ha).1 (by rw [e]; exact hD)), r1.notin hD, hD⟩
  have rX : HR B.R { m := W1.m, x := Dd :: W1.x, H := upd W1.H Dd (.lst []) } h1 := by
    refine ⟨r1.len, r1.nd, fun a ha => ?_, fun n o a e1 e2 => ?_⟩
    · rcases List.mem_cons.mp ha with q | q
      · subst q; exact ⟨by show upd W1.H a _ a ≠ none; rw [upd_same]; simp, r1.notin hD⟩
      · exact ⟨upd_there a (r1.xs a q).1, (r1.xs a q).2⟩
    · obtain ⟨ho, e, y⟩ := r1.at_ n o a e1 e2
      exact ⟨ho, by show upd W1.H Dd _ a = _; rw [upd_ne (ne_of_none e hD)]; exact e, y.monoV lX.lv⟩
  refine ⟨fun i m Hh => ∃ (W2 : Wo) (h2 : Hm) (acc : List D) (accv : List V), W2.H = Hh ∧ LeX W1 Dd W2 ∧ HR B.R W2 h2 ∧ W2.H Dd = some (.lst accv) ∧ VRs B.R W2 acc accv ∧ m = xs.length - i ∧ i ≤ xs.length ∧ acc.length ≤ i ∧
    compW tp tg σd src (wpE B.Γ (fun _ _ => False) t) (wpE B.Γ (fun _ _ => False) e) (xs.drop i) acc h2 fun ds h => PQF B.R W Q (.lst ds) h, ⟨xs.length, ?_⟩, ?_⟩
  · exact ⟨_, h1, [], [], rfl, lX, rX, upd_same, .nil, by simp, Nat.zero_le _, by simp, by simpa using w⟩
  rintro i m Hh ⟨W2, h2, acc, accv, rfl, l2, r2, hDd, ra, rfl, hi, hal, w⟩
  by_cases hlt : i < xs.length
  · have ed : xs.drop i = xs[i] :: xs.drop (i + 1) := List.drop_eq_getElem_cons hlt
    rw [ed] at w
    obtain ⟨st, σ1, eb, w⟩ := w
    have ex : xs[i]? = some xs[i] := List.getElem?_eq_getElem hlt
    obtain ⟨hgo, hy⟩ := (j i W2 h2 l2.lv r2 st).1 _ ex
    refine .inr ⟨hgo, fun Hn => ∃ (W2 : Wo) (h2 : Hm) (acc : List D) (accv : List V), W2.H = Hn ∧ LeX W1 Dd W2 ∧ HR B.R W2 h2 ∧ W2.H Dd = some (.lst accv) ∧ VRs B.R W2 acc accv ∧ acc.length ≤ i + 1 ∧
      compW tp tg σd src (wpE B.Γ (fun _ _ => False) t) (wpE B.Γ (fun _ _ => False) e) (xs.drop (i + 1)) acc h2 fun ds h => PQF B.R W Q (.lst ds) h, fun H' ⟨W3, h3, acc3, accv3, e1, e2, e3, e4, e5, e6, e7⟩ => ⟨xs.length - (i + 1), by omega, W3, h3, acc3, accv3, e1, e2, e3, e4, e5, rfl, by omega, by omega, e7⟩, ?_⟩
    intro v H' y
    obtain ⟨W3, rfl, l3, r3, rv⟩ := hy v H' y
    have hDx : Dd ∈ W2.x := by rw [l2.x]; exact List.mem_cons_self
    have hDx3 : Dd ∈ W3.x := by rw [l3.x]; exact hDx
    refine tgt (fun t => sq_of x t) (s1.monoV (l2.lv.trans l3.toLw.lv)) rv eb fun σ2 s2 hw => ?_
    refine ⟨by rw [hw tg (fun i hi => hi)]; exact wipe_wipe tg (fun i hi => hi), ?_⟩
    refine ⟨W3, W3, σ1, h2, rfl, ⟨Le.refl, r3, s2⟩, wpE_mono x.mono t _ _ _ _ _ _ (fun _ _ z => z) (fun b h3 w W4 l4 r4 => ?_) w⟩
    rcases w with ⟨e1, w⟩ | ⟨e1, w⟩
    · refine ⟨true, e1, ?_⟩
      simp only [if_true]
      refine ⟨W4, W4, σ1, h3, rfl, ⟨Le.refl, r4, s2.mono l4.toLw⟩, wpE_mono x.mono e _ _ _ _ _ _ (fun _ _ z => z) (fun yd h4 w W5 yv l5 r5 ry => ?_) w⟩
      have hDx5 : Dd ∈ W5.x := by rw [l5.x, l4.x]; exact hDx3
      have hd5 : W5.H Dd = some (.lst accv) := by rw [l5.hid Dd (by rw [l4.x]; exact hDx3), l4.hid Dd hDx3, l3.hid Dd hDx]; exact hDd
      have lA := (l3.trans l4).trans l5
      refine ⟨accv, hd5, ?_, W5.at_ (upd W5.H Dd (.lst (accv ++ [yv]))), h4, acc ++ [yd], accv ++ [yv], rfl, (l2.to lA (r5.xs Dd hDx5).2).put (fun a ha => (r1.xs a ha).1), r5.put hDx5, upd_same, ?_, by simp; omega, w⟩
      · rw [← ra.length]
        have : xs.length ≤ lim := hlim
        have hl : lim < sizeLine := by rw [sizeLine_eq]; decide
        omega
      · exact ((ra.mono lA.toLw).snoc ry).monoV (Lv.put hDx5)
    · refine ⟨false, e1, ?_⟩
      simp only [Bool.false_eq_true, if_false]
      have hd4 : W4.H Dd = some (.lst accv) := by rw [l4.hid Dd hDx3, l3.hid Dd hDx]; exact hDd
      exact ⟨W4, h3, acc, accv, rfl, l2.to (l3.trans l4) (r4.xs Dd (by rw [l4.x]; exact hDx3)).2, r4, hd4, ra.mono (l3.trans l4).toLw, by omega, w⟩
  · have ei : i = xs.length := by omega
    subst ei
    rw [List.drop_length] at w
    obtain ⟨st, w⟩ := w
    refine .inl ⟨(j xs.length W2 h2 l2.lv r2 st).2 (by simp), ?_⟩
    obtain ⟨ds, e, w⟩ := w
    cases e
    have hW : ({ ({ W2 with x := W1.x } : Wo) with x := Dd :: W1.x } : Wo) = W2 := by
      rw [← l2.x]
    refine w { W2 with x := W1.x } Dd accv (l2.le l1) (r2.less l2.x) l2.pm (r1.notinx hD) ?_ hDd (by rw [hW]; exact ra) (by rw [hW]; exact r2)
    cases eh : W.H Dd with
    | none => rfl
    | some o => exact absurd hD (l1.there Dd (by rw [eh]; simp))
end
end Mi

set_option linter.all false
set_option maxRecDepth 100000
set_option maxHeartbeats 2000000
namespace Mi
open PySem PySem.Spec PyProof.Rows L2
/-! ## statements -/
/-- the ways on, as the walk's ends have them -/
def KR (B : Bx) (W : Wo) (D : Ends) : Ks where
  nx := fun σd h => ∀ W' σ, Le W W' → B.Re W' σd h σ → D.nx σ W'.H
  rt := PQ B.R W D.rt
  bk := fun σd h => ∀ W' σ, Le W W' → B.Re W' σd h σ → D.bk σ W'.H
  ct := fun σd h => ∀ W' σ, Le W W' → B.Re W' σd h σ → D.ct σ W'.H
theorem KR.le {B W W' D} (l : Le W W') : (KR B W D).Le (KR B W' D) :=
  ⟨fun _ _ q W2 σ l2 r => q W2 σ (l.trans l2) r, fun _ _ q => q.le l, fun _ _ q W2 σ l2 r => q W2 σ (l.trans l2) r, fun _ _ q W2 σ l2 r => q W2 σ (l.trans l2) r⟩
def tS (B : Bx) (s : S) : TS := fun D σ H => ∃ W σd h, W.H = H ∧ B.Re W σd h σ ∧ wpS B.Γ B.Ex s σd h (KR B W D)
def tSs (B : Bx) (s : Ss) : TS := fun D σ H => ∃ W σd h, W.H = H ∧ B.Re W σd h σ ∧ wpSs B.Γ B.Ex s σd h (KR B W D)
section
variable {X : Cx} {B : Bx} {pos : Pos}
theorem stepS (x : XOk X B) {b : Ss} {W' : Wo} {σd : Sl} {h : Hm} {σ : L2.St} {D : Ends} {K : Ks} (hr : B.Re W' σd h σ) (w : wpSs B.Γ B.Ex b σd h K) (k : K.Le (KR B W' D)) : tSs B b D σ W'.H :=
  ⟨W', σd, h, rfl, hr, wpSs_mono x.mono b _ _ _ _ _ _ (fun _ _ z => z) k w⟩
theorem ss_nil : PSs X [] (tSs B .nil) := pss_nil.impW fun σ H D ⟨W, σd, h, e, hr, w⟩ => by
  subst e
  simp only [wpSs] at w
  exact w W σ Le.refl hr
theorem ss_cons (x : XOk X B) {py : Stmt} {pys : List Stmt} {s : S} {ss : Ss} (h1 : PS X py (tS B s)) (h2 : PSs X pys (tSs B ss)) : PSs X (py :: pys) (tSs B (.cons s ss)) :=
  (pss_cons h1 h2).impW fun σ H D ⟨W, σd, h, e, hr, w⟩ => by
    subst e
    simp only [wpSs] at w
    refine ⟨W, σd, h, rfl, hr, wpS_mono x.mono s B.Ex B.Ex σd h _ (KR B W { D with nx := tSs B ss D }) (fun _ _ z => z) ?_ w⟩
    exact ⟨fun σd' h' w W' σ' l r => stepS x r w (KR.le l), fun _ _ z => z, fun _ _ z => z, fun _ _ z => z⟩
theorem st_ex (x : XOk X B) {a : Expr} {e : E} (ha : PE X a (tE B e)) (hs : swapsWith a none pos.line X.env = pure false) : PS X (.Expr a pos) (tS B (.ex e)) :=
  (ps_expr ha hs).impW fun σ H D ⟨W, σd, h, e1, hr, w⟩ => by
    subst e1
    simp only [wpS] at w
    exact step1 x hr w fun d h1 W1 v w l1 hr1 r1 => w W1 σ l1 hr1
/-- what a store to a name wants of a value -/
theorem set_read (x : XOk X B) {i : Nat} {e : E} {σ : L2.St} {H : Hp} {D : Ends} (w : tS B (.set i e) D σ H) : tE B e σ H fun v H1 => D.nx (σ.set i (some v)) H1 := by
  obtain ⟨W, σd, h, e1, hr, w⟩ := w
  subst e1
  simp only [wpS] at w
  refine step1 x hr w fun d h1 W1 v w l1 hr1 r1 => ?_
  exact w W1 _ l1 ⟨hr1.le, hr1.hr, hr1.sr.set r1 i⟩
theorem st_set (x : XOk X B) {i : Nat} {n : Str} {a : Expr} {e : E} {p : Pos} (hi : X.N[i]? = some n) (hx : Loc X.env.scope n) (ha : PE X a (tE B e)) (hs : swapsWith a (some (.Name n p)) pos.line X.env = pure false) (hf : X.fn n = true ∨ X.env.scope.names.lookup n = some .local) :
    PS X (.Assign [.Name n p] a pos) (tS B (.set i e)) :=
  (ps_set x.nd hi hx ha hs hf).impW fun σ H D w => set_read x w
/-- the comprehension as a value, as a new list -/
theorem f_comp (x : XOk X B) {tp : Bool} {tgl : List Nat} {it t e : E} {elt tg iter : Expr} {ifs : List Expr} {scope : Scope} {own : List (Str × Nat)} (hi : PI X tg iter (tI B it)) (ok : BlkOk X.N X.env.scope scope own) (ho : own.map (·.2) = tgl)
    (hg : ∀ (s : Shared) (H : Hp) (C : Addr) (cl : List (Str × Addr)) (fp : List Addr), PG (X.blk s H scope (compEnvC scope cl C X.env) fp) tg (gOf X.K tp tgl))
    (ht : ∀ (s : Shared) (H : Hp) (C : Addr) (cl : List (Str × Addr)) (fp : List Addr), PTs (X.blk s H scope (compEnvC scope cl C X.env) fp) ifs (tTn B t))
    (he : ∀ (s : Shared) (H : Hp) (C : Addr) (cl : List (Str × Addr)) (fp : List Addr), PE (X.blk s H scope (compEnvC scope cl C X.env) fp) elt (tEn B e)) (hs : ∀ x, foldedSetIterable iter X.env x = pure x) :
    PE X (.ListComp elt [⟨tg, iter, ifs, 0⟩] scope pos) (tF B (.comp tp tgl it t e)) := by
  subst ho
  exact (pe_lc x.calm x.nd hi ok hg ht he hs).impW fun σ H Q w => comp_read x w
theorem toF_val (x : XOk X B) {e : E} (hf : isF e = true) {σ H Q} (w : tE B e σ H Q) : tF B e σ H Q := by
  obtain ⟨W, σd, h, e1, hr, w⟩ := w
  exact ⟨W, σd, h, e1, hr, wpE_lst x.mono hf (fun ds h w => F_val w) w⟩
theorem toF_mk (x : XOk X B) {e : E} {σ H Q} (w : tE B (.mk e) σ H Q) : tF B e σ H Q := by
  obtain ⟨W, σd, h, e1, hr, w⟩ := w
  refine ⟨W, σd, h, e1, hr, ?_⟩
  simp only [wpE] at w
  exact wpE_mono x.mono e _ _ _ _ _ _ (fun _ _ z => z) (fun d h1 w => F_mk w) w
/-- y = [..] on one line -/
theorem st_setLc (x : XOk X B) {i : Nat} {y : Str} {py spos : Pos} {tp : Bool} {tgl : List Nat} {it t e : E} {elt tg iter : Expr} {ifs : List Expr} {scope : Scope} {own : List (Str × Nat)} (k : Bool) (hy : X.N[i]? = some y) (hyl : X.env.scope.names.lookup y = some .local)
    (hsw : swapsWith (.ListComp elt [⟨tg, iter, ifs, 0⟩] scope pos) (some (.Name y py)) spos.line X.env = pure true) (hi : PI X tg iter (tI B it)) (ok : BlkOk X.N X.env.scope scope own) (ho : own.map (·.2) = tgl)
    (hg : ∀ (s : Shared) (H : Hp) (C : Addr) (cl : List (Str × Addr)) (fp : List Addr), PG (X.blk s H scope (compEnvC scope cl C X.env) fp) tg (gOf X.K tp tgl))
    (ht : ∀ (s : Shared) (H : Hp) (C : Addr) (cl : List (Str × Addr)) (fp : List Addr), PTs (X.blk s H scope (compEnvC scope cl C X.env) fp) ifs (tTn B t))
    (he : ∀ (s : Shared) (H : Hp) (C : Addr) (cl : List (Str × Addr)) (fp : List Addr), PE (X.blk s H scope (compEnvC scope cl C X.env) fp) elt (tEn B e)) (hs : ∀ x, foldedSetIterable iter X.env x = pure x) :
    PS X (.Assign [.Name y py] (.ListComp elt [⟨tg, iter, ifs, 0⟩] scope pos) spos) (tS B (.set i (if k then .mk (.comp tp tgl it t e) else .comp tp tgl it t e))) := by
  subst ho
  refine (ps_setLc x.calm x.nd hy hyl hsw hi ok hg ht he hs).impW fun σ H D w => ?_
  have w := set_read x w
  cases k with
  | true =>
    simp only [if_true] at w
    exact comp_read x (toF_mk x w)
  | false =>
    simp only [Bool.false_eq_true, if_false] at w
    exact comp_read x (toF_val x rfl w)

/-! ### several names -/
theorem par_read (x : XOk X B) {is : List Nat} {es : Es} {σ : L2.St} {H : Hp} {D : Ends} (w : tS B (.par is es) D σ H) : tEs B es σ H fun vs H1 => D.nx (setV σ is vs) H1 := by
  obtain ⟨W, σd, h, e1, hr, w⟩ := w
  subst e1
  simp only [wpS] at w
  refine steps x hr w fun ds h1 W1 vs w l1 hr1 rs => ?_
  exact w W1 _ l1 ⟨hr1.le, hr1.hr, hr1.sr.setAll rs⟩
theorem st_par2 (x : XOk X B) {i j : Nat} {n m : Str} {a b : Expr} {es : Es} {px py pt : Pos} {kt k2 pt2} (hi : X.N[i]? = some n) (hj : X.N[j]? = some m) (hij : i ≠ j) (hx : X.env.scope.names.lookup n = some .local) (hy : X.env.scope.names.lookup m = some .local) (ha : PA X [a, b] (tEs B es))
    (hw : swappedStores [.Tuple [.Name n px, .Name m py] kt pt] (.Tuple [a, b] k2 pt2) X.env = pure (some [n, m])) (hs : swapsWithSole [.Tuple [.Name n px, .Name m py] kt pt] (.Tuple [a, b] k2 pt2) pos.line X.env = pure false) (hl : ∃ e1 e2, es = .cons e1 (.cons e2 .nil)) :
    PS X (.Assign [.Tuple [.Name n px, .Name m py] kt pt] (.Tuple [a, b] k2 pt2) pos) (tS B (.par [i, j] es)) :=
  (ps_par x.calm x.nd hi hj hij hx hy ha hw hs).impW fun σ H D w => by
    obtain ⟨W, σd, h, e1, hr, w⟩ := par_read x w
    obtain ⟨e1, e2, rfl⟩ := hl
    refine ⟨W, σd, h, by assumption, hr, ?_⟩
    simp only [wpEs] at w ⊢
    refine wpE_mono x.mono e1 _ _ _ _ _ _ (fun _ _ z => z) (fun d1 h1 w => wpE_mono x.mono e2 _ _ _ _ _ _ (fun _ _ z => z) (fun d2 h2 w => ?_) w) w
    intro W' vs l r rs
    cases rs with
    | cons r1 rs => cases rs with
      | cons r2 rs => cases rs; exact ⟨_, _, rfl, w W' _ l r (.cons r1 (.cons r2 .nil))⟩
theorem st_par3 (x : XOk X B) {i j l : Nat} {n m o : Str} {a b c : Expr} {es : Es} {px py pz pt : Pos} {kt k2 pt2} (hi : X.N[i]? = some n) (hj : X.N[j]? = some m) (hl' : X.N[l]? = some o) (hij : i ≠ j) (hil : i ≠ l) (hjl : j ≠ l) (hx : X.env.scope.names.lookup n = some .local) (hy : X.env.scope.names.lookup m = some .local)
    (hz : X.env.scope.names.lookup o = some .local) (ha : PA X [a, b, c] (tEs B es))
    (hw : swappedStores [.Tuple [.Name n px, .Name m py, .Name o pz] kt pt] (.Tuple [a, b, c] k2 pt2) X.env = pure (some [n, m, o])) (hs : swapsWithSole [.Tuple [.Name n px, .Name m py, .Name o pz] kt pt] (.Tuple [a, b, c] k2 pt2) pos.line X.env = pure false) (hl : ∃ e1 e2 e3, es = .cons e1 (.cons e2 (.cons e3 .nil))) :
    PS X (.Assign [.Tuple [.Name n px, .Name m py, .Name o pz] kt pt] (.Tuple [a, b, c] k2 pt2) pos) (tS B (.par [i, j, l] es)) :=
  (ps_par3 x.calm x.nd hi hj hl' hij hil hjl hx hy hz ha hw hs).impW fun σ H D w => by
    obtain ⟨W, σd, h, e1, hr, w⟩ := par_read x w
    obtain ⟨e1, e2, e3, rfl⟩ := hl
    refine ⟨W, σd, h, by assumption, hr, ?_⟩
    simp only [wpEs] at w ⊢
    refine wpE_mono x.mono e1 _ _ _ _ _ _ (fun _ _ z => z) (fun d1 h1 w => wpE_mono x.mono e2 _ _ _ _ _ _ (fun _ _ z => z) (fun d2 h2 w => wpE_mono x.mono e3 _ _ _ _ _ _ (fun _ _ z => z) (fun d3 h3 w => ?_) w) w) w
    intro W' vs l r rs
    cases rs with
    | cons r1 rs => cases rs with
      | cons r2 rs => cases rs with
        | cons r3 rs => cases rs; exact ⟨_, _, _, rfl, w W' _ l r (.cons r1 (.cons r2 (.cons r3 .nil)))⟩
/-- by a tuple -/
theorem st_parT (x : XOk X B) {tgs vs : List Expr} {is : List Nat} {es : Es} {kt : Nat} {k2 : Nat} {pt pt2 : Pos} (hg : PG X (.Tuple tgs kt pt) (gTup X.K is.length (gNames is))) (ha : PA X vs (tEs B es))
    (hs : swapsWithSole [.Tuple tgs kt pt] (.Tuple vs k2 pt2) pos.line X.env = pure false) (hw : swappedStores [.Tuple tgs kt pt] (.Tuple vs k2 pt2) X.env = pure none) (h1 : (assignEach [.Tuple tgs kt pt] X.env).map (·.2) = [assign (.Tuple tgs kt pt) X.env])
    (hl : ∀ {σ h Q}, wpEs B.Γ B.Ex es σ h Q → wpEs B.Γ B.Ex es σ h fun ds h => ds.length = is.length ∧ Q ds h) (hln : is.length ≤ 100) : PS X (.Assign [.Tuple tgs kt pt] (.Tuple vs k2 pt2) pos) (tS B (.par is es)) :=
  (ps_asg (pe_tup ha) hg hs hw h1).impW fun σ H D w => by
    obtain ⟨W, σd, h, e1, hr, w⟩ := w
    subst e1
    simp only [wpS] at w
    refine steps x hr (hl w) fun ds h1 W1 vs w l1 hr1 rs => ?_
    have e := rs.length
    refine ⟨by rw [← e, w.1, sizeLine_eq]; omega, fun p hp => ?_⟩
    have lf := Le.fresh (o := .tup vs) hr1.hr hp
    refine ⟨p, vs, rfl, .inl (.inl upd_same), by rw [← e]; exact w.1, gNames_ok (by rw [← e]; exact w.1) ?_⟩
    exact w.2 (W1.at_ (upd W1.H p (.tup vs))) _ (l1.trans lf) ⟨hr1.le.trans lf, hr1.hr.fresh hp, (hr1.sr.setAll rs).mono lf.toLw⟩
/-! ### tests, ends, loops -/
theorem st_ite (x : XOk X B) {t : Expr} {a b : List Stmt} {et : E} {ea eb : Ss} (ht : PT X t (tT B et)) (ha : PSs X a (tSs B ea)) (hb : PSs X b (tSs B eb)) : PS X (.If t a b pos) (tS B (.ite et ea eb)) :=
  (ps_if ht ha hb).impW fun σ H D ⟨W, σd, h, e, hr, w⟩ => by
    subst e
    simp only [wpS] at w
    refine stepT x hr w fun d1 h1 W1 w l1 hr1 => ?_
    rcases w with ⟨e1, w⟩ | ⟨e1, w⟩
    · refine ⟨true, e1, ?_⟩
      simp only [if_true]
      exact stepS x hr1 w (KR.le l1)
    · refine ⟨false, e1, ?_⟩
      simp only [Bool.false_eq_true, if_false]
      exact stepS x hr1 w (KR.le l1)
theorem st_ret (x : XOk X B) {a : Expr} {e : E} (ha : PE X a (tE B e)) : PS X (.Return (some a) pos) (tS B (.ret e)) :=
  (ps_ret ha).impW fun σ H D ⟨W, σd, h, e1, hr, w⟩ => by
    subst e1
    simp only [wpS] at w
    exact ⟨W, σd, h, rfl, hr, w⟩
theorem st_brk : PS X (.Break pos) (tS B .brk) := ps_break.impW fun σ H D ⟨W, σd, h, e1, hr, w⟩ => by
  subst e1
  simp only [wpS] at w
  exact w W σ Le.refl hr
theorem st_pss : PS X (.Pass pos) (tS B .pss) := ps_pass.impW fun σ H D ⟨W, σd, h, e1, hr, w⟩ => by
  subst e1
  simp only [wpS] at w
  exact w W σ Le.refl hr
theorem st_for (x : XOk X B) (hp : PassesOwn (model X.prog X.w) X.A X.env X.xe) {tg iter : Expr} {body : List Stmt} {tp : Bool} {tgl : List Nat} {it : E} {b : Ss} (hi : PI X tg iter (tI B it)) (hg : PG X tg (gOf X.K tp tgl)) (hb : PSs X body (tSs B b)) (hs : ∀ x, foldedSetIterable iter X.env x = pure x) :
    PS X (.For tg iter body [] pos) (tS B (.for tp tgl it b)) :=
  (ps_for hp x.calm hi hg hb hs).impW fun σ H D ⟨W, σd, h, e1, hr, w⟩ => by
    subst e1
    simp only [wpS] at w
    refine ⟨W, σd, h, rfl, hr, wpI_mono x.mono it _ _ _ _ _ _ (fun _ _ z => z) (fun xs src h1 w W1 J l1 r1 j => ?_) w⟩
    refine ⟨fun i m σ2 Hh => ∃ W2 σ2d h2, W2.H = Hh ∧ Le W1 W2 ∧ B.Re W2 σ2d h2 σ2 ∧ m = xs.length - i ∧ i ≤ xs.length ∧ forW tp tgl src (wpSs B.Γ B.Ex b) (KR B W D) (xs.drop i) σ2d h2, ⟨xs.length, W1, σd, h1, rfl, Le.refl, hr.to l1 r1, by simp, Nat.zero_le _, by simpa using w⟩, ?_⟩
    rintro i m σ2 Hh ⟨W2, σ2d, h2, rfl, l2, hr2, rfl, hi, w⟩
    by_cases hlt : i < xs.length
    · have ed : xs.drop i = xs[i] :: xs.drop (i + 1) := List.drop_eq_getElem_cons hlt
      rw [ed] at w
      obtain ⟨st, σ1, eb, w⟩ := w
      have ex : xs[i]? = some xs[i] := List.getElem?_eq_getElem hlt
      obtain ⟨hgo, hy⟩ := (j i W2 h2 l2.toLw.lv hr2.hr st).1 _ ex
      refine .inr ⟨hgo, fun σ' Hn => ∃ W2 σ2d h2, W2.H = Hn ∧ Le W1 W2 ∧ B.Re W2 σ2d h2 σ' ∧ forW tp tgl src (wpSs B.Γ B.Ex b) (KR B W D) (xs.drop (i + 1)) σ2d h2, fun σ' H' ⟨W3, σ3d, h3, e1, e2, e3, e4⟩ => ⟨xs.length - (i + 1), by omega, W3, σ3d, h3, e1, e2, e3, rfl, hlt, e4⟩, ?_⟩
      intro v H' y
      obtain ⟨W3, rfl, l3, r3, rv⟩ := hy v H' y
      refine tgt (fun t => sq_of x t) (hr2.sr.mono l3.toLw) rv eb fun σ3 s3 _ => ?_
      refine stepS x (σd := σ1) (h := h2) ⟨hr2.le.trans l3, r3, s3⟩ w ⟨fun σ4d h4 w W4 σ4 l4 r4 => ?_, fun _ _ q => q.le (l1.trans (l2.trans l3)), fun σ4d h4 w W4 σ4 l4 r4 => ?_, fun σ4d h4 w W4 σ4 l4 r4 => ?_⟩
      · exact ⟨W4, σ4d, h4, rfl, l2.trans (l3.trans l4), r4, w⟩
      · exact w W4 σ4 (l1.trans (l2.trans (l3.trans l4))) r4
      · exact ⟨W4, σ4d, h4, rfl, l2.trans (l3.trans l4), r4, w⟩
    · have ei : i = xs.length := by omega
      subst ei
      rw [List.drop_length] at w
      exact .inl ⟨(j xs.length W2 h2 l2.toLw.lv hr2.hr w.1).2 (by simp), w.2 W2 σ2 (l1.trans l2) hr2⟩
theorem st_whl (x : XOk X B) (hp : PassesOwn (model X.prog X.w) X.A X.env X.xe) {t : Expr} {body : List Stmt} {et : E} {b : Ss} (ht : PT X t (tT B et)) (hb : PSs X body (tSs B b)) : PS X (.While t body [] pos) (tS B (.whl et b)) :=
  (ps_while hp ht hb).impW fun σ H D ⟨W, σd, h, e1, hr, w⟩ => by
    subst e1
    simp only [wpS] at w
    obtain ⟨n, w⟩ := w
    refine ⟨fun m σ2 Hh => ∃ W2 σ2d h2, W2.H = Hh ∧ Le W W2 ∧ B.Re W2 σ2d h2 σ2 ∧ whlW (wpE B.Γ B.Ex et) (wpSs B.Γ B.Ex b) (KR B W D) m σ2d h2, ⟨n, W, σd, h, rfl, Le.refl, hr, w⟩, ?_⟩
    rintro m σ2 Hh ⟨W2, σ2d, h2, rfl, l2, hr2, w⟩
    cases m with
    | zero => exact w.elim
    | succ m =>
      have w : wpE B.Γ B.Ex et σ2d h2 fun b' h1 => (b' = .bl true ∧ wpSs B.Γ B.Ex b σ2d h1 { nx := whlW (wpE B.Γ B.Ex et) (wpSs B.Γ B.Ex b) (KR B W D) m, rt := (KR B W D).rt, bk := (KR B W D).nx, ct := whlW (wpE B.Γ B.Ex et) (wpSs B.Γ B.Ex b) (KR B W D) m }) ∨ (b' = .bl false ∧ (KR B W D).nx σ2d h1) := w
      refine stepT x hr2 w fun d1 h3 W3 w l3 hr3 => ?_
      rcases w with ⟨e1, w⟩ | ⟨e1, w⟩
      · refine ⟨true, e1, ?_⟩
        simp only [if_true]
        refine ⟨fun σ' Hn => ∃ W2 σ2d h2, W2.H = Hn ∧ Le W W2 ∧ B.Re W2 σ2d h2 σ' ∧ whlW (wpE B.Γ B.Ex et) (wpSs B.Γ B.Ex b) (KR B W D) m σ2d h2, fun σ' H' w => ⟨m, Nat.lt_succ_self m, w⟩, ?_⟩
        refine stepS x hr3 w ⟨fun σ4d h4 w W4 σ4 l4 r4 => ?_, fun _ _ q => q.le (l2.trans l3), fun σ4d h4 w W4 σ4 l4 r4 => ?_, fun σ4d h4 w W4 σ4 l4 r4 => ?_⟩
        · exact ⟨W4, σ4d, h4, rfl, l2.trans (l3.trans l4), r4, w⟩
        · exact w W4 σ4 (l2.trans (l3.trans l4)) r4
        · exact ⟨W4, σ4d, h4, rfl, l2.trans (l3.trans l4), r4, w⟩
      · refine ⟨false, e1, ?_⟩
        simp only [Bool.false_eq_true, if_false]
        exact w W3 σ2 (l2.trans l3) hr3
end
end Mi

set_option linter.all false
set_option maxRecDepth 100000
set_option maxHeartbeats 2000000
namespace Mi
open PySem PySem.Spec PyProof.Rows L2
/-! ## stores -/
theorem Paired.append {α β : Type} {F : α → β → Prop} : ∀ {l₁ l₂ : List α} {m₁ m₂ : List β}, Paired F l₁ m₁ → Paired F l₂ m₂ → Paired F (l₁ ++ l₂) (m₁ ++ m₂)
  | _, _, _, _, .nil, s => s
  | _, _, _, _, .cons r t, s => .cons r (Paired.append t s)
theorem KKs.put {R : Wr} {W : Wo} {k d : D} {v : V} {u : Value} {a : Addr} (hk : isKey k = true) (rk : VR R W k (.ref a)) (rv : VR R W d v) (rl : RelV v u) {kvs : List (D × D)} {es : List (NestedKey × Addr × Value)} (r : KKs R W kvs es) :
    KKs R W (kput kvs k d) (storedH es (toNK k) a u) := by
  have hmap : KKs R W (kvs.map fun p => if eqD p.1 k then (p.1, d) else p) (es.map (putAt (toNK k) u)) := by
    induction r with
    | nil => exact .nil
    | @cons p q kvs es r t ih =>
      have ek : eqD p.1 k = decide (q.1 = toNK k) := by rw [key_eq r.1 hk, r.2.1]
      refine .cons ?_ ih
      by_cases h : q.1 = toNK k
      · have e1 : (if eqD p.1 k = true then (p.1, d) else p) = (p.1, d) := by rw [ek, decide_eq_true h]; simp
        have e2 : putAt (toNK k) u q = (q.1, q.2.1, u) := by unfold putAt; rw [if_pos h]
        dsimp only
        rw [e1, e2]
        exact ⟨r.1, r.2.1, r.2.2.1, v, rl, rv⟩
      · have e1 : (if eqD p.1 k = true then (p.1, d) else p) = p := by rw [ek, decide_eq_false h]; simp
        have e2 : putAt (toNK k) u q = q := by unfold putAt; rw [if_neg h]
        dsimp only
        rw [e1, e2]
        exact r
  have hg := kd_get (B := ⟨R, ⟨fun _ _ _ _ _ => True, fun _ => none, fun _ => 0, fun _ => 0, fun _ _ => true⟩, 0, fun _ _ => True, W⟩) hk r
  unfold kput storedH
  rcases hg with ⟨h1, h2⟩ | ⟨d', p, v', h1, h2, _⟩
  · rw [h1, h2]
    simp only [Option.isSome_none, Bool.false_eq_true, if_false]
    exact Mi.Paired.append r (.cons ⟨hk, rfl, rk, v, rl, rv⟩ .nil)
  · rw [h1, h2]
    simp only [Option.isSome_some, if_true]
    exact hmap
theorem sput_any {R : Wr} {W : Wo} {k : List Nat} {kvs : List (List Nat × D)} {ks : List (Key × V)} (r : SKs R W kvs ks) : (sget kvs k).isSome = (ks.any fun kv => decide (kv.1 = Sum.inr (tx k))) := by
  rw [valV_any]
  rcases sd_get (k := k) r with ⟨h1, h2⟩ | ⟨d, v, h1, h2, _⟩ <;> rw [h1, h2] <;> rfl
theorem SKs.put {R : Wr} {W : Wo} {k : List Nat} {d : D} {v : V} (rv : VR R W d v) {kvs : List (List Nat × D)} {ks : List (Key × V)} (r : SKs R W kvs ks) : SKs R W (sput kvs k d) (putK ks (Sum.inr (tx k)) v) := by
  have hmap : SKs R W (kvs.map fun p => if p.1 == k then (p.1, d) else p) (ks.map fun kv => if kv.1 = Sum.inr (tx k) then (kv.1, v) else kv) := by
    induction r with
    | nil => exact .nil
    | @cons p q kvs ks r t ih =>
      refine .cons ?_ ih
      by_cases h : p.1 = k
      · have e1 : (if (p.1 == k) = true then (p.1, d) else p) = (p.1, d) := by rw [h]; simp
        have e2 : (if q.1 = Sum.inr (tx k) then (q.1, v) else q) = (q.1, v) := by rw [if_pos (by rw [r.1, h])]
        dsimp only
        rw [e1, e2]
        exact ⟨r.1, rv⟩
      · have e1 : (if (p.1 == k) = true then (p.1, d) else p) = p := by simp [h]
        have e2 : (if q.1 = Sum.inr (tx k) then (q.1, v) else q) = q := by rw [if_neg (by rw [r.1]; intro e; exact h (tx_inj (Sum.inr.inj e)))]
        dsimp only
        rw [e1, e2]
        exact r
  unfold sput putK
  rw [← sput_any (k := k) r]
  by_cases h : (sget kvs k).isSome = true
  · rw [if_pos h, if_pos h]; exact hmap
  · rw [if_neg h, if_neg h]
    exact Mi.Paired.append r (.cons ⟨rfl, rv⟩ .nil)
theorem sput_nodup {k : List Nat} {d : D} {kvs : List (List Nat × D)} (h : (kvs.map (·.1)).Nodup) : ((sput kvs k d).map (·.1)).Nodup := by
  unfold sput
  split
  · have e : ((kvs.map fun p => if p.1 == k then (p.1, d) else p).map (·.1)) = kvs.map (·.1) := by
      rw [List.map_map]
      refine List.map_congr_left fun p _ => ?_
      show (if (p.1 == k) = true then (p.1, d) else p).1 = p.1
      split <;> rfl
    rw [e]; exact h
  · rename_i hn
    rw [List.map_append, List.nodup_append]
    refine ⟨h, by simp, fun a ha b hb => ?_⟩
    simp at hb
    subst hb
    intro e
    subst e
    obtain ⟨p, hp, e⟩ := List.mem_map.mp ha
    apply hn
    unfold sget
    rw [Option.isSome_map, List.find?_isSome]
    exact ⟨p, hp, by simp [e]⟩
theorem Paired.len {α β : Type} {F : α → β → Prop} : ∀ {l₁ : List α} {l₂ : List β}, Paired F l₁ l₂ → l₁.length = l₂.length
  | _, _, .nil => rfl
  | _, _, .cons _ t => by simp [Mi.Paired.len t]
section
variable {X : Cx} {B : Bx} {pos : Pos}
def rSet (B : Bx) : TSet := fun o i v H Q => ∃ W h do_ di dv, W.H = H ∧ HR B.R W h ∧ VR B.R W do_ o ∧ VR B.R W di i ∧ VR B.R W dv v ∧ onSome (subD h do_ di dv) fun h' => ∀ W', Le W W' → HR B.R W' h' → Q W'.H
theorem r_set (x : XOk X B) : PSet X (rSet B) := by
  intro pins s σ H o i v ov iv u Q I ro ri rv ⟨W, h, d1, d2, d3, e, hr, r1, r2, r3, h', eh, q⟩
  subst e
  have un := x.room.un
  cases r1 with
  | loc en =>
    rename_i n a
    have ma := List.mem_of_getElem? en
    cases r2 with
    | int k =>
      cases hn : h[n]? with
      | none => simp [subD, hn] at eh
      | some ob =>
        cases ob with
        | lst ds =>
          simp only [subD, hn] at eh
          obtain ⟨hu, e1, ys, e2, rs⟩ := hr.loc en hn
          cases ej : Mi.ixN ds.length k with
          | none => rw [ej] at eh; cases eh
          | some j =>
            rw [ej] at eh; cases eh
            have lf := Le.set (o := .lst (ys.set j v)) hr ma
            refine set_list pins s σ _ _ _ _ _ _ _ Q I ro ri rv ⟨a, ys, k, j, rfl, rfl, by rw [e1, e2], ?_, q (W.at_ (upd W.H a (.lst (ys.set j v)))) lf (hr.set en ⟨_, rfl, (rs.mono lf.toLw).set (r3.mono lf.toLw) j⟩)⟩
            rw [← rs.length, ← ixN_L]; exact ej
        | _ => simp [subD, hn] at eh
    | str k =>
      cases hn : h[n]? with
      | none => simp [subD, hn] at eh
      | some ob =>
        cases ob with
        | sd kvs =>
          simp only [subD, hn] at eh
          obtain ⟨hu, e1, ks, e2, rk, nd⟩ := hr.loc en hn
          split at eh
          · rename_i hz
            cases eh
            have lf := Le.set (o := .dK (putK ks (Sum.inr (tx k)) v)) hr ma
            have hz2 : ks.length < sizeLine := by rw [← Mi.Paired.len rk]; exact Nat.lt_of_lt_of_le hz lim_line
            refine set_dict (by omega) pins s σ _ _ _ _ _ _ _ Q I ro ri rv ⟨a, _, rfl, .inl ⟨ks, Sum.inr (tx k), by rw [e1, e2], rfl, hz2, rfl⟩, q (W.at_ (upd W.H a (.dK (putK ks (Sum.inr (tx k)) v)))) lf (hr.set en ⟨_, rfl, ?_, sput_nodup nd⟩)⟩
            exact SKs.put (r3.mono lf.toLw) (Paired.imp rk fun _ _ z => ⟨z.1, z.2.mono lf.toLw⟩)
          · cases eh
        | _ => simp [subD, hn] at eh
    | tup t rs =>
      rename_i b vs ks
      cases hn : h[n]? with
      | none => simp [subD, hn] at eh
      | some ob =>
        cases ob with
        | kd kvs =>
          simp only [subD, hn] at eh
          obtain ⟨hu, e1, es, e2, rk⟩ := hr.loc en hn
          split at eh
          · rename_i hz
            obtain ⟨hk, hz⟩ := hz
            cases eh
            have hv : VR B.R W (.tup ks) (.ref b) := .tup t rs
            obtain ⟨hD, hsm⟩ := kd_at x.K x.P x.w I (.inl (by rw [e1, e2])) rk
            have hi := key_is x.K I hk hv
            cases ro
            cases ri
            have hroom : (kn B).room X.A.in1 := by show X.A.units + 1 + 8 < cLine; omega
            have hz2 : es.length ≤ sizeLine := by rw [← Mi.Paired.len rk]; exact Nat.le_trans (Nat.le_of_lt hz) lim_line
            have lf := Le.set (o := .ext (KDo B.R a (storedH es (toNK (.tup ks)) b u))) hr ma
            have fin : ∀ h', h'.DictOfH (kn B) a (storedH es (toNK (.tup ks)) b u) → Heap.SameBut a s.heap h' → ∀ t, Inv X pins σ (upd W.H a (.ext (KDo B.R a (storedH es (toNK (.tup ks)) b u)))) { s with heap := h', toks := t } := by
              intro h' hm' hs' t
              have hd : KDo B.R a (storedH es (toNK (.tup ks)) b u) h' := by
                obtain ⟨o, es', ep, ho, hc, hd, he, _, hnd⟩ := hm'
                exact ⟨o, ep, es', ho, hc, hd, he, hnd, hsm⟩
              have he : ∃ o, h'.get? a = some o := by obtain ⟨o, _, _, ho, _⟩ := hm'; exact ⟨o, ho⟩
              exact I.write (x := a) (e := a) (by rw [e1, e2]; exact True.intro) (.inl rfl) (fun c w hc z => (hs'.2 c hc).trans z) he ⟨hd, he, kdo_stay⟩
            rw [x.P, x.w]
            refine wpAny_setItem_heap (knd := kn B) hroom hi hD (fun h' hm' hs' => ?_) hz2
            refine ⟨_, fin h' hm' hs' _, ?_⟩
            refine q (W.at_ (upd W.H a (.ext (KDo B.R a (storedH es (toNK (.tup ks)) b u))))) lf (hr.set en ⟨_, rfl, ?_⟩)
            exact KKs.put hk (hv.mono lf.toLw) (r3.mono lf.toLw) rv (Paired.imp rk fun _ _ z => ⟨z.1, z.2.1, z.2.2.1.mono lf.toLw, let ⟨v, a, b⟩ := z.2.2.2; ⟨v, a, b.mono lf.toLw⟩⟩)
          · cases eh
        | _ => simp [subD, hn] at eh
    | _ => simp [subD] at eh
  | _ => simp [subD] at eh
theorem st_sub (x : XOk X B) {o k v : Expr} {eo ek ev : E} {p : Pos} (ho : PE X o (tE B eo)) (hk : PE X k (tE B ek)) (hv : PE X v (tE B ev))
    (ha : ∀ v, assign (.Subscript o k p) X.env v = (do
      let ov ← holding [v] (eval o X.env)
      let iv ← holding [v, ov] (eval k X.env)
      standAt p
      holding [v, ov, iv] (setItem ov iv v)
      release [v, ov, iv] [])) (hs : swapsWithSole [.Subscript o k p] v pos.line X.env = pure false) (hw : swappedStores [.Subscript o k p] v X.env = pure none) (h1 : (assignEach [.Subscript o k p] X.env).map (·.2) = [assign (.Subscript o k p) X.env]) :
    PS X (.Assign [.Subscript o k p] v pos) (tS B (.sub eo ek ev)) :=
  (ps_asg hv (pg_sub ho hk (r_set x) ha) hs hw h1).impW fun σ H D ⟨W, σd, h, e1, hr, w⟩ => by
    subst e1
    simp only [wpS] at w
    refine step1 x hr w fun d1 h1 W1 v1 w l1 hr1 r1 => ?_
    refine step1 x hr1 w fun d2 h2 W2 v2 w l2 hr2 r2 => ?_
    refine step1 x hr2 w fun d3 h3 W3 v3 w l3 hr3 r3 => ?_
    obtain ⟨h4, e4, w⟩ := w
    refine ⟨W3, h3, d2, d3, d1, rfl, hr3.hr, r2.mono l3.toLw, r3, (r1.mono l2.toLw).mono l3.toLw, h4, e4, fun W4 l4 r4 => ?_⟩
    exact w W4 σ (l1.trans (l2.trans (l3.trans l4))) (hr3.to l4 r4)
theorem fput_rel {R : Wr} {W : Wo} (ok : R.Ok) {c f : Nat} {d : D} {v : V} (hc : R.okf c f = true) (rv : VR R W d v) {fs : List (Nat × D)} {gs : List (Str × V)} (r : FRs R W fs gs) (nd : (fs.map (·.1)).Nodup) (ha : ∀ p ∈ fs, R.okf c p.1 = true) : FRs R W (fput fs f d) (putF (R.fnm f) v gs) := by
  induction r with
  | nil => exact .cons ⟨rfl, rv⟩ .nil
  | @cons p q fs gs r t ih =>
    obtain ⟨g, y⟩ := q
    have rg : g = R.fnm p.1 := r.1
    have nd2 := List.nodup_cons.mp (show (p.1 :: fs.map (·.1)).Nodup from nd)
    by_cases h : p.1 = f
    · have hn : fget fs f = none := by
        cases e : fget fs f with
        | none => rfl
        | some z =>
          exfalso
          apply nd2.1
          unfold fget at e
          cases e2 : fs.find? fun p => p.1 == f with
          | none => rw [e2] at e; cases e
          | some w =>
            have h3 := List.find?_some e2
            have h4 := List.mem_of_find?_eq_some e2
            rw [h]
            exact List.mem_map.mpr ⟨w, h4, by simpa using h3⟩
      have e1 : fput (p :: fs) f d = (p.1, d) :: fs := by
        unfold fput
        have : (fget (p :: fs) f).isSome = true := by simp [fget, List.find?_cons, h]
        rw [if_pos this]
        simp only [List.map_cons, h, beq_self_eq_true, if_true]
        congr 1
        have : ∀ w ∈ fs, (if (w.1 == f) = true then (w.1, d) else w) = w := fun w hw => by
          rw [if_neg]
          intro e
          exact nd2.1 (by rw [h]; exact List.mem_map.mpr ⟨w, hw, by simpa using e⟩)
        conv => rhs; rw [← List.map_id fs]
        exact List.map_congr_left this
      have e2 : putF (R.fnm f) v ((g, y) :: gs) = (g, v) :: gs := by
        unfold putF
        rw [if_pos (by rw [rg, h])]
      rw [e1, e2]
      exact .cons ⟨rg, rv⟩ t
    · have hne : g ≠ R.fnm f := fun z => h (ok.inj c f p.1 hc (ha p List.mem_cons_self) (z.symm.trans rg)).symm
      have e1 : fput (p :: fs) f d = p :: fput fs f d := by
        unfold fput
        have e : fget (p :: fs) f = fget fs f := by simp [fget, List.find?_cons, h]
        rw [e]
        split
        · simp [h]
        · rfl
      have e2 : putF (R.fnm f) v ((g, y) :: gs) = (g, y) :: putF (R.fnm f) v gs := by
        conv => lhs; unfold putF
        rw [if_neg hne]
      rw [e1, e2]
      exact .cons r (ih nd2.2 fun p hp => ha p (List.mem_cons_of_mem _ hp))
theorem fput_ok {f : Nat} {d : D} {P : Nat → Prop} {fs : List (Nat × D)} (hf : P f) (ha : ∀ p ∈ fs, P p.1) (nd : (fs.map (·.1)).Nodup) : ((fput fs f d).map (·.1)).Nodup ∧ ∀ p ∈ fput fs f d, P p.1 := by
  unfold fput
  split
  · have e : ((fs.map fun p => if p.1 == f then (p.1, d) else p).map (·.1)) = fs.map (·.1) := by
      rw [List.map_map]
      refine List.map_congr_left fun p _ => ?_
      show (if (p.1 == f) = true then (p.1, d) else p).1 = p.1
      split <;> rfl
    refine ⟨by rw [e]; exact nd, fun p hp => ?_⟩
    obtain ⟨q, hq, e⟩ := List.mem_map.mp hp
    have := ha q hq
    split at e <;> (subst e; exact this)
  · rename_i hn
    refine ⟨?_, fun p hp => (List.mem_append.mp hp).elim (ha p) fun h => by rw [List.mem_singleton.mp h]; exact hf⟩
    rw [List.map_append, List.nodup_append]
    refine ⟨nd, by simp, fun a hm b hb => ?_⟩
    simp at hb
    subst hb
    intro e
    subst e
    obtain ⟨p, hp, e⟩ := List.mem_map.mp hm
    apply hn
    unfold fget
    rw [Option.isSome_map, List.find?_isSome]
    exact ⟨p, hp, by simp [e]⟩
theorem fr_len {R : Wr} {W : Wo} {fs : List (Nat × D)} {gs : List (Str × V)} (r : FRs R W fs gs) : fs.length = gs.length := Mi.Paired.len r
theorem ins_put (x : XOk X B) {W : Wo} {h : Hm} {n c f : Nat} {a dx : Addr} {fs : List (Nat × D)} {gs : List (Str × V)} {d : D} {v : V} (hr : HR B.R W h) (en : W.m[n]? = some a) (hc : B.R.okf c f = true) (rf : FRs B.R W fs gs) (nd : (fs.map (·.1)).Nodup ∧ ∀ p ∈ fs, B.R.okf c p.1 = true) (rv : VR B.R W d v) :
    Le W (W.at_ (upd W.H a (.ins (B.R.cls c) dx (putF (B.R.fnm f) v gs)))) ∧ HR B.R (W.at_ (upd W.H a (.ins (B.R.cls c) dx (putF (B.R.fnm f) v gs)))) (h.set n (.ins c (fput fs f d))) := by
  have lf := Le.set (o := .ins (B.R.cls c) dx (putF (B.R.fnm f) v gs)) hr (List.mem_of_getElem? en)
  refine ⟨lf, hr.set en ⟨dx, _, rfl, ?_, fput_ok (P := fun g => B.R.okf c g = true) hc nd.2 nd.1⟩⟩
  exact fput_rel x.wr hc (rv.mono lf.toLw) (Paired.imp rf fun _ _ z => ⟨z.1, z.2.mono lf.toLw⟩) nd.1 nd.2
theorem st_fldS (x : XOk X B) {o v : Expr} {eo ev : E} {f : Nat} {p : Pos} (ho : PE X o (tE B eo)) (hv : PE X v (tE B ev)) (hs : swapsWith v (some (.Attribute o (B.R.T.fnm f) p)) pos.line X.env = pure false) :
    PS X (.Assign [.Attribute o (B.R.T.fnm f) p] v pos) (tS B (.fld eo f ev)) :=
  (ps_fld ho hv hs).impW fun σ H D ⟨W, σd, h, e1, hr, w⟩ => by
    subst e1
    simp only [wpS] at w
    refine step1 x hr w fun d1 h1 W1 v1 w l1 hr1 r1 => ?_
    refine step1 x hr1 w fun d2 h2 W2 v2 w l2 hr2 r2 => ?_
    obtain ⟨n, c, fs, e1, ⟨e2, e3⟩, e4, w⟩ := w
    subst e1
    rw [x.go] at e3
    obtain ⟨c1, c2⟩ := x.wr.cls c f e3
    cases r2 with
    | loc en =>
      rename_i a
      obtain ⟨hu, e5, dx, gs, e6, rf, nd⟩ := hr2.hr.loc en e2
      obtain ⟨l3, r3⟩ := ins_put x (dx := dx) hr2.hr en e3 rf nd (r1.mono l2.toLw)
      refine ⟨a, B.R.cls c, dx, gs, rfl, by rw [e5, e6], by rw [x.K]; exact c1, by rw [x.K]; exact c2, by rw [← fr_len rf]; omega, ?_⟩
      exact w _ σ (l1.trans (l2.trans l3)) (hr2.to l3 r3)
/-- x op= y by values -/
def rAugD (B : Bx) (op : Op) : TIp := rD2 B fun _ => augD op
theorem r_aug : ∀ op : Op, op = .add ∨ op = .sub → PIp X (match op with | .add => .Add | _ => .Sub) (rAugD B op) := by
  intro op ho pins s σ H v1 v2 u1 u2 Q I q1 q2 ⟨W, h, d1, d2, e, hr, r1, r2, d, ed, q⟩
  subst e
  rcases ho with rfl | rfl
  · cases r1 <;> cases r2 <;> simp only [augD] at ed <;> try contradiction
    · cases ed; exact ip_add pins s σ _ _ _ _ _ Q I q1 q2 ⟨_, _, rfl, rfl, q.here hr (.int _)⟩
    · split at ed
      · rename_i hz
        cases ed
        exact in_addS pins s σ _ _ _ _ _ Q I q1 q2 ⟨_, _, rfl, rfl, by rw [tx_len, tx_len]; exact lim_le hz, by rw [tx_app]; exact q.here hr (.str _)⟩
      · cases ed
  · cases r1 <;> cases r2 <;> simp only [augD] at ed <;> try contradiction
    cases ed; exact ip_sub pins s σ _ _ _ _ _ Q I q1 q2 ⟨_, _, rfl, rfl, q.here hr (.int _)⟩
def augOp : Op → Operator
  | .add => .Add
  | _ => .Sub
theorem r_aug' {op : Op} (ho : op = .add ∨ op = .sub) : PIp X (augOp op) (rAugD B op) := by
  have := r_aug (X := X) (B := B) op ho
  rcases ho with rfl | rfl <;> exact this
theorem st_aug (x : XOk X B) {i : Nat} {n : Str} {a : Expr} {e : E} {op : Op} {p : Pos} (ho : op = .add ∨ op = .sub) (hi : X.N[i]? = some n) (hx : Loc X.env.scope n) (ha : PE X a (tE B e)) (hf : X.fn n = true ∨ X.env.scope.names.lookup n = some .local) :
    PS X (.AugAssign (.Name n p) (augOp op) a pos) (tS B (.aug i op e)) :=
  (ps_aug x.nd hi hx ha (r_aug' ho) hf).impW fun σ H D ⟨W, σd, h, e1, hr, w⟩ => by
    subst e1
    simp only [wpS] at w
    obtain ⟨d0, e0, w⟩ := w
    obtain ⟨v0, e2, r0⟩ := hr.sr.at_ i d0 e0
    refine ⟨v0, e2, ?_⟩
    refine step1 x hr w fun d1 h1 W1 v1 w l1 hr1 r1 => ?_
    refine ⟨W1, h1, d0, d1, rfl, hr1.hr, r0.mono l1.toLw, r1, onSome_mono (fun z w => ?_) w⟩
    intro W2 v2 l2 hr2 r2
    exact w W2 _ (l1.trans l2) ⟨hr1.le.trans l2, hr2, (hr1.sr.mono l2.toLw).set r2 i⟩
/-- o[i] of an object -/
def rGet (B : Bx) : V → V → Hp → VK → Prop := fun o i H Q => ∃ W h n di, W.H = H ∧ HR B.R W h ∧ VR B.R W (.loc n) o ∧ VR B.R W di i ∧ onSome (ixD h (.loc n) di) fun d => PQ B.R W Q d h
theorem r_get (x : XOk X B) : PGet X (rGet B) := by
  intro pins s σ H v1 v2 u1 u2 Q I q1 q2 ⟨W, h, n, d2, e, hr, r1, r2, d, ed, q⟩
  subst e
  have un := x.room.un
  cases r1 with
  | loc e =>
    rename_i a
    cases r2 with
    | int i =>
      cases hn : h[n]? with
      | none => simp [ixD, hn] at ed
      | some ob =>
        cases ob with
        | lst ds =>
          simp only [ixD, hn] at ed
          obtain ⟨hu, e1, ys, e2, rs⟩ := hr.loc e hn
          obtain ⟨v, e3, r⟩ := at_get rs ed
          cases q1
          obtain ⟨t, rfl⟩ := q2
          obtain ⟨its, rr, pl, hz⟩ := I.list (a := a) (xs := ys) (.inl (.inl (by rw [e1, e2])))
          obtain ⟨j, h1, h2, h3, h4, h5⟩ := atI_get e3
          obtain ⟨w, ew, rw'⟩ := rr.get h2
          have hl := rr.length
          have hn := line63
          have fin : EP X pins σ Q w s := ⟨v, _, I, rw', q.here hr r⟩
          by_cases h0 : 0 ≤ i
          · have hj : i.toNat = j := by
              rw [seqIndex_of h0 h5] at h1
              exact Option.some.inj h1
            exact wpAny_getItem_list pl.isList h0 (by omega) (by rw [hj]; simpa using ew) fin
          · have hj : (i + (its.toArray.size : Int)).toNat = j := by
              rw [seqIndex_neg (by omega) h4] at h1
              rw [List.size_toArray, ← hl]
              exact Option.some.inj h1
            exact wpAny_getItem_list_neg pl.isList (by omega) (by rw [List.size_toArray] <;> omega) (by omega) (by rw [hj]; simpa using ew) fin
        | _ => simp [ixD, hn] at ed
    | str k =>
      cases hn : h[n]? with
      | none => simp [ixD, hn] at ed
      | some ob =>
        cases ob with
        | sd kvs =>
          simp only [ixD, hn] at ed
          obtain ⟨hu, e1, ks, e2, rk, _⟩ := hr.loc e hn
          rcases sd_get (k := k) rk with ⟨h1, _⟩ | ⟨d', v, h1, h2, r⟩
          · rw [h1] at ed; cases ed
          · rw [h1] at ed; cases ed
            have g : DGet W.H a (.str (tx k)) (some v) := .inl ⟨ks, Sum.inr (tx k), .inl (by rw [e1, e2]), rfl, h2.symm⟩
            cases q1
            exact d_getItem (by omega) I g q2 fun w' s' I' rw' => ⟨v, _, I', rw', q.here hr r⟩
        | _ => simp [ixD, hn] at ed
    | tup t rs =>
      rename_i b vs ks
      have dct : ∀ {kvs : List (D × D)} {es : List (NestedKey × Addr × Value)}, Rd W.H a (.ext (KDo B.R a es)) → KKs B.R W kvs es → isKey (.tup ks) = true → kget kvs (.tup ks) = some d → wpAny (model X.prog X.w) X.A (getItem u1 u2) (EP X pins σ Q) X.xe s := by
        intro kvs es ea rk hk eg
        cases q1
        have hv : VR B.R W (.tup ks) (.ref b) := .tup t rs
        obtain ⟨hD, hsm⟩ := kd_at x.K x.P x.w I ea rk
        have hi := key_is x.K I hk hv
        cases q2
        rcases kd_get hk rk with ⟨h1, _⟩ | ⟨d', p, v, h1, h2, rv, r⟩
        · rw [h1] at eg; cases eg
        · rw [h1] at eg; cases eg
          have hroom : (kn B).room X.A.in1 := by show X.A.units + 1 + 8 < cLine; omega
          rw [x.P, x.w]
          exact wpAny_getItem_heap (knd := kn B) hroom hi hD h2 ⟨v, _, I.tok _, rv, q.here hr r⟩
      cases hn : h[n]? with
      | none => simp [ixD, hn] at ed
      | some o =>
        cases o with
        | kd kvs =>
          obtain ⟨hu, e1, es, e2, rk⟩ := hr.loc e hn
          simp only [ixD, hn] at ed
          split at ed
          · rename_i hk
            exact dct (.inl (by rw [e1, e2])) rk hk ed
          · cases ed
        | frz kvs =>
          obtain ⟨hu, e1, ob, es, e2, rk⟩ := hr.loc e hn
          simp only [ixD, hn] at ed
          split at ed
          · rename_i hk
            exact dct (.inr ⟨ob, by rw [e1, e2]⟩) rk hk ed
          · cases ed
        | lst _ => simp [ixD, hn] at ed
        | sd _ => simp [ixD, hn] at ed
        | ins _ _ => simp [ixD, hn] at ed
    | _ => simp [ixD] at ed
theorem st_augs (x : XOk X B) {o k a : Expr} {eo ek ea : E} {op : Op} {p : Pos} (hop : op = .add ∨ op = .sub) (ho : PE X o (tE B eo)) (hk : PE X k (tE B ek)) (ha : PE X a (tE B ea))
    (hst : ∀ ov iv new, augStore k ov iv new = (do holding [new, ov, iv] (setItem ov iv new); release [new, ov, iv] []; pure .next)) : PS X (.AugAssign (.Subscript o k p) (augOp op) a pos) (tS B (.augs eo ek op ea)) :=
  (ps_augS ho hk (r_get x) ha (r_aug' hop) (r_set x) hst).impW fun σ H D ⟨W, σd, h, e1, hr, w⟩ => by
    subst e1
    simp only [wpS] at w
    refine step1 x hr w fun d1 h1 W1 v1 w l1 hr1 r1 => ?_
    refine step1 x hr1 w fun d2 h2 W2 v2 w l2 hr2 r2 => ?_
    obtain ⟨n, en, w⟩ := w
    subst en
    refine ⟨W2, h2, n, d2, rfl, hr2.hr, r1.mono l2.toLw, r2, onSome_mono (fun z w => ?_) w⟩
    intro W3 v3 l3 r3 rz
    have hr3 := hr2.to l3 r3
    refine step1 x hr3 w fun d4 h4 W4 v4 w l4 hr4 r4 => ?_
    refine ⟨W4, h4, z, d4, rfl, hr4.hr, rz.mono l4.toLw, r4, onSome_mono (fun y w => ?_) w⟩
    intro W5 v5 l5 r5 ry
    have hr5 := hr4.to l5 r5
    have lA := (l3.trans l4).trans l5
    obtain ⟨h6, e6, w⟩ := w
    refine ⟨W5, h4, .loc n, d2, y, rfl, hr5.hr, (r1.mono l2.toLw).mono lA.toLw, r2.mono lA.toLw, ry, h6, e6, fun W6 l6 r6 => ?_⟩
    exact w W6 σ (l1.trans (l2.trans (lA.trans l6))) (hr5.to l6 r6)
theorem in_aug {op : Op} (ho : op = .add ∨ op = .sub) : InOp X (augOp op) (rAugD B op) := fun pins s σ H a b u v Q I r1 r2 h => r_aug' ho pins s σ H a b u v Q I r1 r2 h
theorem st_augf (x : XOk X B) {o a : Expr} {eo ea : E} {f : Nat} {op : Op} {p : Pos} (hop : op = .add ∨ op = .sub) (ho : PE X o (tE B eo)) (ha : PE X a (tE B ea)) : PS X (.AugAssign (.Attribute o (B.R.T.fnm f) p) (augOp op) a pos) (tS B (.augf eo f op ea)) :=
  (ps_fldaug ho ha (in_aug hop)).impW fun σ H D ⟨W, σd, h, e1, hr, w⟩ => by
    subst e1
    simp only [wpS] at w
    refine step1 x hr w fun d1 h1 W1 v1 w l1 hr1 r1 => ?_
    obtain ⟨n, c, fs, d2, e1, ⟨e2, e3⟩, e4, w⟩ := w
    subst e1
    rw [x.go] at e3
    obtain ⟨c1, c2⟩ := x.wr.cls c f e3
    cases r1 with
    | loc en =>
      rename_i a
      obtain ⟨hu, e5, dx, gs, e6, rf, nd⟩ := hr1.hr.loc en e2
      obtain ⟨v2, h4, r2⟩ := fr_get x.wr e3 rf nd.2 e4
      refine ⟨a, B.R.cls c, dx, gs, v2, rfl, by rw [e5, e6], by rw [x.K]; exact c1, by rw [x.K]; exact c2, h4, ?_⟩
      refine step1 x hr1 w fun d3 h3 W3 v3 w l3 hr3 r3 => ?_
      obtain ⟨fs', e7, w⟩ := w
      refine ⟨W3, h3, d2, d3, rfl, hr3.hr, r2.mono l3.toLw, r3, onSome_mono (fun z w => ?_) w⟩
      intro W4 v4 l4 r4 rz
      have hr4 := hr3.to l4 r4
      have en4 : W4.m[n]? = some a := l4.toLw.ix (l3.toLw.ix en)
      obtain ⟨hu', e8, dx', gs', e9, rf', nd'⟩ := hr4.hr.loc en4 e7
      obtain ⟨l5, r5⟩ := ins_put x (dx := dx') hr4.hr en4 e3 rf' nd' rz
      refine ⟨dx', gs', by rw [e8, e9], by rw [← fr_len rf']; omega, ?_⟩
      exact w.2 _ σ (l1.trans (l3.trans (l4.trans l5))) (hr4.to l5 r5)
end
end Mi

set_option linter.all false
set_option maxRecDepth 100000
set_option maxHeartbeats 2000000
namespace Mi
open PySem PySem.Spec PyProof.Rows L2
/-! ## built-in functions and methods -/
def rBi (B : Bx) (b : Bi) : List V → Hp → VK → Prop := fun vs H Q => ∃ W h ds, W.H = H ∧ HR B.R W h ∧ VRs B.R W ds vs ∧ onSome (biD h b ds) fun r => PQ B.R W Q r.1 r.2
def rBm (B : Bx) (b : Bi) : V → List V → Hp → VK → Prop := fun v vs H Q => ∃ W h d ds, W.H = H ∧ HR B.R W h ∧ VR B.R W d v ∧ VRs B.R W ds vs ∧ onSome (biD h b (d :: ds)) fun r => PQ B.R W Q r.1 r.2
theorem VRs.one {R W d vs} (r : VRs R W [d] vs) : ∃ v, vs = [v] ∧ VR R W d v := by
  cases r with
  | cons r t => cases t; exact ⟨_, rfl, r⟩
theorem VRs.two {R W d e vs} (r : VRs R W [d, e] vs) : ∃ v u, vs = [v, u] ∧ VR R W d v ∧ VR R W e u := by
  cases r with
  | cons r t => obtain ⟨u, e, q⟩ := VRs.one t; subst e; exact ⟨_, _, rfl, r, q⟩
/-- the items of a list or a tuple -/
theorem seq_at {X : Cx} {B : Bx} (x : XOk X B) {W : Wo} {h : Hm} {d : D} {v : V} {xs : List D} (hr : HR B.R W h) (r : VR B.R W d v) (e : seqOf h d = some xs) : ∃ a vs, v = .ref a ∧ (SqL X.K W.H a vs ∨ SqT X.K W.H a vs) ∧ VRs B.R W xs vs := by
  have lst : ∀ {d}, VR B.R W d v → lstOf h d = some xs → ∃ a vs, v = .ref a ∧ (SqL X.K W.H a vs ∨ SqT X.K W.H a vs) ∧ VRs B.R W xs vs := fun r e => by
    obtain ⟨a, vs, e1, e2, rs⟩ := lst_at hr r e
    exact ⟨a, vs, e1, .inl (.inl (.inl e2)), rs⟩
  cases r with
  | tup t rs =>
    simp only [seqOf] at e
    cases e
    exact ⟨_, _, rfl, .inr (sq_of x t), rs⟩
  | lst t rs => exact lst (.lst t rs) e
  | loc t => exact lst (.loc t) e
  | non => exact lst .non e
  | bl b => exact lst (.bl b) e
  | int b => exact lst (.int b) e
  | str b => exact lst (.str b) e
  | fn b q => exact lst (.fn b q) e
  | scr b => exact lst (.scr b) e
theorem bls {R W} : ∀ {ds : List D} {vs : List V} {bs : List Bool}, VRs R W ds vs → allBl ds = some bs → vs = bs.map V.bl
  | [], _, bs, .nil, e => by simp only [allBl] at e; cases e; rfl
  | d :: ds, _, bs, .cons r t, e => by
    cases r <;> simp only [allBl] at e <;> try contradiction
    rename_i b
    cases h : allBl ds with
    | none => rw [h] at e; cases e
    | some l => rw [h] at e; cases e; rw [bls t h]; rfl
theorem ints_ {R W} : ∀ {ds : List D} {vs : List V} {bs : List Int}, VRs R W ds vs → allInt ds = some bs → vs = bs.map V.int
  | [], _, bs, .nil, e => by simp only [allInt] at e; cases e; rfl
  | d :: ds, _, bs, .cons r t, e => by
    cases r <;> simp only [allInt] at e <;> try contradiction
    rename_i b
    cases h : allInt ds with
    | none => rw [h] at e; cases e
    | some l => rw [h] at e; cases e; rw [ints_ t h]; rfl
theorem strs_ {R W} : ∀ {ds : List D} {vs : List V} {bs : List (List Nat)}, VRs R W ds vs → allStr ds = some bs → vs = (bs.map tx).map V.str
  | [], _, bs, .nil, e => by simp only [allStr] at e; cases e; rfl
  | d :: ds, _, bs, .cons r t, e => by
    cases r <;> simp only [allStr] at e <;> try contradiction
    rename_i b
    cases h : allStr ds with
    | none => rw [h] at e; cases e
    | some l => rw [h] at e; cases e; rw [strs_ t h]; rfl
theorem bi_some {α : Type} {o : Option α} {f : α → D × Hm} {r : D × Hm} (e : o.map f = some r) : ∃ a, o = some a ∧ f a = r := by
  cases o with
  | none => cases e
  | some a => exact ⟨a, rfl, by cases e; rfl⟩
theorem bind_some {α β : Type} {o : Option α} {f : α → Option β} {r : β} (e : o.bind f = some r) : ∃ a, o = some a ∧ f a = some r := by
  cases o with
  | none => cases e
  | some a => exact ⟨a, rfl, e⟩
section
variable {X : Cx} {B : Bx} {pos : Pos}
theorem b_len (x : XOk X B) : CallR X (.builtin "len") (rBi B .len) := by
  intro pins s σ H vs us Q I q1 ⟨W, h, ds, e, hr, rs, r, er, q⟩
  subst e
  have un := x.room.un
  cases rs with
  | nil => simp [biD] at er
  | cons r1 t =>
    cases t with
    | cons _ _ => simp [biD] at er
    | nil =>
      have seq : ∀ {a : Addr} {zs : List V}, (SqL X.K W.H a zs ∨ SqT X.K W.H a zs) → VR B.R W (.int zs.length) (.int zs.length) → PQ B.R W Q (.int zs.length) h → Vals [.ref a] us → wpAny (model X.prog X.w) X.A (call (.builtin "len") us) (EP X pins σ Q) X.xe s := fun hs rr q q1 =>
        call_len_seq pins s σ _ _ _ Q I q1 ⟨_, _, rfl, hs, q.here hr rr⟩
      cases r1 with
      | str z =>
        simp only [biD] at er
        split at er
        · rename_i hz
          cases er
          exact call_len_str pins s σ _ _ _ Q I q1 ⟨_, rfl, by rw [tx_len]; exact lim_le hz, by rw [tx_len]; exact q.here hr (.int _)⟩
        · cases er
      | tup ta rs =>
        simp only [biD] at er
        cases er
        rw [rs.length] at q
        exact seq (.inr (sq_of x ta)) (.int _) q q1
      | lst ta rs =>
        simp only [biD] at er
        cases er
        rw [rs.length] at q
        exact seq (.inl (.inl (.inl ta.2.2))) (.int _) q q1
      | scr ta =>
        rename_i a ns
        simp only [biD] at er
        cases er
        have e : ns.length = (ns.map V.int).length := by simp
        rw [e] at q
        exact seq (.inl (scr_of (R := B.R) x ta)) (.int _) q q1
      | loc en =>
        rename_i n a
        cases hn : h[n]? with
        | none => simp [biD, hn] at er
        | some o =>
          cases o with
          | lst ds =>
            obtain ⟨hu, e1, ys, e2, rs⟩ := hr.loc en hn
            simp only [biD, hn] at er
            cases er
            rw [rs.length] at q
            exact seq (.inl (.inl (.inl (by rw [e1, e2])))) (.int _) q q1
          | kd kvs =>
            obtain ⟨hu, e1, es, e2, rk⟩ := hr.loc en hn
            simp only [biD, hn] at er
            split at er
            case isFalse => cases er
            rename_i hz
            cases er
            obtain ⟨hD, hsm⟩ := kd_at x.K x.P x.w I (.inl (by rw [e1, e2])) rk
            obtain ⟨u, rfl, ru⟩ := vals1 q1
            cases ru
            have hl := Mi.Paired.len rk
            have : lim = 16000000 := rfl
            rw [x.P, x.w]
            exact PySem.call_len_dictH (knd := kn B) hsm hD (by omega) ⟨.int es.length, _, I.tok _, ⟨_, rfl⟩, by rw [← hl]; exact q.here hr (.int _)⟩
          | _ => simp [biD, hn] at er
      | _ => simp [biD] at er
theorem b_all (x : XOk X B) : CallR X (.builtin "all") (rBi B .all) := by
  intro pins s σ H vs us Q I q1 ⟨W, h, ds, e, hr, rs, r, er, q⟩
  subst e
  cases rs with
  | nil => simp [biD] at er
  | cons r1 t =>
    cases t with
    | cons _ _ => simp [biD] at er
    | nil =>
      simp only [biD] at er
      obtain ⟨bs, e1, e2⟩ := bi_some er
      obtain ⟨ys, e3, e4⟩ := bind_some e1
      obtain ⟨a, zs, rfl, hz, rz⟩ := lst_at hr r1 e3
      have := bls rz e4
      subst this e2
      exact cr_all x.calm pins s σ _ _ _ Q I q1 ⟨a, bs, rfl, .inl (.inl hz), q.here hr (.bl _)⟩
theorem b_any (x : XOk X B) : CallR X (.builtin "any") (rBi B .any) := by
  intro pins s σ H vs us Q I q1 ⟨W, h, ds, e, hr, rs, r, er, q⟩
  subst e
  cases rs with
  | nil => simp [biD] at er
  | cons r1 t =>
    cases t with
    | cons _ _ => simp [biD] at er
    | nil =>
      simp only [biD] at er
      obtain ⟨bs, e1, e2⟩ := bi_some er
      obtain ⟨ys, e3, e4⟩ := bind_some e1
      obtain ⟨a, zs, rfl, hz, rz⟩ := lst_at hr r1 e3
      have := bls rz e4
      subst this e2
      exact cr_any x.calm pins s σ _ _ _ Q I q1 ⟨a, bs, rfl, .inl (.inl hz), q.here hr (.bl _)⟩
theorem b_sum (x : XOk X B) : CallR X (.builtin "sum") (rBi B .sum) := by
  intro pins s σ H vs us Q I q1 ⟨W, h, ds, e, hr, rs, r, er, q⟩
  subst e
  cases rs with
  | nil => simp [biD] at er
  | cons r1 t =>
    cases t with
    | cons _ _ => simp [biD] at er
    | nil =>
      simp only [biD] at er
      obtain ⟨bs, e1, e2⟩ := bi_some er
      obtain ⟨ys, e3, e4⟩ := bind_some e1
      obtain ⟨a, zs, rfl, hz, rz⟩ := lst_at hr r1 e3
      have := ints_ rz e4
      subst this e2
      exact cr_sum x.calm pins s σ _ _ _ Q I q1 ⟨a, bs, rfl, .inl (.inl hz), q.here hr (.int _)⟩
theorem fold_max : ∀ (r : List Int) (n : Int), r.foldl max n ∈ n :: r ∧ ∀ y ∈ n :: r, y ≤ r.foldl max n
  | [], n => by simp
  | m :: r, n => by
    obtain ⟨h1, h2⟩ := fold_max r (max n m)
    rw [List.foldl_cons]
    refine ⟨?_, fun y hy => ?_⟩
    · rcases List.mem_cons.mp h1 with e | e
      · rw [e]
        by_cases h : n ≤ m
        · rw [Int.max_eq_right h]; simp
        · rw [Int.max_eq_left (by omega)]; simp
      · exact List.mem_cons_of_mem _ (List.mem_cons_of_mem _ e)
    · have h3 := h2 (max n m) List.mem_cons_self
      rcases List.mem_cons.mp hy with e | hy
      · subst e; omega
      · rcases List.mem_cons.mp hy with e | hy
        · subst e; omega
        · exact h2 y (List.mem_cons_of_mem _ hy)
theorem b_max1 (x : XOk X B) : CallR X (.builtin "max") (rBi B .max1) := by
  intro pins s σ H vs us Q I q1 ⟨W, h, ds, e, hr, rs, r, er, q⟩
  subst e
  cases rs with
  | nil => simp [biD] at er
  | cons r1 t =>
    cases t with
    | cons _ _ => simp [biD] at er
    | nil =>
      simp only [biD] at er
      obtain ⟨bs, e1, e2⟩ := bind_some er
      obtain ⟨ys, e3, e4⟩ := bind_some e1
      obtain ⟨a, zs, rfl, hz, rz⟩ := lst_at hr r1 e3
      have := ints_ rz e4
      subst this
      cases bs with
      | nil => cases e2
      | cons n l =>
        cases e2
        refine cr_max x.calm pins s σ _ _ _ Q I q1 ⟨a, n :: l, rfl, .inl (.inl hz), by simp, fun m hm hall => ?_⟩
        obtain ⟨f1, f2⟩ := fold_max l n
        have : m = l.foldl max n := Int.le_antisymm (f2 m hm) (hall _ f1)
        rw [this]
        exact q.here hr (.int _)
theorem b_min2 (x : XOk X B) : CallR X (.builtin "min") (rBi B .min2) := by
  intro pins s σ H vs us Q I q1 ⟨W, h, ds, e, hr, rs, r, er, q⟩
  subst e
  cases rs with
  | nil => simp [biD] at er
  | cons r1 t =>
    cases t with
    | nil => simp [biD] at er
    | cons r2 t =>
      cases t with
      | cons _ _ => cases r1 <;> cases r2 <;> simp [biD] at er
      | nil =>
        cases r1 <;> cases r2 <;> simp only [biD] at er <;> try contradiction
        cases er
        exact call_min2 x.calm pins s σ _ _ _ Q I q1 ⟨_, _, rfl, q.here hr (.int _)⟩
theorem b_tuple (x : XOk X B) : CallR X (.type "tuple") (rBi B .tuple) := by
  intro pins s σ H vs us Q I q1 ⟨W, h, ds, e, hr, rs, r, er, q⟩
  subst e
  cases rs with
  | nil => simp [biD] at er
  | cons r1 t =>
    cases t with
    | cons _ _ => simp [biD] at er
    | nil =>
      simp only [biD] at er
      obtain ⟨ys, e1, e2⟩ := bi_some er
      subst e2
      have lst : ∀ {d v}, VR B.R W d v → lstOf h d = some ys → Vals [v] us → wpAny (model X.prog X.w) X.A (call (.type "tuple") us) (EP X pins σ Q) X.xe s := fun r e q1 => by
        obtain ⟨a, zs, rfl, hz, rz⟩ := lst_at hr r e
        exact call_tuple_of pins s σ _ _ _ Q I q1 ⟨a, zs, rfl, .inl ⟨.inl (.inl hz), fun p hp => new_tup q hr rz hp⟩⟩
      cases r1 with
      | tup ta rs =>
        simp only [seqOf] at e1
        cases e1
        exact call_tuple_of pins s σ _ _ _ Q I q1 ⟨_, _, rfl, .inr ⟨sq_of x ta, q.here hr (.tup ta rs)⟩⟩
      | lst t rs => exact lst (.lst t rs) e1 q1
      | loc t => exact lst (.loc t) e1 q1
      | non => exact lst .non e1 q1
      | bl b => exact lst (.bl b) e1 q1
      | int b => exact lst (.int b) e1 q1
      | str b => exact lst (.str b) e1 q1
      | fn b q => exact lst (.fn b q) e1 q1
      | scr b => exact lst (.scr b) e1 q1
/-! ### methods -/
theorem m_append : MtR X "list.append" (rBm B .append) := by
  intro pins s σ H v vs u us Q I q1 q2 ⟨W, h, d, ds, e, hr, r0, rs, r, er, q⟩
  subst e
  cases rs with
  | nil => cases r0 <;> simp [biD] at er
  | cons r1 t =>
    cases t with
    | cons _ _ => cases r0 <;> simp [biD] at er
    | nil =>
      cases r0 with
      | loc en =>
        rename_i d1 v1 n a
        cases hn : h[n]? with
        | none => simp [biD, hn] at er
        | some o =>
          cases o with
          | lst es =>
            obtain ⟨hu, e1, ys, e2, ry⟩ := hr.loc en hn
            simp only [biD, hn] at er
            split at er
            · rename_i hz
              cases er
              have lf := Le.set (o := .lst (ys ++ [v1])) hr (List.mem_of_getElem? en)
              refine mt_append pins s σ _ _ _ _ _ Q I q1 q2 ⟨a, ys, v1, rfl, rfl, by rw [e1, e2], by rw [← ry.length]; exact Nat.lt_of_lt_of_le hz lim_line, ?_⟩
              exact q (W.at_ (upd W.H a (.lst (ys ++ [v1])))) .non lf (hr.set en ⟨_, rfl, (ry.mono lf.toLw).snoc (r1.mono lf.toLw)⟩) .non
            · cases er
          | _ => simp [biD, hn] at er
      | _ => simp [biD] at er
theorem m_extend : MtR X "list.extend" (rBm B .extend) := by
  intro pins s σ H v vs u us Q I q1 q2 ⟨W, h, d, ds, e, hr, r0, rs, r, er, q⟩
  subst e
  cases rs with
  | nil => cases r0 <;> simp [biD] at er
  | cons r1 t =>
    cases t with
    | cons _ _ => cases r0 <;> simp [biD] at er
    | nil =>
      cases r0 with
      | loc en =>
        rename_i d1 v1 n a
        cases hn : h[n]? with
        | none => simp [biD, hn] at er
        | some o =>
          cases o with
          | lst es =>
            obtain ⟨hu, e1, ys, e2, ry⟩ := hr.loc en hn
            cases hl : lstOf h d1 with
            | none => simp [biD, hn, hl] at er
            | some zs =>
              obtain ⟨b, ws, rfl, hb, rw'⟩ := lst_at hr r1 hl
              simp only [biD, hn, hl] at er
              split at er
              · rename_i hz
                cases er
                have lf := Le.set (o := .lst (ys ++ ws)) hr (List.mem_of_getElem? en)
                refine mt_extend pins s σ _ _ _ _ _ Q I q1 q2 ⟨a, b, ys, ws, rfl, rfl, by rw [e1, e2], hb, by rw [← ry.length, ← rw'.length]; exact lim_le hz, ?_⟩
                exact q (W.at_ (upd W.H a (.lst (ys ++ ws)))) .non lf (hr.set en ⟨_, rfl, (ry.mono lf.toLw).append (rw'.mono lf.toLw)⟩) .non
              · cases er
          | _ => simp [biD, hn] at er
      | _ => simp [biD] at er
theorem VRs.dropLast {R W} : ∀ {ds : List D} {vs : List V}, VRs R W ds vs → VRs R W ds.dropLast vs.dropLast
  | _, _, .nil => .nil
  | _, _, .cons r .nil => .nil
  | _, _, .cons r (.cons r2 t) => by
    have := VRs.dropLast (.cons r2 t)
    exact .cons r this
theorem m_pop : MtR X "list.pop" (rBm B .pop) := by
  intro pins s σ H v vs u us Q I q1 q2 ⟨W, h, d, ds, e, hr, r0, rs, r, er, q⟩
  subst e
  cases rs with
  | cons _ _ => cases r0 <;> simp [biD] at er
  | nil =>
    cases r0 with
    | loc en =>
      rename_i n a
      cases hn : h[n]? with
      | none => simp [biD, hn] at er
      | some o =>
        cases o with
        | lst es =>
          obtain ⟨hu, e1, ys, e2, ry⟩ := hr.loc en hn
          cases hl : es.getLast? with
          | none => simp [biD, hn, hl] at er
          | some y =>
            simp only [biD, hn, hl] at er
            cases er
            have e3 : es[es.length - 1]? = some y := by rw [← hl, List.getLast?_eq_getElem?]
            obtain ⟨v, e4, rv⟩ := ry.get e3
            have lf := Le.set (o := .lst ys.dropLast) hr (List.mem_of_getElem? en)
            refine mt_pop pins s σ _ _ _ _ _ Q I q1 q2 ⟨a, ys, v, rfl, rfl, by rw [e1, e2], by rw [← ry.length]; exact e4, ?_⟩
            exact q (W.at_ (upd W.H a (.lst ys.dropLast))) v lf (hr.set en ⟨_, rfl, (ry.mono lf.toLw).dropLast⟩) (rv.mono lf.toLw)
        | _ => simp [biD, hn] at er
    | _ => simp [biD] at er
theorem sd_int {R : Wr} {W : Wo} {i : Int} : ∀ {kvs : List (List Nat × D)} {ks : List (Key × V)}, SKs R W kvs ks → valV ks (Sum.inl i) = none
  | _, _, .nil => rfl
  | _, _, .cons (b := q) (l₂ := ks) r t => by
    rw [valV_neg (by rw [r.1]; intro e; cases e)]
    exact sd_int t
theorem m_get1 (x : XOk X B) : MtR X "dict.get" (rBm B .get1) := by
  intro pins s σ H v vs u us Q I q1 q2 ⟨W, h, d, ds, e, hr, r0, rs, r, er, q⟩
  subst e
  have un := x.room.un
  cases rs with
  | nil => cases r0 <;> simp [biD] at er
  | cons r1 t =>
    cases t with
    | cons _ _ => cases r0 <;> cases r1 <;> simp [biD] at er
    | nil =>
      cases r0 with
      | loc en =>
        rename_i d1 v1 n a
        cases r1 with
        | str k =>
          cases hn : h[n]? with
          | none => simp [biD, hn] at er
          | some o =>
            cases o with
            | sd kvs =>
              obtain ⟨hu, e1, ks, e2, rk, _⟩ := hr.loc en hn
              simp only [biD, hn] at er
              cases er
              obtain ⟨w, rfl, rw'⟩ := vals1 q2
              cases q1
              rcases sd_get (k := k) rk with ⟨h1, h2⟩ | ⟨d', v', h1, h2, r'⟩
              · rw [h1] at q
                exact d_get1 (o := none) (by omega) I (.inl ⟨ks, Sum.inr (tx k), .inl (by rw [e1, e2]), rfl, h2.symm⟩) rw' fun w' s' I' rr => ⟨.non, _, I', rr, q.here hr .non⟩
              · rw [h1] at q
                exact d_get1 (o := some v') (by omega) I (.inl ⟨ks, Sum.inr (tx k), .inl (by rw [e1, e2]), rfl, h2.symm⟩) rw' fun w' s' I' rr => ⟨v', _, I', rr, q.here hr r'⟩
            | _ => simp [biD, hn] at er
        | _ => simp [biD] at er
      | _ => cases r1 <;> simp [biD] at er
theorem m_get2 (x : XOk X B) : MtR X "dict.get" (rBm B .get2) := by
  intro pins s σ H v vs u us Q I q1 q2 ⟨W, h, d, ds, e, hr, r0, rs, r, er, q⟩
  subst e
  have un := x.room.un
  cases rs with
  | nil => cases r0 <;> simp [biD] at er
  | cons r1 t =>
    cases t with
    | nil => cases r0 <;> cases r1 <;> simp [biD] at er
    | cons r2 t =>
      cases t with
      | cons _ _ => cases r0 <;> cases r1 <;> simp [biD] at er
      | nil =>
        cases r0 with
        | loc en =>
          rename_i d1 v1 d2 v2 n a
          cases hn : h[n]? with
          | none => cases r1 <;> simp [biD, hn] at er
          | some o =>
            cases o with
            | sd kvs =>
              obtain ⟨hu, e1, ks, e2, rk, _⟩ := hr.loc en hn
              cases q1
              cases q2 with
              | cons w1 q2 => cases q2 with
                | cons w2 q2 =>
                  cases q2
                  cases r1 with
                  | str k =>
                    simp only [biD, hn] at er
                    cases er
                    rcases sd_get (k := k) rk with ⟨h1, h2⟩ | ⟨d', v', h1, h2, r'⟩
                    · rw [h1] at q
                      exact d_get2 (o := none) (by omega) I (.inl ⟨ks, Sum.inr (tx k), .inl (by rw [e1, e2]), rfl, h2.symm⟩) w1 w2 fun w' s' I' rr => ⟨v2, _, I', rr, q.here hr r2⟩
                    · rw [h1] at q
                      exact d_get2 (o := some v') (by omega) I (.inl ⟨ks, Sum.inr (tx k), .inl (by rw [e1, e2]), rfl, h2.symm⟩) w1 w2 fun w' s' I' rr => ⟨v', _, I', rr, q.here hr r'⟩
                  | int k =>
                    simp only [biD, hn] at er
                    cases er
                    exact d_get2 (o := none) (by omega) I (.inl ⟨ks, Sum.inl k, .inl (by rw [e1, e2]), rfl, (sd_int rk).symm⟩) w1 w2 fun w' s' I' rr => ⟨v2, _, I', rr, q.here hr r2⟩
                  | _ => simp [biD] at er
            | _ => cases r1 <;> simp [biD, hn] at er
        | _ => cases r1 <;> simp [biD] at er
/-! ### texts -/
theorem starts_eq (a b : List Nat) : Txt.startswith (tx a) (tx b) = b.isPrefixOf a := by
  unfold Txt.startswith
  rw [PySem.StrLaws.subAt_eq, pre_eq, tx_len, tx_len]
  simp only [tx, List.drop_zero]
  by_cases h : b.length ≤ a.length
  · simp [h]
  · have : (a.take b.length == b) = false := by
      refine beq_eq_false_iff_ne.mpr fun e => h ?_
      have := congrArg List.length e
      rw [List.length_take] at this
      omega
    simp [h, this]
theorem ends_eq (a b : List Nat) : Txt.endswith (tx a) (tx b) = b.isSuffixOf a := by
  unfold Txt.endswith
  rw [PySem.StrLaws.subAt_eq, tx_len, tx_len]
  simp only [tx]
  rw [Bool.eq_iff_iff, List.isSuffixOf_iff_suffix]
  simp only [Bool.and_eq_true, decide_eq_true_eq, beq_iff_eq]
  constructor
  · rintro ⟨h1, h2⟩
    have h2 : (a.drop (a.length - b.length)).take b.length = b := by simpa using h2
    rw [List.take_of_length_le (by rw [List.length_drop]; omega)] at h2
    rw [← h2]
    exact List.drop_suffix _ _
  · intro h
    obtain ⟨p, rfl⟩ := h
    refine ⟨by simp, ?_⟩
    simp
theorem m_starts : MtR X "str.startswith" (rBm B .startswith) := by
  intro pins s σ H v vs u us Q I q1 q2 ⟨W, h, d, ds, e, hr, r0, rs, r, er, q⟩
  subst e
  cases rs with
  | nil => cases r0 <;> simp [biD] at er
  | cons r1 t =>
    cases t with
    | cons _ _ => cases r0 <;> cases r1 <;> simp [biD] at er
    | nil =>
      cases r0 <;> cases r1 <;> simp only [biD] at er <;> try contradiction
      cases er
      exact mt_startswith pins s σ _ _ _ _ _ Q I q1 q2 ⟨_, _, rfl, rfl, by rw [starts_eq]; exact q.here hr (.bl _)⟩
theorem m_ends : MtR X "str.endswith" (rBm B .endswith) := by
  intro pins s σ H v vs u us Q I q1 q2 ⟨W, h, d, ds, e, hr, r0, rs, r, er, q⟩
  subst e
  cases rs with
  | nil => cases r0 <;> simp [biD] at er
  | cons r1 t =>
    cases t with
    | cons _ _ => cases r0 <;> cases r1 <;> simp [biD] at er
    | nil =>
      cases r0 <;> cases r1 <;> simp only [biD] at er <;> try contradiction
      cases er
      exact mt_endswith pins s σ _ _ _ _ _ Q I q1 q2 ⟨_, _, rfl, rfl, by rw [ends_eq]; exact q.here hr (.bl _)⟩
theorem joinL_eq (a : List Nat) : ∀ ys : List (List Nat), TL.joinL a ys = joinL a ys
  | [] => rfl
  | [_] => rfl
  | x :: y :: r => by
    show x ++ (a ++ TL.joinL a (y :: r)) = x ++ a ++ joinL a (y :: r)
    rw [joinL_eq a (y :: r), List.append_assoc]
theorem joinL_len (a : List Nat) : ∀ ys : List (List Nat), (ys.map (·.length)).sum + ys.length * a.length ≤ (joinL a ys).length + a.length
  | [] => by simp [joinL]
  | [x] => by simp [joinL]
  | x :: y :: r => by
    have := joinL_len a (y :: r)
    simp only [joinL, List.map_cons, List.sum_cons, List.length_cons, List.length_append] at this ⊢
    have e : (r.length + 1 + 1) * a.length = (r.length + 1) * a.length + a.length := by rw [Nat.succ_mul]
    omega
theorem m_join (x : XOk X B) : MtR X "str.join" (rBm B .join) := by
  intro pins s σ H v vs u us Q I q1 q2 ⟨W, h, d, ds, e, hr, r0, rs, r, er, q⟩
  subst e
  cases rs with
  | nil => cases r0 <;> simp [biD] at er
  | cons r1 t =>
    cases t with
    | cons _ _ => cases r0 <;> simp [biD] at er
    | nil =>
      cases r0 with
      | str z =>
        simp only [biD] at er
        obtain ⟨ss, e1, e2⟩ := bind_some er
        obtain ⟨ys, e3, e4⟩ := bind_some e1
        obtain ⟨a, zs, rfl, hz, rz⟩ := seq_at x hr r1 e3
        have ez := strs_ rz e4
        subst ez
        split at e2
        · rename_i hl
          obtain ⟨hl, hl2⟩ := hl
          cases e2
          refine mt_join pins s σ _ _ _ _ _ Q I q1 q2 ⟨tx z, a, ss.map tx, rfl, rfl, hz, ?_, ?_⟩
          · have e : ((ss.map tx).map (·.length)) = ss.map (·.length) := by rw [List.map_map]; exact List.map_congr_left fun s _ => tx_len s
            rw [e, List.length_map, tx_len]
            have := joinL_len z ss
            have : lim = 16000000 := rfl
            omega
          · have e : Txt.join (tx z) (ss.map tx) = tx (joinL z ss) := by rw [← joinL_eq]; exact SX.join_S z ss
            rw [e]
            exact q.here hr (.str _)
        · cases e2
      | _ => simp [biD] at er
theorem splitC_cons (c x : Nat) (r : List Nat) : splitC c (x :: r) = if x = c then [] :: splitC c r else match splitC c r with
    | [] => [[x]]
    | y :: t => (x :: y) :: t := rfl
theorem splitC_ne (c : Nat) : ∀ s, splitC c s ≠ []
  | [] => by simp [splitC]
  | x :: r => by
    rw [splitC_cons]
    split
    · simp
    · split <;> simp
theorem spl_split (c : Nat) : ∀ (s acc : List Nat), TL.spl [c] 0 acc s = match splitC c s with
    | [] => []
    | y :: t => (acc ++ y) :: t
  | [], acc => by simp [TL.spl, splitC]
  | x :: r, acc => by
    by_cases h : x = c
    · have hp : TL.pre [c] (x :: r) = true := by simp [TL.pre, h]
      rw [TL.spl_hit hp]
      have ih := spl_split c r []
      simp only [List.length_singleton, Nat.sub_self]
      rw [ih]
      rw [splitC_cons, if_pos h]
      cases hs : splitC c r with
      | nil => exact absurd hs (splitC_ne c r)
      | cons y t => simp
    · have hp : TL.pre [c] (x :: r) = false := by simp [TL.pre, h]
      rw [TL.spl_miss hp, spl_split c r (acc ++ [x])]
      rw [splitC_cons, if_neg h]
      cases hs : splitC c r with
      | nil => exact absurd hs (splitC_ne c r)
      | cons y t => simp
theorem split_len (c : Nat) : ∀ s : List Nat, (splitC c s).length ≤ s.length + 1
  | [] => by simp [splitC]
  | x :: r => by
    have := split_len c r
    rw [splitC_cons]
    split
    · simp; omega
    · cases hs : splitC c r with
      | nil => simp
      | cons y t => rw [hs] at this; simp at this ⊢; omega
theorem VRs.strs {R W} : ∀ ss : List (List Nat), VRs R W (ss.map .str) ((ss.map tx).map V.str)
  | [] => .nil
  | s :: ss => .cons (.str s) (VRs.strs ss)
theorem m_split : MtR X "str.split" (rBm B .split) := by
  intro pins s σ H v vs u us Q I q1 q2 ⟨W, h, d, ds, e, hr, r0, rs, r, er, q⟩
  subst e
  cases rs with
  | nil => cases r0 <;> simp [biD] at er
  | cons r1 t =>
    cases t with
    | cons _ _ => cases r0 <;> cases r1 <;> simp [biD] at er
    | nil =>
      cases r0 with
      | str z =>
        cases r1 with
        | str w =>
          cases w with
          | nil => simp [biD] at er
          | cons c w =>
            cases w with
            | cons _ _ => simp [biD] at er
            | nil =>
              simp only [biD] at er
              split at er
              · rename_i hz
                cases er
                refine mt_split pins s σ _ _ _ _ _ Q I q1 q2 ⟨tx z, tx [c], rfl, rfl, by rw [tx_len]; rfl, by rw [tx_len, sizeLine_eq]; have : lim = 16000000 := rfl; omega, ?_⟩
                have hc : c < 256 := hz.2
                have e : Txt.split (tx z) (tx [c]) = (splitC c z).map tx := by
                  have := SX.split_S (a := z) (b := [c]) (by simp) (by simp [hc])
                  rw [show Txt.split (tx z) (tx [c]) = _ from this, spl_split c z []]
                  cases hs : splitC c z with
                  | nil => rfl
                  | cons y t => rfl
                rw [e]
                exact fun p hp => new_lstv q hr (VRs.strs _) hp
              · cases er
        | _ => simp [biD] at er
      | _ => cases r1 <;> simp [biD] at er
end
end Mi

set_option linter.all false
set_option maxRecDepth 100000
set_option maxHeartbeats 2000000
set_option exponentiation.threshold 3000
namespace Mi
open PySem PySem.Spec PyProof.Rows L2
/-! ## built-ins as expressions -/
section
variable {X : Cx} {B : Bx} {pos : Pos}
theorem bi_read (x : XOk X B) {b : Bi} {es : Es} {σ : L2.St} {H : Hp} {Q : VK} (w : tE B (.bi b es) σ H Q) : tEs B es σ H fun vs H1 => rBi B b vs H1 Q := by
  obtain ⟨W, σd, h, e, hr, w⟩ := w
  subst e
  simp only [wpE] at w
  refine steps x hr w fun ds h1 W1 vs w l1 hr1 rs => ?_
  exact ⟨W1, h1, ds, rfl, hr1.hr, rs, onSome_mono (fun r w => w.le l1) w⟩
theorem s_biF (x : XOk X B) {b : Bi} {id : String} {n : Str} {a : Expr} {as : List Expr} {es : Es} {p : Pos} (hc : CallR X (.builtin id) (rBi B b)) (hg : Gl X n) (hm : X.mg n = none) (hv : bootBuiltins n = some (.builtin id)) (ha : PA X (a :: as) (tEs B es)) (hn : n ≠ "__name__") (hdb : (n == ("__debug__" : Str)) = false)
    (he : starEach (a :: as) X.env = (false, eval a X.env) :: starEach as X.env) (hpl : (backTo pos (starEach as X.env)).any (·.1) = false) : PE X (.Call (.Name n p) (a :: as) [] pos) (tE B (.bi b es)) :=
  (pe_callB hc hg hm hv ha hn hdb he hpl).impW fun σ H Q w => bi_read x w
theorem s_biT (x : XOk X B) {b : Bi} {id : String} {n : Str} {a : Expr} {as : List Expr} {es : Es} {p : Pos} (hc : CallR X (.type id) (rBi B b)) (hg : Gl X n) (hm : X.mg n = none) (hv : bootBuiltins n = some (.type id)) (ha : PA X (a :: as) (tEs B es)) (hn : n ≠ "__name__") (hdb : (n == ("__debug__" : Str)) = false)
    (he : starEach (a :: as) X.env = (false, eval a X.env) :: starEach as X.env) (hpl : (backTo pos (starEach as X.env)).any (·.1) = false) : PE X (.Call (.Name n p) (a :: as) [] pos) (tE B (.bi b es)) :=
  (pe_callTy hc hg hm hv ha hn hdb he hpl).impW fun σ H Q w => bi_read x w
/-- the receiver's type -/
def tyB : Bi → String
  | .append => "list" | .extend => "list" | .pop => "list" | .get1 => "dict" | .get2 => "dict" | _ => "str"
theorem kind_ty {b : Bi} {W : Wo} {h : Hm} {d : D} {v : V} {K : PySem.W.Frag} (hr : HR B.R W h) (r : VR B.R W d v) (e : kindB h b d = true) : tyV K (tyB b) v W.H := by
  have lst : ∀ {n : Nat} {a : Addr}, W.m[n]? = some a → (match h[n]? with | some (.lst _) => true | _ => false) = true → tyV K "list" (.ref a) W.H := fun {n a} en e => by
    split at e
    · rename_i ds hd
      obtain ⟨hu, e1, ys, e2, rs⟩ := hr.loc en hd
      exact .inl ⟨rfl, ys, .inl (.inl (by rw [e1, e2]))⟩
    · cases e
  have dct : ∀ {n : Nat} {a : Addr}, W.m[n]? = some a → (match h[n]? with | some (.sd _) => true | _ => false) = true → tyV K "dict" (.ref a) W.H := fun {n a} en e => by
    split at e
    · rename_i ds hd
      obtain ⟨hu, e1, ks, e2, rs⟩ := hr.loc en hd
      exact .inr (.inr (.inl ⟨rfl, .inl ⟨ks, by rw [e1, e2]⟩⟩))
    · cases e
  cases b <;> cases r <;> simp only [kindB] at e <;> first | contradiction | exact lst (by assumption) e | exact dct (by assumption) e | rfl
theorem s_bim (x : XOk X B) {b : Bi} {id : String} {n : Str} {o a : Expr} {as : List Expr} {eo : E} {es : Es} {apos : Pos} (pa : PlainAttrs (tyB b)) (slot : Slot (tyB b) n id) (hty : typeOf (.builtin id) = pure (.type "method_descriptor")) (hm : MtR X id (rBm B b)) (ho : PE X o (tE B eo)) (ha : PA X (a :: as) (tEs B es))
    (hbase : attributeBase o n X.env (eval o X.env) = eval o X.env) (hfew : ((backTo pos (starEach (a :: as) X.env)).all (fun x => !x.1) && (backToKw pos (keywordEach [] X.env)).all (fun x => x.1.isSome) && decide ((a :: as).length + ([] : List Keyword).length + (if ([] : List Keyword).isEmpty then 0 else 1) < 30)) = true)
    (hline : (apos.endLine == pos.line) = true) (hs : starEach (a :: as) X.env = (false, eval a X.env) :: starEach as X.env) (hplain : (backTo pos (starEach as X.env)).any (·.1) = false) :
    PE X (.Call (.Attribute o n apos) (a :: as) [] pos) (tE B (.bim b eo es)) :=
  (pe_bm pa slot hty hm ho ha hbase hfew hline hs hplain).impW fun σ H Q ⟨W, σd, h, e, hr, w⟩ => by
    subst e
    simp only [wpE] at w
    refine step1 x hr w fun d1 h1 W1 v1 w l1 hr1 r1 => ?_
    refine ⟨kind_ty hr1.hr r1 w.1, ?_⟩
    refine steps x hr1 w.2 fun ds h2 W2 vs w l2 hr2 rs => ?_
    exact ⟨W2, h2, d1, ds, rfl, hr2.hr, r1.mono l2.toLw, rs, onSome_mono (fun r w => w.le (l1.trans l2)) w⟩
theorem s_bim0 (x : XOk X B) {b : Bi} {id : String} {n : Str} {o : Expr} {eo : E} {apos : Pos} (pa : PlainAttrs (tyB b)) (slot : Slot (tyB b) n id) (hty : typeOf (.builtin id) = pure (.type "method_descriptor")) (hm : MtR X id (rBm B b)) (ho : PE X o (tE B eo))
    (hbase : attributeBase o n X.env (eval o X.env) = eval o X.env) (hline : (apos.endLine == pos.line) = true) : PE X (.Call (.Attribute o n apos) [] [] pos) (tE B (.bim b eo .nil)) :=
  (pe_bm0 pa slot hty hm ho hbase hline).impW fun σ H Q ⟨W, σd, h, e, hr, w⟩ => by
    subst e
    simp only [wpE, wpEs] at w
    refine step1 x hr w fun d1 h1 W1 v1 w l1 hr1 r1 => ?_
    exact ⟨kind_ty hr1.hr r1 w.1, W1, h1, d1, [], rfl, hr1.hr, r1, .nil, onSome_mono (fun r w => w.le l1) w.2⟩
/-! ### numbers as texts -/
theorem digs_num : ∀ (f n : Nat), n < 10 ^ f → 0 < f → digs f n = TL.numL n
  | 0, n, _, h => absurd h (by omega)
  | f + 1, n, h, _ => by
    unfold digs
    by_cases h1 : n < 10
    · rw [if_pos h1, TL.numL_lt h1]
    · rw [if_neg h1, TL.numL_step (by omega)]
      have hf : 0 < f := by
        cases f with
        | zero => simp at h; omega
        | succ f => omega
      rw [digs_num f (n / 10) (by rw [Nat.pow_succ] at h; omega) hf]
theorem str_num {i : Int} (h0 : 0 ≤ i) (h1 : i < 1000000) : (Str.ofString (toString i)) = tx (digs 7 i.toNat) := by
  obtain ⟨n, rfl⟩ := Int.eq_ofNat_of_zero_le h0
  refine TL.ext_tl ?_
  rw [TL.tl_num]
  rw [show ((n : Int)).toNat = n by simp, digs_num 7 n (by omega) (by omega)]
  rfl
theorem b_strOf : CallR X (.type "str") (rBi B .strOf) := by
  intro pins s σ H vs us Q I q1 ⟨W, h, ds, e, hr, rs, r, er, q⟩
  subst e
  cases rs with
  | nil => simp [biD] at er
  | cons r1 t =>
    cases t with
    | cons _ _ => cases r1 <;> simp [biD] at er
    | nil =>
      cases r1 <;> simp only [biD] at er <;> try contradiction
      · split at er
        · rename_i i hi
          cases er
          refine call_str_int pins s σ _ _ _ Q I q1 ⟨i, rfl, ?_, ?_⟩
          · have : i.natAbs < 2 ^ 1920 := Nat.lt_of_lt_of_le (show i.natAbs < 2 ^ 20 by omega) (Nat.pow_le_pow_right (by decide) (by decide))
            by_cases h0 : i.natAbs = 0
            · rw [h0]; decide
            · exact (Nat.log2_lt h0).mpr this
          · rw [str_num hi.1 hi.2]
            exact q.here hr (.str _)
        · cases er
      · cases er
        exact SkE.call_str_str pins s σ _ _ _ Q I q1 ⟨_, rfl, q.here hr (.str _)⟩
theorem b_intOf : CallR X (.type "int") (rBi B .intOf) := by
  intro pins s σ H vs us Q I q1 ⟨W, h, ds, e, hr, rs, r, er, q⟩
  subst e
  cases rs with
  | nil => simp [biD] at er
  | cons r1 t =>
    cases t with
    | cons _ _ => cases r1 <;> simp [biD] at er
    | nil =>
      cases r1 <;> simp only [biD] at er <;> try contradiction
      rename_i z
      split at er
      · rename_i hz
        cases er
        obtain ⟨h1, h2, h3⟩ := hz
        refine call_int_str pins s σ _ _ _ Q I q1 ⟨tx z, (digV z : Nat), rfl, ?_, by rw [tx_len]; omega, q.here hr (.int _)⟩
        have ha : PySem.NumText.AllDigits (tx z).cps.toList := fun c hc => by
          have := List.all_eq_true.mp h3 c (by simpa [tx] using hc)
          simpa using this
        have := PySem.intText_digits ha (by simpa [tx] using h1) (by rw [tx_len]; omega)
        rw [this]
        simp [tx, digV, PySem.NumText.digitsVal]
      · cases er
theorem findC_at {c : Nat} : ∀ {s : List Nat} {k : Nat}, findC c s = some k → s[k]? = some c ∧ ∀ j, j < k → s[j]? ≠ some c
  | [], k, h => by simp [findC] at h
  | x :: r, k, h => by
    unfold findC at h
    by_cases hx : x = c
    · rw [if_pos hx] at h; cases h
      exact ⟨by simp [hx], fun j hj => absurd hj (Nat.not_lt_zero _)⟩
    · rw [if_neg hx] at h
      cases hf : findC c r with
      | none => rw [hf] at h; cases h
      | some m =>
        rw [hf] at h; cases h
        obtain ⟨h1, h2⟩ := findC_at hf
        refine ⟨by simpa using h1, fun j hj => ?_⟩
        cases j with
        | zero => simp [hx]
        | succ j => simpa using h2 j (Nat.lt_of_succ_lt_succ hj)
theorem at_one (s : List Nat) (c i : Nat) : PySem.StrLaws.At (tx s) (tx [c]) (tx s).length i ↔ s[i]? = some c := by
  unfold PySem.StrLaws.At
  rw [PySem.StrLaws.subAt_eq, tx_len, tx_len]
  simp only [tx, beq_iff_eq, List.length_singleton]
  constructor
  · rintro ⟨h1, h2⟩
    have h2 : (s.drop i).take 1 = [c] := by simpa using h2
    have : (s.drop i)[0]? = some c := by
      cases hd : s.drop i with
      | nil => rw [hd] at h2; simp at h2
      | cons a t => rw [hd] at h2; simp at h2; simp [h2]
    simpa [List.getElem?_drop] using this
  · intro h
    obtain ⟨h1, h2⟩ := List.getElem?_eq_some_iff.mp h
    refine ⟨by omega, ?_⟩
    have : s.drop i = c :: s.drop (i + 1) := by rw [← h2]; exact List.drop_eq_getElem_cons h1
    simp [this]
theorem m_index : MtR X "str.index" (rBm B .index) := by
  intro pins s σ H v vs u us Q I q1 q2 ⟨W, h, d, ds, e, hr, r0, rs, r, er, q⟩
  subst e
  cases rs with
  | nil => cases r0 <;> simp [biD] at er
  | cons r1 t =>
    cases t with
    | cons _ _ => cases r0 <;> cases r1 <;> simp [biD] at er
    | nil =>
      cases r0 with
      | str z =>
        cases r1 with
        | str w =>
          cases w with
          | nil => simp [biD] at er
          | cons c w =>
            cases w with
            | cons _ _ => simp [biD] at er
            | nil =>
              simp only [biD] at er
              obtain ⟨k, e1, e2⟩ := bi_some er
              subst e2
              obtain ⟨f1, f2⟩ := findC_at e1
              rcases PySem.StrLaws.occ_head (tx z) (tx [c]) 1 (Nat.le_refl _) with ⟨_, hn⟩ | ⟨i, rest, ho, ha, hb⟩
              · exact absurd ((at_one z c k).mpr f1) (hn k)
              · have ei : i = k := by
                  rcases Nat.lt_trichotomy i k with h | h | h
                  · exact absurd ((at_one z c i).mp ha) (f2 i h)
                  · exact h
                  · exact absurd ((at_one z c k).mpr f1) (hb k h)
                subst ei
                exact mt_sindex pins s σ _ _ _ _ _ Q I q1 q2 ⟨tx z, tx [c], i, rest, rfl, rfl, ho, q.here hr (.int _)⟩
        | _ => simp [biD] at er
      | _ => cases r1 <;> simp [biD] at er
/-! ### list(range(n)) -/
theorem s_lrange (x : XOk X B) {a : Expr} {ea : E} {p p2 pos2 : Pos} (ha : PE X a (tE B ea)) (hg : Gl X "list") (hm : X.mg "list" = none) (hg2 : Gl X "range") (hm2 : X.mg "range" = none)
    (na : starEach [Expr.Call (.Name "range" p2) [a] [] pos2] X.env = (false, eval (Expr.Call (.Name "range" p2) [a] [] pos2) X.env) :: starEach [] X.env) (nb : starEach [a] X.env = (false, eval a X.env) :: starEach [] X.env) :
    PE X (.Call (.Name "list" p) [.Call (.Name "range" p2) [a] [] pos2] [] pos) (tE B (.bi .lrange (.cons ea .nil))) :=
  (pe_listRg x.calm hg hm (prg_1 hg2 hm2 ha nb) na).impW fun σ H Q ⟨W, σd, h, e, hr, w⟩ => by
    subst e
    simp only [wpE, wpEs] at w
    refine step1 x hr w fun d1 h1 W1 v1 w l1 hr1 r1 => ?_
    obtain ⟨r, er, q⟩ := w
    cases r1 <;> simp only [biD] at er <;> try contradiction
    rename_i n
    split at er
    · rename_i hn
      cases er
      refine ⟨n, rfl, ⟨by omega, by omega, by omega, by omega, by omega⟩, fun p hp => ?_⟩
      refine new_lstv (q.le l1) hr1.hr ?_ hp
      unfold rgV
      rw [show (n - 0).toNat = n.toNat by simp]
      have all : ∀ l : List Nat, VRs B.R W1 (l.map fun (k : Nat) => .int (k : Int)) (l.map fun i => V.int (0 + (i : Nat))) := fun l => by
        induction l with
        | nil => exact .nil
        | cons k l ih =>
          have e : (0 + (k : Nat) : Int) = (k : Int) := by simp
          rw [List.map_cons, List.map_cons, e]
          exact .cons (.int _) ih
      exact all _
    · cases er
end
end Mi

set_option linter.all false
set_option maxRecDepth 100000
set_option maxHeartbeats 2000000
namespace Mi
open PySem PySem.Spec PyProof.Rows L2
/-! ## zip and enumerate of texts -/
/-- the signs of two texts, in new pairs -/
def ItS2 (x y : Str) : It :=
  ⟨fun i _ => i < x.cps.size ∧ i < y.cps.size, fun i H v H' => ∃ T c d, v = .ref T ∧ H T = none ∧ H' = upd H T (.tup [.str ⟨#[c]⟩, .str ⟨#[d]⟩]) ∧ x.cps[i]? = some c ∧ y.cps[i]? = some d, fun i _ => x.cps.size ≤ i ∨ y.cps.size ≤ i⟩
theorem draws_str {prog : Program} {w : World} {A : Around} (hh : A.handled = none) (it : Addr) (x : Str) (t : Tok) :
    Draws prog w A it [it] x.cps.size (SignAt x) (fun i h => h.IsStrIter it (strIterType x) x t i) := by
  unfold strIterType
  cases h : x.cps.all (· < 128)
  · exact Draws.strWide hh it x t
  · exact Draws.strAscii hh it x t
theorem turn_zipS {P : Program} {w : World} {K : PySem.W.Frag} {elts : List Expr} {kk : Nat} {tpos : Pos} {x y : Str} {tx_ ty : Tok} {z TI TO i1 i2 : Addr} (S : ZipSep2 z TI TO i1 i2 [i1] [i2]) :
    Turn P w K (.Tuple elts kk tpos) (ItS2 x y) [z, TI, TO, i1, i2] z (fun i h => (IsZip h z TI TO .none ∧ IsTupOf2 h TI (.ref i1) (.ref i2) ∧ (∃ u v, IsTupOf2 h TO u v)) ∧ h.IsStrIter i1 (strIterType x) x tx_ i ∧ h.IsStrIter i2 (strIterType y) y ty i ∧ i ≤ x.cps.size ∧ i ≤ y.cps.size) where
  mem := List.mem_cons_self
  obj := by
    rintro i h ⟨⟨hz, hTI, u, v, hTO⟩, ⟨o1, e1, _, d1⟩, ⟨o2, e2, _, d2⟩, _⟩ c hc
    have hc' : c = z ∨ c = TI ∨ c = TO ∨ c = i1 ∨ c = i2 := by simpa using hc
    rcases hc' with rfl | rfl | rfl | rfl | rfl
    · exact ⟨_, hz, fun v q => nomatch q⟩
    · exact ⟨_, hTI, fun v q => nomatch q⟩
    · exact ⟨_, hTO, fun v q => nomatch q⟩
    · exact ⟨o1, e1, fun v q => by rw [d1] at q; cases q⟩
    · exact ⟨o2, e2, fun v q => by rw [d2] at q; cases q⟩
  keep := by
    rintro i h h' ⟨⟨hz, hTI, u, v, hTO⟩, ⟨o1, e1, r1⟩, ⟨o2, e2, r2⟩, l⟩ k
    exact ⟨⟨k z (by simp) _ hz, k TI (by simp) _ hTI, u, v, k TO (by simp) _ hTO⟩, ⟨o1, k i1 (by simp) _ e1, r1⟩, ⟨o2, k i2 (by simp) _ e2, r2⟩, l⟩
  item := by
    rintro X rfl rfl rfl hc i pins s σ H E I hf ⟨⟨hz, hTI, u0, v0, hTO⟩, st1, st2, l1, l2⟩ ⟨g1, g2⟩
    have hh : X.A.in1.handled = none := I.ok.hd hc
    have lt : ∀ c ∈ [z, TI, TO, i1, i2], c < s.heap.objs.size := fun c hcm => by
      have hc' : c = z ∨ c = TI ∨ c = TO ∨ c = i1 ∨ c = i2 := by simpa using hcm
      rcases hc' with rfl | rfl | rfl | rfl | rfl
      · exact Heap.lt_size hz
      · exact Heap.lt_size hTI
      · exact Heap.lt_size hTO
      · obtain ⟨_, e, _⟩ := st1; exact Heap.lt_size e
      · obtain ⟨_, e, _⟩ := st2; exact Heap.lt_size e
    refine wpAny_pyNext_zipD2_item S (draws_str hh i1 x tx_) (draws_str hh i2 y ty) hz hTI hTO st1 st2 g1 g2 fun a b h' tk pa pb z' TO' st1' st2' hT hsz hk => ?_
    obtain ⟨c, ua, hxc, rfl⟩ := pa
    obtain ⟨d, ub, hyd, rfl⟩ := pb
    refine ⟨_, rfl, wpAny_letOwnedTupleGo_zip (s := { s with heap := h', toks := tk }) z' fun h2 z2 sb => ?_⟩
    have hzl := lt z (by simp)
    have hT2 : h2.get? s.heap.objs.size = some { cls := .type "tuple", data := .seq #[.str ⟨#[c]⟩ ua, .str ⟨#[d]⟩ ub] } := (sb.2 _ (Nat.ne_of_gt hzl)).trans hT
    have new : ObjOk X.prog X.w (upd H s.heap.objs.size (.tup [.str ⟨#[c]⟩, .str ⟨#[d]⟩])) h2 s.heap.objs.size (.tup [.str ⟨#[c]⟩, .str ⟨#[d]⟩]) :=
      ⟨by show 2 ≤ sizeLine; decide, [.str ⟨#[c]⟩ ua, .str ⟨#[d]⟩ ub], .cons ⟨_, rfl⟩ (.cons ⟨_, rfl⟩ .nil), ⟨_, hT2, rfl, _, rfl⟩⟩
    have out : ∀ b o, b ∉ [z, TI, TO, i1, i2] → s.heap.get? b = some o → h2.get? b = some o := fun b o hb q => by
      have nb : b ≠ z ∧ b ≠ TI ∧ b ≠ TO ∧ b ≠ i1 ∧ b ≠ i2 := by simpa using hb
      exact (sb.2 b nb.1).trans (hk b o nb.1 nb.2.2.1 nb.2.2.2.1 nb.2.2.2.2 q)
    have J := I.turnedNew (t' := tk) out hf (Nat.le_refl _) new
    refine ⟨.ref s.heap.objs.size, _, J, rfl, ⟨_, c, d, rfl, I.hok.fresh (Nat.le_refl _), rfl, hxc, hyd⟩, ⟨⟨z2, ?_, .str ⟨#[c]⟩ ua, .str ⟨#[d]⟩ ub, ?_⟩, ?_, ?_, g1, g2⟩, fun c hcm => ?_⟩
    · exact (sb.2 _ S.TIz).trans (hk _ _ S.TIz S.TITO S.TIi1 S.TIi2 hTI)
    · exact (sb.2 _ S.TOz).trans TO'
    · obtain ⟨o1, e1, r1⟩ := st1'
      exact ⟨o1, (sb.2 _ S.zi1.symm).trans e1, r1⟩
    · obtain ⟨o2, e2, r2⟩ := st2'
      exact ⟨o2, (sb.2 _ S.zi2.symm).trans e2, r2⟩
    · rw [upd_ne (Nat.ne_of_lt (lt c hcm))]
      exact (hf c hcm).1
  done := by
    rintro X rfl rfl rfl hc i pins s σ H E I hf ⟨⟨hz, hTI, u0, v0, hTO⟩, st1, st2, l1, l2⟩ hs
    have hh : X.A.in1.handled = none := I.ok.hd hc
    have hend : i = x.cps.size ∨ i = y.cps.size := by
      rcases hs with h | h
      · exact .inl (Nat.le_antisymm l1 h)
      · exact .inr (Nat.le_antisymm l2 h)
    refine wpAny_pyNext_zipD2_end S (draws_str hh i1 x tx_) (draws_str hh i2 y ty) hz hTI hTO st1 st2 l1 l2 hend fun h' tk hk => ⟨rfl, ?_⟩
    refine I.turnedL (t' := tk) (ch := [z, TI, TO, i1, i2]) (fun b o hb q => ?_) hf
    have nb : b ≠ z ∧ b ≠ TI ∧ b ≠ TO ∧ b ≠ i1 ∧ b ≠ i2 := by simpa using hb
    exact hk b o nb.1 nb.2.2.1 nb.2.2.2.1 nb.2.2.2.2 q
  self := fun A i s Q E st h => wpAny_pyIter_zip st.1.1 h
/-- zip of lists, of tuples, of texts -/
def iZip (K : PySem.W.Frag) (ta : TA) : TI := fun σ H R => ta σ H fun vs H1 => (∃ a b xs ys, vs = [.ref a, .ref b] ∧ SqT K H1 a xs ∧ SqT K H1 b ys ∧ R (RZ.ItzT K a b) H1) ∨ ∃ x y, vs = [.str x, .str y] ∧ R (ItS2 x y) H1
theorem pi_zip {X : Cx} {e e2 : Expr} {ta : TA} {p pos tpos : Pos} {elts : List Expr} {kk : Nat} (hg : Gl X "zip") (hm : X.mg "zip" = none) (ha : PA X [e, e2] ta)
    (hs : starEach [e, e2] X.env = (false, eval e X.env) :: starEach [e2] X.env) (hpl : (backTo pos (starEach [e2] X.env)).any (·.1) = false) :
    PI X (.Tuple elts kk tpos) (.Call (.Name "zip" p) [e, e2] [] pos) (iZip X.K ta) := by
  refine ⟨fun pins s σ H R I h => ?_⟩
  have hB : ∀ s : Shared, s.heap.objs.size ≤ s.heap.objs.size := fun _ => Nat.le_refl _
  refine Call_ (ld_blt I hg hm PyProof.Rows.boot_zip (PyProof.Rows.callWith_type1 (thn (ha.run pos pins s σ H _ I h) fun us s1 ⟨vs, H1, I1, r1, q1⟩ => ?_) hs hpl))
  have mem5 : ∀ {n c : Nat}, c ∈ [n + 4, n + 2, n + 3, n, n + 1] → n ≤ c := fun {n c} h => by
    simp only [List.mem_cons, List.not_mem_nil, or_false] at h
    omega
  rcases q1 with ⟨a, b, xs, ys, rfl, hqx, hqy, q⟩ | ⟨x, y, rfl, q⟩
  · obtain ⟨ua, ub, rfl, ra, rb⟩ := Vals.two r1
    cases ra; cases rb
    obtain ⟨its, rv, p1, _⟩ := I1.tuple hqx
    obtain ⟨its2, rv2, p2, _⟩ := I1.tuple hqy
    have la : a < s1.heap.objs.size := by obtain ⟨o, ho, _⟩ := id p1; exact Heap.lt_size ho
    have lb : b < s1.heap.objs.size := by obtain ⟨o, ho, _⟩ := id p2; exact Heap.lt_size ho
    refine RZ.call_zipT (show s1.heap.IsTuple a its.toArray from p1) (show s1.heap.IsTuple b its2.toArray from p2) fun h' hz hTI hTO h1 h2 hsz hk => wpAny_pyIter_zip hz ?_
    exact ⟨_, _, _, _, H1, rfl, I1.kept (t' := s1.toks) hk, RZ.turn_zipT (PySem.W.ktu_apart s1.heap.objs.size a b la lb), ⟨hz, hTI, ⟨_, _, hTO⟩, h1, h2⟩, fun c hc => I1.fpOk (mem5 hc) (I1.hok.fresh (mem5 hc)), q⟩
  · obtain ⟨ua, ub, rfl, ⟨ta', rfl⟩, ⟨tb', rfl⟩⟩ := Vals.two r1
    refine zip_begins2 (begins_text x ta') (begins_text y tb') trivial trivial fun h' hz hTI hTO h1 h2 hsz hk => wpAny_pyIter_zip hz ?_
    exact ⟨_, _, _, _, H1, rfl, I1.kept (t' := s1.toks) hk, turn_zipS (zip_sep2 (N := s1.heap.objs.size) (fp1 := []) (fp2 := []) (by simp) (by simp)), ⟨⟨hz, hTI, _, _, hTO⟩, ⟨_, h1, rfl, rfl⟩, ⟨_, h2, rfl, rfl⟩, Nat.zero_le _, Nat.zero_le _⟩, fun c hc => I1.fpOk (mem5 hc) (I1.hok.fresh (mem5 hc)), q⟩
/-- the signs of a text with their places, in new pairs -/
def ItSE (x : Str) : It :=
  ⟨fun i _ => i < x.cps.size, fun i H v H' => ∃ T c, v = .ref T ∧ H T = none ∧ H' = upd H T (.tup [.int (i : Nat), .str ⟨#[c]⟩]) ∧ x.cps[i]? = some c, fun i _ => x.cps.size ≤ i⟩
section
variable {X : Cx} {B : Bx} {pos : Pos}
theorem j_zipS {W0 : Wo} (s t : List Nat) : JOk B.R (ItS2 (tx s) (tx t)) W0 (((s.map fun c => D.str [c]).zip (t.map fun c => D.str [c])).map fun p => .tup [p.1, p.2]) none := by
  intro i W h l hr _
  have hs : ∀ (s : List Nat) (j : Nat), (tx s).cps[j]? = s[j]? := fun s j => by simp [tx]
  have hz : ∀ s : List Nat, (tx s).cps.size = s.length := fun s => by simp [tx]
  refine ⟨fun d e => ?_, fun e => ?_⟩
  · rw [List.getElem?_map] at e
    cases hc : ((s.map fun c => D.str [c]).zip (t.map fun c => D.str [c]))[i]? with
    | none => rw [hc] at e; cases e
    | some p =>
      rw [hc] at e
      cases e
      obtain ⟨h1, h2⟩ := List.getElem?_zip_eq_some.mp hc
      rw [List.getElem?_map] at h1 h2
      cases ec : s[i]? with
      | none => rw [ec] at h1; cases h1
      | some c =>
        cases ed : t[i]? with
        | none => rw [ed] at h2; cases h2
        | some d =>
          rw [ec] at h1
          rw [ed] at h2
          refine ⟨⟨by rw [hz]; exact (List.getElem?_eq_some_iff.mp ec).1, by rw [hz]; exact (List.getElem?_eq_some_iff.mp ed).1⟩, fun v' H' y => ?_⟩
          obtain ⟨T, c', d', rfl, hT, rfl, e1, e2⟩ := y
          rw [hs, ec] at e1
          rw [hs, ed] at e2
          cases e1; cases e2
          have p1 : p.1 = .str [c] := by simpa using h1.symm
          have p2 : p.2 = .str [d] := by simpa using h2.symm
          have lf := Le.fresh (o := .tup [.str ⟨#[c]⟩, .str ⟨#[d]⟩]) hr hT
          refine ⟨W.at_ (upd W.H T _), rfl, lf, hr.fresh hT, ?_⟩
          show VR _ _ (.tup [p.1, p.2]) _
          rw [p1, p2]
          exact .tup (.inl ⟨hr.notin hT, hr.notinx hT, upd_same⟩) (.cons (.str [c]) (.cons (.str [d]) .nil))
  · have := List.getElem?_eq_none_iff.mp e
    simp only [List.length_map, List.length_zip] at this
    show (tx s).cps.size ≤ i ∨ (tx t).cps.size ≤ i
    rw [hz, hz]
    omega
theorem j_zipT (x : XOk X B) {W0 : Wo} {a b : Addr} {vs ws : List V} {ds es : List D} (t1 : TupAt B.R W0 a vs) (r1 : VRs B.R W0 ds vs) (t2 : TupAt B.R W0 b ws) (r2 : VRs B.R W0 es ws) :
    JOk B.R (RZ.ItzT X.K a b) W0 ((ds.zip es).map fun p => .tup [p.1, p.2]) none := by
  intro i W h l hr _
  have q1 : SqT X.K W.H a vs := sq_of x (t1.monoV l)
  have q2 : SqT X.K W.H b ws := sq_of x (t2.monoV l)
  have r1 := r1.monoV l
  have r2 := r2.monoV l
  refine ⟨fun d e => ?_, fun e => ?_⟩
  · rw [List.getElem?_map] at e
    cases hc : (ds.zip es)[i]? with
    | none => rw [hc] at e; cases e
    | some p =>
      rw [hc] at e
      cases e
      obtain ⟨h1, h2⟩ := List.getElem?_zip_eq_some.mp hc
      obtain ⟨v, e1, rv⟩ := r1.get h1
      obtain ⟨u, e2, ru⟩ := r2.get h2
      refine ⟨⟨vs, ws, v, u, q1, q2, e1, e2⟩, fun v' H' y => ?_⟩
      obtain ⟨T, v2, u2, rfl, hT, rfl, f1, f2⟩ := y
      have g1 := f1 vs q1
      have g2 := f2 ws q2
      rw [e1] at g1
      rw [e2] at g2
      cases g1; cases g2
      have lf := Le.fresh (o := .tup [v, u]) hr hT
      exact ⟨W.at_ (upd W.H T _), rfl, lf, hr.fresh hT, .tup (.inl ⟨hr.notin hT, hr.notinx hT, upd_same⟩) (.cons (rv.mono lf.toLw) (.cons (ru.mono lf.toLw) .nil))⟩
  · have := List.getElem?_eq_none_iff.mp e
    simp only [List.length_map, List.length_zip] at this
    have l1 := r1.length
    have l2 := r2.length
    exact ⟨vs, ws, q1, q2, by omega⟩
theorem i_zip (x : XOk X B) {a b : Expr} {ea eb : E} {p tpos : Pos} {elts : List Expr} {kk : Nat} (ha : PE X a (tE B ea)) (hb : PE X b (tE B eb)) (hg : Gl X "zip") (hm : X.mg "zip" = none)
    (hs : starEach [a, b] X.env = (false, eval a X.env) :: starEach [b] X.env) (hs2 : starEach [b] X.env = (false, eval b X.env) :: starEach [] X.env) (hpl : (backTo pos (starEach [b] X.env)).any (·.1) = false) :
    PI X (.Tuple elts kk tpos) (.Call (.Name "zip" p) [a, b] [] pos) (tI B (.zip ea eb)) :=
  (pi_zip hg hm (pa_cons ha (pa_cons hb pa_nil hs2) hs) hs hpl).impW fun σ H R ⟨W, σd, h, e1, hr, w⟩ => by
    subst e1
    simp only [wpI] at w
    refine step1 x hr w fun d1 h1 W1 v1 w l1 hr1 r1 => ?_
    refine step1 x hr1 w fun d2 h2 W2 v2 w l2 hr2 r2 => ?_
    obtain ⟨u, eu, w⟩ := w
    have r1 := r1.mono l2.toLw
    have lA := l1.trans l2
    cases r1 with
    | tup t1 rs1 =>
      cases r2 with
      | tup t2 rs2 =>
        simp only [zipOf] at eu
        cases eu
        exact .inl ⟨_, _, _, _, rfl, sq_of x t1, sq_of x t2, w W2 _ lA hr2.hr (j_zipT x t1 rs1 t2 rs2)⟩
      | _ => simp [zipOf] at eu
    | str z1 =>
      cases r2 with
      | str z2 =>
        simp only [zipOf] at eu
        cases eu
        exact .inr ⟨_, _, rfl, w W2 _ lA hr2.hr (j_zipS _ _)⟩
      | _ => simp [zipOf] at eu
    | _ => cases r2 <;> simp [zipOf] at eu
end
end Mi

set_option linter.all false
set_option maxRecDepth 100000
set_option maxHeartbeats 2000000
namespace Mi
open PySem PySem.Spec PyProof.Rows L2
/-! ## enumerate -/
/-- what is left to be shown of a new pair (place, item) -/
theorem pair_new {X : Cx} {pins : List (Addr × Obj)} {σ : L2.St} {H : Hp} {s : Shared} {h2 : Heap} {ch : List Addr} {i : Nat} {x : V} {u : Value} {tk tk2 : Nat} (I : Inv X pins σ H s) (out : ∀ b o, b ∉ ch → s.heap.get? b = some o → h2.get? b = some o) (hf : ∀ b ∈ ch, FpOk X pins H b)
    (ru : RelV x u) (hT : h2.get? s.heap.objs.size = some { cls := .type "tuple", data := .seq #[.int i tk, u] }) :
    Inv X pins σ (upd H s.heap.objs.size (.tup [.int (i : Nat), x])) { s with heap := h2, toks := tk2 } :=
  I.turnedNew (t' := tk2) out hf (Nat.le_refl _) ⟨by show 2 ≤ sizeLine; decide, [.int i tk, u], .cons ⟨_, rfl⟩ (.cons ru .nil), ⟨_, hT, rfl, _, rfl⟩⟩
theorem turn_enumS {P : Program} {w : World} {K : PySem.W.Frag} {elts : List Expr} {kk : Nat} {tpos : Pos} {x : Str} {t : Tok} {e it : Addr} :
    Turn P w K (.Tuple elts kk tpos) (ItSE x) [e, it] e (fun i h => (∃ old, IsEnum h e it ((i : Nat) : Int) old) ∧ h.IsStrIter it (strIterType x) x t i ∧ i ≤ x.cps.size ∧ e ≠ it) where
  mem := List.mem_cons_self
  obj := by
    rintro i h ⟨⟨old, he⟩, ⟨o, ho, _, hd⟩, _⟩ b hb
    have e' : b = e ∨ b = it := by simpa using hb
    rcases e' with rfl | rfl
    · exact ⟨_, he, fun v q => nomatch q⟩
    · exact ⟨o, ho, fun v q => by rw [hd] at q; cases q⟩
  keep := by
    rintro i h h' ⟨⟨old, he⟩, ⟨o, ho, r⟩, l⟩ k
    exact ⟨⟨old, k e (by simp) _ he⟩, ⟨o, k it (by simp) _ ho, r⟩, l⟩
  item := by
    rintro X rfl rfl rfl hc i pins s σ H E I hf ⟨⟨old, he⟩, st, l, hne⟩ hg
    have hh : X.A.in1.handled = none := I.ok.hd hc
    have hel : e < s.heap.objs.size := Heap.lt_size he
    have hil : it < s.heap.objs.size := by obtain ⟨_, q, _⟩ := st; exact Heap.lt_size q
    refine wpAny_pyNext_enum_itemC (draws_str hh it x t) he st hg hne (by simpa using hne) fun v h' tk pv ho st' hT hsz hk => ?_
    obtain ⟨c, ua, hxc, rfl⟩ := pv
    refine ⟨_, rfl, wpAny_letOwnedTupleGo_enum (s := { s with heap := h', toks := tk + 1 }) ho fun h2 he' sb => ?_⟩
    have J := pair_new (ch := [e, it]) (x := .str ⟨#[c]⟩) (tk2 := tk + 1) I (fun b o hb q => by
      have nb : b ≠ e ∧ b ≠ it := by simpa using hb
      exact (sb.2 b nb.1).trans (hk b o nb.1 nb.2 q)) hf ⟨ua, rfl⟩ ((sb.2 _ (Nat.ne_of_gt hel)).trans hT)
    refine ⟨.ref s.heap.objs.size, _, J, rfl, ⟨_, c, rfl, I.hok.fresh (Nat.le_refl _), rfl, hxc⟩, ⟨⟨.str ⟨#[c]⟩ ua, ?_⟩, ?_, hg, hne⟩, fun b hb => ?_⟩
    · have e1 : ((i + 1 : Nat) : Int) = (i : Int) + 1 := by omega
      rw [e1]; exact he'
    · obtain ⟨o, ho, r⟩ := st'
      exact ⟨o, (sb.2 it (Ne.symm hne)).trans ho, r⟩
    · have e' : b = e ∨ b = it := by simpa using hb
      have hb' : b < s.heap.objs.size := by rcases e' with rfl | rfl <;> assumption
      rw [upd_ne (Nat.ne_of_lt hb')]
      exact (hf b hb).1
  done := by
    rintro X rfl rfl rfl hc i pins s σ H E I hf ⟨⟨old, he⟩, st, l, hne⟩ hs
    have hh : X.A.in1.handled = none := I.ok.hd hc
    have hi : i = x.cps.size := Nat.le_antisymm l hs
    subst hi
    exact wpAny_pyNext_enum_endD (draws_str hh it x t) he st fun h' eb => ⟨rfl, I.turnedL (t' := s.toks) (ch := [e, it]) (fun b o hb q => eb b o (fun z => hb (by simp [z])) q) hf⟩
  self := fun A i s Q E st h => let ⟨⟨_, he⟩, _⟩ := st; wpAny_pyIter_enum he h
/-- the items of a tuple with their places, in new pairs -/
def ItTE (K : PySem.W.Frag) (a : Addr) (n : Nat) : It :=
  ⟨fun i H => i < n ∧ ∃ (xs : List V) (x : V), SqT K H a xs ∧ xs[i]? = some x, fun i H v H' => ∃ T x, v = .ref T ∧ H T = none ∧ H' = upd H T (.tup [.int (i : Nat), x]) ∧ ∀ xs, SqT K H a xs → xs[i]? = some x,
    fun i H => n ≤ i ∧ ∃ xs : List V, SqT K H a xs ∧ xs.length = n⟩
theorem turn_enumT {P : Program} {w : World} {K : PySem.W.Frag} {elts : List Expr} {kk : Nat} {tpos : Pos} {a e it : Addr} {n : Nat} :
    Turn P w K (.Tuple elts kk tpos) (ItTE K a n) [e, it] e (fun i h => (∃ old, IsEnum h e it ((i : Nat) : Int) old) ∧ h.IsTupleIter it a i ∧ e ≠ it ∧ a ≠ it ∧ e ≠ a ∧ i ≤ n) where
  mem := List.mem_cons_self
  obj := by
    rintro i h ⟨⟨old, he⟩, ⟨o, ho, _, hd⟩, _⟩ b hb
    have e' : b = e ∨ b = it := by simpa using hb
    rcases e' with rfl | rfl
    · exact ⟨_, he, fun v q => nomatch q⟩
    · exact ⟨o, ho, fun v q => by rw [hd] at q; cases q⟩
  keep := by
    rintro i h h' ⟨⟨old, he⟩, ⟨o, ho, r⟩, l⟩ k
    exact ⟨⟨old, k e (by simp) _ he⟩, ⟨o, k it (by simp) _ ho, r⟩, l⟩
  item := by
    rintro X rfl rfl rfl hc i pins s σ H E I hf ⟨⟨old, he⟩, st, hne, hai, hea, hin⟩ ⟨hi1, xs, x, hq, hx⟩
    have hh : X.A.in1.handled = none := I.ok.hd hc
    have hel : e < s.heap.objs.size := Heap.lt_size he
    have hil : it < s.heap.objs.size := by obtain ⟨_, q, _⟩ := st; exact Heap.lt_size q
    obtain ⟨its, rv, p, hz⟩ := I.tuple hq
    obtain ⟨u, hu, ru⟩ := rv.get hx
    have p' : s.heap.IsTuple a its.toArray := p
    refine wpAny_pyNext_enum_itemC (Draws.tuple hh it a hai its.toArray) he ⟨st, p'⟩ (by have := (List.getElem?_eq_some_iff.mp hu).1; simpa using this) hne (by simp [hne, hea]) fun v h' tk pv ho st' hT hsz hk => ?_
    have ev : v = u := by
      have pv : its.toArray[i]? = some v := pv
      rw [show its.toArray[i]? = its[i]? from by simp, hu] at pv
      exact (Option.some.inj pv).symm
    subst ev
    refine ⟨_, rfl, wpAny_letOwnedTupleGo_enum (s := { s with heap := h', toks := tk + 1 }) ho fun h2 he' sb => ?_⟩
    have J := pair_new (ch := [e, it]) (x := x) (tk2 := tk + 1) I (fun b o hb q => by
      have nb : b ≠ e ∧ b ≠ it := by simpa using hb
      exact (sb.2 b nb.1).trans (hk b o nb.1 nb.2 q)) hf ru ((sb.2 _ (Nat.ne_of_gt hel)).trans hT)
    refine ⟨.ref s.heap.objs.size, _, J, rfl, ⟨_, x, rfl, I.hok.fresh (Nat.le_refl _), rfl, fun ys hy => by rw [I.tuple_inj hy hq]; exact hx⟩, ⟨⟨v, ?_⟩, ?_, hne, hai, hea, hi1⟩, fun b hb => ?_⟩
    · have e1 : ((i + 1 : Nat) : Int) = (i : Int) + 1 := by omega
      rw [e1]; exact he'
    · obtain ⟨o, ho, r⟩ := st'.1
      exact ⟨o, (sb.2 it (Ne.symm hne)).trans ho, r⟩
    · have e' : b = e ∨ b = it := by simpa using hb
      have hb' : b < s.heap.objs.size := by rcases e' with rfl | rfl <;> assumption
      rw [upd_ne (Nat.ne_of_lt hb')]
      exact (hf b hb).1
  done := by
    rintro X rfl rfl rfl hc i pins s σ H E I hf ⟨⟨old, he⟩, st, hne, hai, hea, hin⟩ ⟨hi1, xs, hq, hl⟩
    have hh : X.A.in1.handled = none := I.ok.hd hc
    obtain ⟨its, rv, p, hz⟩ := I.tuple hq
    have p' : s.heap.IsTuple a its.toArray := p
    have hi : i = its.toArray.size := by rw [List.size_toArray, ← rv.length, hl]; exact Nat.le_antisymm hin hi1
    subst hi
    exact wpAny_pyNext_enum_endD (Draws.tuple hh it a hai its.toArray) he ⟨st, p'⟩ fun h' eb => ⟨rfl, I.turnedL (t' := s.toks) (ch := [e, it]) (fun b o hb q => eb b o (fun z => hb (by simp [z])) q) hf⟩
  self := fun A i s Q E st h => let ⟨⟨_, he⟩, _⟩ := st; wpAny_pyIter_enum he h
set_option maxHeartbeats 4000000 in
theorem meets_enum1 {v : Value} {o : Obj} {H : Heap → Prop} (B : Begins v o H) :
    Meets (Builtin.«enumerate.__new__» ⟨[.type "enumerate", v], []⟩) (fun _ R s => H s.heap ∧ R (.ok (.ret (.ref (s.heap.push o).objs.size))) { s with heap := (s.heap.push o).push { cls := .type "enumerate", data := .fields #[.none, .bool false, .ref s.heap.objs.size, rawInt 0, .none, .none] } }) :=
  .of_wp fun prog w A R s hyp => by
    obtain ⟨hp, g, d, tk, os⟩ := s
    obtain ⟨h1, h⟩ := hyp
    have hsub := sub_enumerate
    have go : ∀ {A' : Around} {E : Value → Shared → Prop} {Q : Value → Shared → Prop}, Q (.ref hp.objs.size) ⟨hp.push o, g, d, tk, os⟩ → wpAny (model prog w) A' (pyIter v) Q E ⟨hp, g, d, tk, os⟩ := fun q => B.iter prog w _ _ ⟨hp, g, d, tk, os⟩ _ h1 q
    wp_walk
    refine wpAny_stack_any fun st => wpAny_pure ?_
    split
    · rename_i c _ _ _ _ _
      cases (c == Value.type "enumerate") <;> (wp_walk using go; exact ⟨_, rfl, h⟩)
    · wp_walk using go
      exact ⟨_, rfl, h⟩
theorem call_enumT {prog : Program} {w : World} {A : Around} {E : Value → Shared → Prop} {s : Shared} {v : Value} {o : Obj} {Hp_ : Heap → Prop} {Q : Value → Shared → Prop} (B : Begins v o Hp_) (h1 : Hp_ s.heap)
    (h : ∀ h', IsEnum h' (s.heap.objs.size + 1) s.heap.objs.size 0 .none → h'.get? s.heap.objs.size = some o → (∀ b ob, s.heap.get? b = some ob → h'.get? b = some ob) → Q (.ref (s.heap.objs.size + 1)) { s with heap := h' }) :
    wpAny (model prog w) A (call (.type "enumerate") [v]) Q E s := by
  refine callType_new F.called_enumerate (by decide) (F.typeCall_enumerate_1 _) (F.newCall_enumerate_1 _) (fun obj => F.args_object_init_2 obj _) F.entry_enumerate_new (meets_enum1 B) ⟨h1, ?_⟩
  have hz : (s.heap.push o).objs.size = s.heap.objs.size + 1 := Heap.size_push ..
  have he : IsEnum ((s.heap.push o).push { cls := .type "enumerate", data := .fields #[.none, .bool false, .ref s.heap.objs.size, rawInt 0, .none, .none] }) (s.heap.objs.size + 1) s.heap.objs.size 0 .none := by
    have z := Heap.get?_push_size (s.heap.push o) (o := { cls := .type "enumerate", data := .fields #[.none, .bool false, .ref s.heap.objs.size, rawInt 0, .none, .none] }) rfl
    rw [hz] at z; exact z
  show _ ∧ _
  rw [hz]
  exact ⟨⟨_, he, rfl⟩, h _ he (Heap.get?_push_of_some _ (Heap.get?_push_size _ B.free)) fun b ob x => Heap.get?_push_of_some _ (Heap.get?_push_of_some _ x)⟩
def iEnu (K : PySem.W.Frag) (ta : TA) : TI := fun σ H R => ta σ H fun vs H1 => (∃ a xs, vs = [.ref a] ∧ SqT K H1 a xs ∧ R (ItTE K a xs.length) H1) ∨ ∃ x, vs = [.str x] ∧ R (ItSE x) H1
theorem pi_enu {X : Cx} {e : Expr} {ta : TA} {p pos tpos : Pos} {elts : List Expr} {kk : Nat} (hg : Gl X "enumerate") (hm : X.mg "enumerate" = none) (ha : PA X [e] ta) (hs : starEach [e] X.env = [(false, eval e X.env)]) :
    PI X (.Tuple elts kk tpos) (.Call (.Name "enumerate" p) [e] [] pos) (iEnu X.K ta) := by
  refine ⟨fun pins s σ H R I h => ?_⟩
  refine Call_ (ld_blt I hg hm boot_enumerate (PyProof.Rows.callWith_type1 (thn (ha.run pos pins s σ H _ I h) fun us s1 ⟨vs, H1, I1, r1, q1⟩ => ?_) hs rfl))
  have fp2 : ∀ c, c ∈ [s1.heap.objs.size + 1, s1.heap.objs.size] → FpOk X pins H1 c := fun c hc => by
    have hle : s1.heap.objs.size ≤ c := by
      simp only [List.mem_cons, List.not_mem_nil, or_false] at hc
      rcases hc with rfl | rfl
      · exact Nat.le_succ _
      · exact Nat.le_refl _
    exact I1.fpOk hle (I1.hok.fresh hle)
  rcases q1 with ⟨a, xs, rfl, hq, q⟩ | ⟨x, rfl, q⟩
  · obtain ⟨u, rfl, ru⟩ := Vals.one r1
    cases ru
    obtain ⟨its, rv, p, _⟩ := I1.tuple hq
    have p' : s1.heap.IsTuple a its.toArray := p
    have la : a < s1.heap.objs.size := by obtain ⟨o, ho, _⟩ := id p'; exact Heap.lt_size ho
    refine call_enumT (begins_tuple a its.toArray) p' fun h' he hit hk => wpAny_pyIter_enum he ?_
    exact ⟨_, _, _, _, H1, rfl, I1.kept (t' := s1.toks) hk, turn_enumT, ⟨⟨_, he⟩, ⟨_, hit, rfl, rfl⟩, Nat.succ_ne_self _, Nat.ne_of_lt la, Nat.ne_of_gt (Nat.lt_succ_of_lt la), Nat.zero_le _⟩, fp2, q⟩
  · obtain ⟨u, rfl, ⟨t, rfl⟩⟩ := Vals.one r1
    refine call_enumT (begins_text x t) trivial fun h' he hit hk => wpAny_pyIter_enum he ?_
    exact ⟨_, _, _, _, H1, rfl, I1.kept (t' := s1.toks) hk, turn_enumS, ⟨⟨_, he⟩, ⟨_, hit, rfl, rfl⟩, Nat.zero_le _, Nat.succ_ne_self _⟩, fp2, q⟩
section
variable {X : Cx} {B : Bx} {pos : Pos}
theorem idx_get {α : Type} (l : List α) (i : Nat) : l.zipIdx[i]? = (l[i]?).map fun a => (a, i) := by
  rw [List.getElem?_zipIdx]
  simp
theorem j_enuS {W0 : Wo} (s : List Nat) : JOk B.R (ItSE (tx s)) W0 ((s.map fun c => D.str [c]).zipIdx.map fun p => .tup [.int ((p.2 : Nat) : Int), p.1]) none := by
  intro i W h l hr _
  have hs : ∀ (j : Nat), (tx s).cps[j]? = s[j]? := fun j => by simp [tx]
  have hz : (tx s).cps.size = s.length := by simp [tx]
  refine ⟨fun d e => ?_, fun e => ?_⟩
  · rw [List.getElem?_map, idx_get, List.getElem?_map] at e
    cases ec : s[i]? with
    | none => rw [ec] at e; cases e
    | some c =>
      rw [ec] at e
      cases e
      refine ⟨by show i < (tx s).cps.size; rw [hz]; exact (List.getElem?_eq_some_iff.mp ec).1, fun v' H' y => ?_⟩
      obtain ⟨T, c', rfl, hT, rfl, e1⟩ := y
      rw [hs, ec] at e1; cases e1
      have lf := Le.fresh (o := .tup [.int (i : Nat), .str ⟨#[c]⟩]) hr hT
      exact ⟨W.at_ (upd W.H T _), rfl, lf, hr.fresh hT, .tup (.inl ⟨hr.notin hT, hr.notinx hT, upd_same⟩) (.cons (.int _) (.cons (.str [c]) .nil))⟩
  · have := List.getElem?_eq_none_iff.mp e
    simp only [List.length_map, List.length_zipIdx] at this
    show (tx s).cps.size ≤ i
    rw [hz]; exact this
theorem j_enuT (x : XOk X B) {W0 : Wo} {a : Addr} {vs : List V} {ds : List D} (t1 : TupAt B.R W0 a vs) (r1 : VRs B.R W0 ds vs) : JOk B.R (ItTE X.K a vs.length) W0 (ds.zipIdx.map fun p => D.tup [.int ((p.2 : Nat) : Int), p.1]) none := by
  intro i W h l hr _
  have q1 : SqT X.K W.H a vs := sq_of x (t1.monoV l)
  have r1 := r1.monoV l
  refine ⟨fun d e => ?_, fun e => ?_⟩
  · rw [List.getElem?_map, idx_get] at e
    cases ec : ds[i]? with
    | none => rw [ec] at e; cases e
    | some c =>
      rw [ec] at e
      cases e
      obtain ⟨v, e1, rv⟩ := r1.get ec
      refine ⟨⟨(List.getElem?_eq_some_iff.mp e1).1, vs, v, q1, e1⟩, fun v' H' y => ?_⟩
      obtain ⟨T, v2, rfl, hT, rfl, f1⟩ := y
      have g1 := f1 vs q1
      rw [e1] at g1; cases g1
      have lf := Le.fresh (o := .tup [.int (i : Nat), v]) hr hT
      exact ⟨W.at_ (upd W.H T _), rfl, lf, hr.fresh hT, .tup (.inl ⟨hr.notin hT, hr.notinx hT, upd_same⟩) (.cons (.int _) (.cons (rv.mono lf.toLw) .nil))⟩
  · have := List.getElem?_eq_none_iff.mp e
    simp only [List.length_map, List.length_zipIdx] at this
    exact ⟨by rw [← r1.length]; exact this, vs, q1, rfl⟩
theorem i_enu (x : XOk X B) {a : Expr} {ea : E} {p tpos : Pos} {elts : List Expr} {kk : Nat} (ha : PE X a (tE B ea)) (hg : Gl X "enumerate") (hm : X.mg "enumerate" = none) (hs : starEach [a] X.env = [(false, eval a X.env)]) (hs' : starEach [a] X.env = (false, eval a X.env) :: starEach [] X.env) :
    PI X (.Tuple elts kk tpos) (.Call (.Name "enumerate" p) [a] [] pos) (tI B (.enum ea)) :=
  (pi_enu hg hm (pa_cons ha pa_nil hs') hs).impW fun σ H R ⟨W, σd, h, e1, hr, w⟩ => by
    subst e1
    simp only [wpI] at w
    refine step1 x hr w fun d1 h1 W1 v1 w l1 hr1 r1 => ?_
    obtain ⟨u, eu, w⟩ := w
    cases r1 with
    | tup t1 rs1 =>
      simp only [enumOf] at eu
      cases eu
      exact .inl ⟨_, _, rfl, sq_of x t1, w W1 _ l1 hr1.hr (j_enuT x t1 rs1)⟩
    | str z1 =>
      simp only [enumOf] at eu
      cases eu
      exact .inr ⟨_, rfl, w W1 _ l1 hr1.hr (j_enuS _)⟩
    | _ => simp [enumOf] at eu
end
end Mi

set_option linter.all false
set_option maxRecDepth 100000
set_option maxHeartbeats 2000000
namespace Mi
open PySem PySem.Spec PyProof.Rows L2
/-! ## raise, sorted, the written dict, a dict of one pair -/
section
variable {X : Cx} {B : Bx} {pos : Pos}
theorem pmk_own0 {C : Addr} {bmB : List Value} {Bn newId initId : String} {x : Str} {p : Pos} (F : ExcBaseFacts Bn newId initId bmB) (q : PySem.W.excIn X.K C bmB newId = true) (gC : X.mg x = some (.ref C)) (kC : PySem.W.keepIn X.K (.ref C) = true) (r : Raises X (.ref C)) (hg : Gl X x)
    (hdb : (x == ("__debug__" : Str)) = false) : PMk X (.Call (.Name x p) [] [] pos) (fun _ H Q => Q (.ref C) none H) := by
  intro pins s σ H Q I h
  refine wpAny_Call_Name_kw (ld_glob I hg gC ?_ hdb)
  refine PySem.W.callWith_K0 I.kIn kC ?_
  obtain ⟨bm, N, nm, qn, bs, hdct, sn, sub, ab, col, dd, k0, k1, k2, k3, k5, mN, hC, hN, hni, T⟩ := exc_obj I.kIn q
  exact wpAny_call_exc_subT F T hC hN hni (fun h' e hm => mk_of I hm r h (I.hok.gone hm.new)) (Nat.zero_le _)
theorem st_rai (x : XOk X B) {c : Nat} {n : Str} {p : Pos} {pos2 : Pos} (hn : B.R.T.exn c = some n) (hg : Gl X n) (hdb : (n == ("__debug__" : Str)) = false) : PS X (.Raise (some (.Call (.Name n p) [] [] pos2)) none pos) (tS B (.rai c)) := by
  obtain ⟨h1, h2, h3, h4, h5⟩ := x.wr.exc c n hn
  rw [← x.mg] at h1
  rw [← x.K] at h2 h3 h4 h5
  refine (ps_raise x.calm x.tk (pmk_own0 PySem.F.excBase_ValueError h2 h1 h3 (raises_own h4 h5) hg hdb)).impW fun σ H D ⟨W, σd, h, e, hr, w⟩ => ?_
  subst e
  simp only [wpS] at w
  exact ⟨c, W, h, rfl, rfl, rfl, hr.le, hr.hr, w⟩
/-! ### sorted of texts -/
theorem collect_tup {P : Program} {w : World} {A : Around} {E : Value → Shared → Prop} {s : Shared} {l : Addr} {vs : List Value} {Q : List Value → Shared → Prop} (hl : s.heap.IsTuple l vs.toArray)
    (h : Q vs { s with heap := (s.heap.push (seqObj "list" #[] 0)).update s.heap.objs.size (Obj.mapSeq (· ++ vs.toArray)) }) (hsz : vs.length ≤ sizeLine) : wpAny (model P w) A (collect (.ref l)) Q E s := by
  obtain ⟨o, ho, hc, n, hd⟩ := id hl
  unfold collect
  refine wpAny_bind (wpAny_runValue (codeAny_builtin entry_proto_collect' ?_))
  show wpAny _ _ (do again (.builtin "list.__iadd__" ⟨[← newList [], .ref l], []⟩)) _ _ s
  refine wpAny_bind (wpAny_newList (wpAny_pure ⟨Code.quiet_builtin _ (by decide +kernel), codeAny_builtin entry_list_iadd' ?_⟩))
  show wpAny _ _ (Builtin.List.listExtendWith (.ref s.heap.objs.size) (.ref l) (.ref s.heap.objs.size)) _ _ { s with heap := s.heap.push (seqObj "list" #[] 0) }
  unfold Builtin.List.listExtendWith
  have hT : ({ s with heap := s.heap.push (seqObj "list" #[] 0) } : Shared).TypeIs (.ref l) "tuple" := ⟨o, Heap.get?_push_of_some _ ho, hc⟩
  have new := Heap.get?_push_size s.heap (o := seqObj "list" #[] 0) rfl
  refine wpAny_bind (wpAny_typeOf hT ?_)
  have ht : (Value.type "tuple" == Value.type "tuple") = true := by rfl
  rw [if_pos (by rw [ht]; simp)]
  refine wpAny_bind (listItems_at (Heap.get?_push_of_some _ ho) hd (wpAny_bind (listItems_at (xs := #[]) (n := 0) new rfl ?_)))
  rw [if_neg (by simp)]
  refine wpAny_bind (listUpdate_at (xs := #[]) (n := 0) new rfl ?_ (Nat.zero_le _) (by show (#[] ++ vs.toArray).size ≤ sizeLine + 1; simp only [Array.size_append, List.size_toArray, List.length_nil]; omega))
  refine wpAny_pure (wpAny_bind (wpAny_load (get?_update_seq new _) ?_))
  have e : ((#[] : Array Value) ++ vs.toArray).toList = vs := by simp
  show wpAny _ _ (pure ((#[] : Array Value) ++ vs.toArray).toList) Q E _
  rw [e]
  exact wpAny_pure h
theorem sorted_tupS {P : Program} {w : World} {A : Around} {E : Value → Shared → Prop} {s : Shared} {l : Addr} {vs : List Value} {ss : List Str} {Q : Value → Shared → Prop} (hl : s.heap.IsTuple l vs.toArray) (hS : StrsAre vs ss) (h64 : vs.length < 64)
    (h : ∀ (out : Array Value) (ss' : List Str), StrsAre out.toList ss' → ss'.Perm ss → sortedS ss' = true → Q (.ref (s.heap.objs.size + 1)) { s with heap := sortedAll s.heap vs out }) : wpAny (model P w) A (call (.builtin "sorted") [.ref l]) Q E s := by
  refine Calls.call_function_entry kind_sorted plain_sorted entry_sorted (args_sorted1 _) ?_
  unfold Builtin.«sorted»
  refine wpAny_bind (m := checkCount "sorted" 1 1 _) (wpAny_pure (wpAny_bind (collect_tup hl (wpAny_bind (wpAny_newList ?_)) (Nat.le_of_lt (Nat.lt_trans h64 (by rw [sizeLine_eq]; decide))))))
  have hsz : ((s.heap.push (seqObj "list" #[] 0)).update s.heap.objs.size (Obj.mapSeq (· ++ vs.toArray))).objs.size = s.heap.objs.size + 1 := by rw [Heap.size_update, size_push']
  have hoL : (((s.heap.push (seqObj "list" #[] 0)).update s.heap.objs.size (Obj.mapSeq (· ++ vs.toArray))).push (seqObj "list" vs.toArray 0)).get? (s.heap.objs.size + 1) = some (seqObj "list" vs.toArray 0) := by
    rw [← hsz]; exact Heap.get?_push_size _ rfl
  show wpAny _ _ _ _ _ { s with heap := ((s.heap.push (seqObj "list" #[] 0)).update s.heap.objs.size (Obj.mapSeq (· ++ vs.toArray))).push (seqObj "list" vs.toArray 0) }
  rw [hsz]
  refine wpAny_bind (wpAny_holding (wpAny_call_entry slot_list_sort ⟨_, hoL, rfl⟩ entry_list_sort (list_sort_treeK strKind_oneLt hoL hS.keysOf (fun v₁ v₂ rest e => keyKind_strs (by rw [← e]; exact hS)) h64 fun st' hp hs => ⟨_, rfl, ?_⟩) (args_list_sort _)))
  obtain ⟨ss', a1, a2, a3⟩ := sorted_out_str hS hp hs
  exact wpAny_pure ⟨_, rfl, h _ ss' a1 a2 a3⟩
theorem leS_lt : ∀ (x y : List Nat), leS x y = !ltCps y x
  | [], [] => rfl
  | [], _ :: _ => rfl
  | _ :: _, [] => rfl
  | a :: x, b :: y => by
    have ih := leS_lt x y
    simp only [leS, ltCps]
    by_cases h1 : a < b
    · have h2 : ¬ b < a := by omega
      have h3 : (b == a) = false := beq_eq_false_iff_ne.mpr (by omega)
      simp [h1, h2, h3]
    · by_cases h2 : b < a
      · simp [h1, h2]
      · have e : a = b := by omega
        subst e
        simp [ih]
theorem leS_trans : ∀ (x y z : List Nat), leS x y = true → leS y z = true → leS x z = true
  | [], _, _, _, _ => rfl
  | _ :: _, [], _, h, _ => by simp [leS] at h
  | _ :: _, _ :: _, [], _, h => by simp [leS] at h
  | a :: x, b :: y, c :: z, h1, h2 => by
    simp only [leS] at h1 h2 ⊢
    have ih := leS_trans x y z
    split at h1 <;> split at h2 <;> (try split at h1) <;> (try split at h2) <;> (try split) <;> (try split) <;> first | rfl | omega | contradiction | (exact ih h1 h2) | simp_all | skip
theorem leS_anti : ∀ (x y : List Nat), leS x y = true → leS y x = true → x = y
  | [], [], _, _ => rfl
  | [], _ :: _, _, h => by simp [leS] at h
  | _ :: _, [], h, _ => by simp [leS] at h
  | a :: x, b :: y, h1, h2 => by
    simp only [leS] at h1 h2
    by_cases h : a < b
    · have : ¬ b < a := by omega
      simp [h, this] at h2
    · by_cases h' : b < a
      · simp [h, h'] at h1
      · have e : a = b := by omega
        subst e
        simp at h1 h2
        rw [leS_anti x y h1 h2]
theorem leS_total (x y : List Nat) : leS x y = true ∨ leS y x = true := by
  induction x generalizing y with
  | nil => exact .inl rfl
  | cons a x ih =>
    cases y with
    | nil => exact .inr rfl
    | cons b y =>
      simp only [leS]
      by_cases h : a < b
      · simp [h]
      · by_cases h' : b < a
        · simp [h']
        · simp [h, h', ih y]
theorem insS_perm (x : List Nat) : ∀ l, (insS x l).Perm (x :: l)
  | [] => .refl _
  | y :: r => by
    unfold insS
    split
    · exact .refl _
    · exact ((insS_perm x r).cons y).trans (.swap x y r)
theorem sortS_perm : ∀ l, (sortS l).Perm l
  | [] => .refl _
  | x :: r => (insS_perm x _).trans ((sortS_perm r).cons x)
theorem insS_pw (x : List Nat) : ∀ l, l.Pairwise (fun a b => leS a b = true) → (insS x l).Pairwise (fun a b => leS a b = true)
  | [], _ => by simp [insS]
  | y :: r, h => by
    unfold insS
    have hp := List.pairwise_cons.mp h
    split
    · rename_i hx
      refine List.pairwise_cons.mpr ⟨fun z hz => ?_, h⟩
      rcases List.mem_cons.mp hz with e | hz
      · rw [e]; exact hx
      · exact leS_trans x y z hx (hp.1 z hz)
    · rename_i hx
      have hy : leS y x = true := (leS_total x y).resolve_left hx
      refine List.pairwise_cons.mpr ⟨fun z hz => ?_, insS_pw x r hp.2⟩
      rcases List.mem_cons.mp ((insS_perm x r).mem_iff.mp hz) with e | hz
      · rw [e]; exact hy
      · exact hp.1 z hz
theorem sortS_pw : ∀ l, (sortS l).Pairwise (fun a b => leS a b = true)
  | [] => .nil
  | x :: r => insS_pw x _ (sortS_pw r)
theorem rising_pw : ∀ (p : Str) (l : List Str), risingS p l = true → ((p :: l).map fun z => z.cps.toList).Pairwise (fun a b => leS a b = true)
  | p, [], _ => by simp
  | p, x :: r, h => by
    have h : (!ltCps x.cps.toList p.cps.toList && risingS x r) = true := h
    rw [Bool.and_eq_true] at h
    have ih := rising_pw x r h.2
    have hpx : leS p.cps.toList x.cps.toList = true := by rw [leS_lt]; exact h.1
    rw [List.map_cons] at ih ⊢
    refine List.pairwise_cons.mpr ⟨fun z hz => ?_, ih⟩
    rcases List.mem_cons.mp hz with e | hz
    · rw [e]; exact hpx
    · exact leS_trans _ _ _ hpx ((List.pairwise_cons.mp ih).1 z hz)
theorem sorted_is {ys : List Str} {ss : List (List Nat)} (hp : ys.Perm (ss.map tx)) (hs : sortedS ys = true) : ys = (sortS ss).map tx := by
  have e : ys = (ys.map fun z => z.cps.toList).map tx := by
    rw [List.map_map]
    conv => lhs; rw [← List.map_id ys]
    exact List.map_congr_left fun z _ => (tx_list z).symm
  rw [e]
  congr 1
  have hp2 : (ys.map fun z => z.cps.toList).Perm ss := by
    have := hp.map fun z : Str => z.cps.toList
    rw [List.map_map] at this
    have e2 : ((fun z : Str => z.cps.toList) ∘ tx) = id := by funext z; simp [tx]
    rwa [e2, List.map_id] at this
  have hw : (ys.map fun z => z.cps.toList).Pairwise (fun a b => leS a b = true) := by
    cases ys with
    | nil => exact .nil
    | cons p l => exact rising_pw p l hs
  exact List.Perm.eq_of_pairwise (le := fun a b => leS a b = true) (fun a b _ _ h1 h2 => leS_anti a b h1 h2) hw (sortS_pw ss) (hp2.trans (sortS_perm ss).symm)
theorem b_sortedS (x : XOk X B) : CallR X (.builtin "sorted") (rBi B .sortedS) := by
  intro pins s σ H vs us Q I q1 ⟨W, h, ds, e, hr, rs, r, er, q⟩
  subst e
  cases rs with
  | nil => simp [biD] at er
  | cons r1 t =>
    cases t with
    | cons _ _ => simp [biD] at er
    | nil =>
      simp only [biD] at er
      obtain ⟨ss, e1, e2⟩ := bind_some er
      obtain ⟨ys, e3, e4⟩ := bind_some e1
      obtain ⟨a, zs, rfl, hz, rz⟩ := seq_at x hr r1 e3
      have ez := strs_ rz e4
      subst ez
      split at e2
      · rename_i hl
        cases e2
        rcases hz with hz | hz
        · refine cr_sortedS pins s σ _ _ _ Q I q1 ⟨a, ss.map tx, rfl, hz, by rw [List.length_map]; exact hl, fun ys p hp hs hn => ?_⟩
          rw [sorted_is hp hs]
          exact new_lstv q hr (VRs.strs _) hn
        · obtain ⟨its, rv, hl', _⟩ := I.tuple hz
          rw [Vals.ref1 q1]
          have hlen0 := rv.length
          rw [List.length_map, List.length_map] at hlen0
          refine sorted_tupS (show s.heap.IsTuple a its.toArray from hl') rv.strs (by rw [← hlen0]; exact hl) fun out ys h1 h2 h3 => ?_
          obtain ⟨ep, he'⟩ := PyProof.Rows.sortedAll_at s.heap its out
          have hz2 : (ys.map V.str).length ≤ sizeLine := by rw [List.length_map, h2.length_eq, List.length_map]; exact small64 hl
          refine ⟨.ref _, upd W.H (s.heap.objs.size + 1) (.lst (ys.map V.str)), I.laid (t' := s.toks) (fun _ _ => PyProof.Rows.sortedAll_old) (Nat.le_succ _) ⟨hz2, out.toList, ep, vals_of_strs h1, he'⟩, rfl, ?_⟩
          rw [sorted_is h2 h3]
          exact new_lstv q hr (VRs.strs _) (I.hok.fresh (Nat.le_succ _))
      · cases e2
end
end Mi

set_option linter.all false
set_option maxRecDepth 100000
set_option maxHeartbeats 2000000
namespace Mi
open PySem PySem.Spec PyProof.Rows L2
/-! ## the written dict, a dict of one pair -/
/-- an object that is no value of ours becomes one -/
theorem adopt {R : Wr} {W : Wo} {p : Addr} {φ : Heap → Prop} {o : HO} (hp : W.im p (.ext φ)) : ∀ d v, VR R W d v → VR R { W with m := W.m ++ [p], H := upd W.H p o } d v := by
  have aux : ∀ {a u}, W.im a u → (∀ ψ, u ≠ .ext ψ) → ({ W with m := W.m ++ [p], H := upd W.H p o } : Wo).im a u := fun {a u} q hu => by
    have hne : a ≠ p := fun e => by
      subst e
      have := q.2.2
      rw [hp.2.2] at this
      exact hu φ (Option.some.inj this).symm
    refine ⟨fun hm => ?_, q.2.1, by show upd W.H p o a = _; rw [upd_ne hne]; exact q.2.2⟩
    rcases List.mem_append.mp hm with h | h
    · exact q.1 h
    · exact hne (List.mem_singleton.mp h)
  intro d v r
  exact VR.rec (motive_1 := fun d v _ => VR R { W with m := W.m ++ [p], H := upd W.H p o } d v) (motive_2 := fun d v _ => VRs R { W with m := W.m ++ [p], H := upd W.H p o } d v)
    .non (fun b => .bl b) (fun i => .int i) (fun s => .str s) (fun t _ ih => .tup (t.elim (fun q => .inl (aux q fun _ h => by cases h)) .inr) ih) (fun q _ ih => .lst (aux q fun _ h => by cases h) ih)
    (fun e => .loc (by show (W.m ++ [p])[_]? = _; rw [List.getElem?_append_left (List.getElem?_eq_some_iff.mp e).1]; exact e)) (fun f q => .fn f q)
    (fun s => .scr (s.elim (fun ⟨o, q⟩ => .inl ⟨o, aux q fun _ h => by cases h⟩) .inr)) .nil (fun _ _ a b => .cons a b) r
theorem adopts {R : Wr} {W : Wo} {p : Addr} {φ : Heap → Prop} {o : HO} (hp : W.im p (.ext φ)) : ∀ d v, VRs R W d v → VRs R { W with m := W.m ++ [p], H := upd W.H p o } d v := by
  intro d
  induction d with
  | nil => intro v r; cases r; exact .nil
  | cons d ds ih => intro v r; cases r with | cons a b => exact .cons (adopt hp _ _ a) (ih _ b)
theorem adoptHR {R : Wr} {W : Wo} {h : Hm} {p : Addr} {φ : Heap → Prop} {ob : MO} {o : HO} (hr : HR R W h) (hp : W.im p (.ext φ)) (y : OR R { W with m := W.m ++ [p], H := upd W.H p o } p ob o) : HR R { W with m := W.m ++ [p], H := upd W.H p o } (h ++ [ob]) := by
  have vr := adopt (R := R) (o := o) hp
  have vrs := adopts (R := R) (o := o) hp
  refine ⟨by show (W.m ++ [p]).length = _; rw [List.length_append, List.length_append, hr.len]; rfl, ?_, fun a ha => ⟨upd_there a (hr.xs a ha).1, fun hm => ?_⟩, fun n u a e1 e2 => ?_⟩
  · show (W.m ++ [p]).Nodup
    rw [List.nodup_append]
    refine ⟨hr.nd, by simp, fun a ha b hb => ?_⟩
    rw [List.mem_singleton.mp hb]
    exact fun e => hp.1 (by rw [← e]; exact ha)
  · rcases List.mem_append.mp hm with q | q
    · exact (hr.xs a ha).2 q
    · exact hp.2.1 (by rw [← List.mem_singleton.mp q]; exact ha)
  · have e2 : (W.m ++ [p])[n]? = some a := e2
    by_cases hn : n < h.length
    · rw [List.getElem?_append_left hn] at e1
      rw [List.getElem?_append_left (by rw [hr.len]; exact hn)] at e2
      obtain ⟨hu, e, z⟩ := hr.at_ n u a e1 e2
      refine ⟨hu, by show upd W.H p o a = _; rw [upd_ne (fun q => hp.1 (by rw [← q]; exact List.mem_of_getElem? e2))]; exact e, ?_⟩
      cases u with
      | lst ds => obtain ⟨xs, e, r⟩ := z; exact ⟨xs, e, vrs _ _ r⟩
      | sd kvs => obtain ⟨ks, e, r, nd⟩ := z; exact ⟨ks, e, Paired.imp r fun _ _ x => ⟨x.1, vr _ _ x.2⟩, nd⟩
      | kd kvs => obtain ⟨es, e, r⟩ := z; exact ⟨es, e, Paired.imp r fun _ _ x => ⟨x.1, x.2.1, vr _ _ x.2.2.1, let ⟨v, a, b⟩ := x.2.2.2; ⟨v, a, vr _ _ b⟩⟩⟩
      | ins c fs => obtain ⟨dx, gs, e, r, nd⟩ := z; exact ⟨dx, gs, e, Paired.imp r fun _ _ x => ⟨x.1, vr _ _ x.2⟩, nd⟩
      | frz kvs => obtain ⟨ob, es, e, r⟩ := z; exact ⟨ob, es, e, Paired.imp r fun _ _ x => ⟨x.1, x.2.1, vr _ _ x.2.2.1, let ⟨v, a, b⟩ := x.2.2.2; ⟨v, a, vr _ _ b⟩⟩⟩
    · rw [List.getElem?_append_right (by omega)] at e1
      rw [List.getElem?_append_right (by rw [hr.len]; omega), hr.len] at e2
      have h0 : n - h.length = 0 := by
        have := (List.getElem?_eq_some_iff.mp e1).1
        simp at this; omega
      rw [h0] at e1 e2
      simp at e1 e2
      subst e1 e2
      exact ⟨o, upd_same, y⟩
section
variable {X : Cx} {B : Bx} {pos : Pos}
theorem s_starts (x : XOk X B) {a : Expr} {ea : E} {z : Str} {j : Nat} {p1 p2 apos : Pos} (hz : z.cps.toList = []) (hT : B.R.T.sta = true) (ha : PE X a (tE B ea)) (hg : Gl X "STARTS") (m : M2 X (.Name "STARTS" p1) "get" apos a (.Constant (.str z) j p2) pos) :
    PE X (.Call (.Attribute (.Name "STARTS" p1) "get" apos) [a, .Constant (.str z) j p2] [] pos) (tE B (.bi .starts (.cons ea .nil))) := by
  obtain ⟨d, o, es, n, h1, h2, h3, h4, h5⟩ := x.wr.sta hT
  refine ⟨fun pins s σ H Q I ⟨W, σd, h, e, hr, w⟩ => ?_⟩
  subst e
  simp only [wpE, wpEs] at w
  rw [← x.mg] at h1
  rw [← x.K] at h2
  rw [← x.w] at h3
  have hm := PySem.W.mapOf_K (prog := X.prog) (w := X.w) I.kIn h2 h3
  refine wpAny_Call_method m.base m.few m.line PySem.F.plainAttrs_dict PySem.F.slot_dict_get PySem.F.type_dict_get (ld_glob I hg h1 ?_ (by decide))
  refine ⟨hm.typeIs, hm.noDict, ?_⟩
  rw [m.trees]
  have w2 : tE B ea σ W.H fun v H1 => ∃ W1 k, W1.H = H1 ∧ Le W W1 ∧ v = .str (tx k) ∧ ∃ h1, HR B.R W1 h1 ∧ PQ B.R W1 Q (startsOf k) h1 := by
    refine step1 x hr w fun d1 h1 W1 v1 w l1 hr1 r1 => ?_
    obtain ⟨r, er, q⟩ := w
    cases r1 <;> simp only [biD] at er <;> try contradiction
    cases er
    exact ⟨W1, _, rfl, l1, rfl, h1, hr1.hr, q.le l1⟩
  refine Calls.callWith_builtin rfl (Calls.evalArgs_plain (Calls.spliced_cons (thn (ha.run pins s σ W.H _ I w2) fun iv s2 ⟨y, H2, I2, ry, q2⟩ =>
    Calls.spliced_cons (thn ((pe_str (X := X) (x := z) (pos := p2)).run pins s2 σ H2 (fun v H1 => v = V.str z ∧ H1 = H2) I2 ⟨rfl, rfl⟩) fun fv s3 ⟨z', H3, I3, rz, ez, eH⟩ => Calls.spliced_nil ?_))))
  subst ez
  rw [eH] at I3
  obtain ⟨W1, k, e2, l2, rfl, h1, hr1, q⟩ := q2
  subst e2
  obtain ⟨t, rfl⟩ := ry
  have hm3 := PySem.W.mapOf_K (prog := X.prog) (w := X.w) I3.kIn h2 h3
  obtain ⟨r, hr5, hc⟩ := h5 k
  rw [← x.K] at hr5
  refine call_meetsIn PySem.F.slot_dict_get hm3.typeIs PySem.F.entry_dict_get (PySem.F.args_dict_get_3 _ _ _) (meets_dict_get_default (PySem.strKind X.prog X.w) d (PySem.strKind_is X.prog X.w (tx k) t) h4 fv) ⟨_, hm3, ?_⟩
  rw [PySem.W.find_K h2 hr5]
  rcases hc with ⟨e5, e6⟩ | ⟨u, v, e5, rv, q5⟩
  · subst e5
    rw [e6] at q
    refine ⟨.str z, W1.H, I3.tok _, rz, ?_⟩
    have ez : z = tx [] := by rw [← tx_list z, hz]
    rw [ez]
    exact q.here hr1 (.str [])
  · subst e5
    exact ⟨v, W1.H, I3.tok _, rv, q.here hr1 (q5 W1)⟩
theorem s_done (x : XOk X B) {k v : Expr} {ek ev : E} (hk : PE X k (tE B ek)) (hv : PE X v (tE B ev)) : PE X (.Dict [some k] [v] pos) (tE B (.done ek ev)) := by
  refine ⟨fun pins s σ H Q I ⟨W, σd, h, e, hr, w⟩ => ?_⟩
  subst e
  simp only [wpE] at w
  have un := x.room.un
  have hroom : (nestedKind X.prog X.w).room X.A := by show X.A.units + 8 < cLine; omega
  -- the new dict is there ahead of its pair
  have hp : W.H s.heap.objs.size = none := I.hok.fresh (Nat.le_refl _)
  have I1 : Inv X pins σ (upd W.H s.heap.objs.size (.ext (KDo B.R s.heap.objs.size []))) { s with heap := s.heap.push { cls := .type "dict", data := .dict #[] } } :=
    I.laid (a := s.heap.objs.size) (o := .ext (KDo B.R s.heap.objs.size [])) (t' := s.toks) (fun _ _ q => Heap.get?_push_of_some _ q) (Nat.le_refl _) ⟨kdo_new s.heap I.big, ⟨_, Heap.get?_push_size _ rfl⟩, kdo_stay⟩
  have lf := Le.fresh (o := .ext (KDo B.R s.heap.objs.size [])) hr.hr hp
  have hr1 : B.Re (W.at_ (upd W.H s.heap.objs.size (.ext (KDo B.R s.heap.objs.size [])))) σd h σ := hr.to lf (hr.hr.fresh hp)
  have im : (W.at_ (upd W.H s.heap.objs.size (.ext (KDo B.R s.heap.objs.size [])))).im s.heap.objs.size (.ext (KDo B.R s.heap.objs.size [])) := ⟨hr.hr.notin hp, hr.hr.notinx hp, upd_same⟩
  have hsh : (evalEachOpt [some k] X.env).zip ((evalEach [v] X.env).map fun v => do let x ← v; standAt pos; pure x) = [(eval k X.env, do let x ← eval v X.env; standAt pos; pure x)].map fun p => (some p.1, p.2) := rfl
  rw [arm_eval_Dict, hsh, dictDisplay_pairs _ (by simp) (by simp)]
  refine wpAny_bind (wpAny_standAt (wpAny_bind (wpAny_subDictH (knd := nestedKind X.prog X.w) hroom (by simp) ?_)))
  -- the key, the value
  have wk : tE B ek σ (upd W.H s.heap.objs.size (.ext (KDo B.R s.heap.objs.size []))) fun kv H2 => tE B ev σ H2 fun vv H3 => ∃ W3 kd vd h3, W3.H = H3 ∧ Le (W.at_ (upd W.H s.heap.objs.size (.ext (KDo B.R s.heap.objs.size [])))) W3 ∧ HR B.R W3 h3 ∧ VR B.R W3 kd kv ∧ VR B.R W3 vd vv ∧ isKey kd = true ∧
      PQ B.R W Q (.loc h3.length) (h3 ++ [.kd [(kd, vd)]]) := by
    refine step1 x hr1 w fun d1 h1 W1 v1 w l1 hr2 r1 => ?_
    refine step1 x hr2 w fun d2 h2 W2 v2 w l2 hr3 r2 => ?_
    exact ⟨W2, d1, d2, h2, rfl, l1.trans l2, hr3.hr, r1.mono l2.toLw, r2, w.1, w.2⟩
  unfold evalPairs
  refine wpAny_bind (thn (hk.run pins _ σ _ _ I1 wk) fun ku s1 ⟨kv, H1, I2, rk, w2⟩ => ?_)
  refine wpAny_bind (wpAny_holding (wpAny_bind (thn (hv.run pins s1 σ H1 _ I2 w2) fun vu s2 ⟨vv, H2, I3, rv, W3, kd, vd, h3, e3, l3, hr3, rkd, rvd, hkd, q⟩ => wpAny_bind (wpAny_standAt (wpAny_pure ?_)))))
  unfold evalPairs
  refine wpAny_bind (wpAny_holding (wpAny_pure (wpAny_pure ?_)))
  subst e3
  obtain ⟨b, rfl⟩ := key_ref hkd rkd
  cases rk
  have hi : (nestedKind X.prog X.w).is s2.heap (toNK kd) b := key_is x.K I3 hkd rkd
  have im3 := l3.toLw.im im
  have hko : ObjOk X.prog X.w W3.H s2.heap s.heap.objs.size (.ext (KDo B.R s.heap.objs.size [])) := I3.hok _ _ im3.2.2
  obtain ⟨⟨o, ep, tb, g1, g2, g3, g4, g5, g6⟩, _, _⟩ := hko
  have hD : s2.heap.DictOfH (nestedKind X.prog X.w) s.heap.objs.size [] := ⟨o, tb, ep, g1, g2, g3, by rw [g4]; rfl, ⟨fun y hy => by simp at hy, List.nodup_nil⟩⟩
  refine ⟨[(toNK kd, b, vu)], ⟨rfl, rfl, hi, trivial⟩, hD, fun h' tk hm' hs' => wpAny_pure ?_⟩
  have hm2 : h'.DictOfH (nestedKind X.prog X.w) s.heap.objs.size [(toNK kd, b, vu)] := hm'
  have hkd' : KDo B.R s.heap.objs.size [(toNK kd, b, vu)] h' := by
    obtain ⟨o, es', ep, ho, hc, hd, he, _, hnd⟩ := hm2
    rw [x.P, x.w] at he
    exact ⟨o, ep, es', ho, hc, hd, he, hnd, g6⟩
  have he : ∃ o, h'.get? s.heap.objs.size = some o := by obtain ⟨o, _, _, ho, _⟩ := hm2; exact ⟨o, ho⟩
  have J : Inv X pins σ (upd W3.H s.heap.objs.size (.ext (KDo B.R s.heap.objs.size [(toNK kd, b, vu)]))) { s2 with heap := h', toks := tk } :=
    I3.write (x := s.heap.objs.size) (e := s.heap.objs.size) (by rw [im3.2.2]; exact True.intro) (.inl rfl) (fun c w hc z => (hs'.2 c hc).trans z) he ⟨hkd', he, kdo_stay⟩
  refine ⟨.ref s.heap.objs.size, _, J, rfl, ?_⟩
  have l0 := lf.trans l3
  obtain ⟨ν, e1, n1⟩ := l0.pre
  have lw : Le W { W3 with m := W3.m ++ [s.heap.objs.size], H := upd W3.H s.heap.objs.size (.ext (KDo B.R s.heap.objs.size [(toNK kd, b, vu)])) } := by
    refine ⟨⟨l0.x, ⟨ν ++ [s.heap.objs.size], by show W3.m ++ _ = _; rw [e1, List.append_assoc], fun a ha => (List.mem_append.mp ha).elim (n1 a) fun q => by rw [List.mem_singleton.mp q]; exact hp⟩, fun a o q => ?_, fun a q => upd_there a (l0.there a q)⟩, fun a ha => ?_⟩
    · show upd W3.H s.heap.objs.size _ a = _
      rw [upd_ne (im_ne q hp)]
      exact l0.keep a o q
    · show upd W3.H s.heap.objs.size _ a = _
      rw [upd_ne (fun q => hr.hr.notinx hp (by rw [← q]; exact ha))]
      exact l0.hid a ha
  refine q _ (.ref s.heap.objs.size) lw (adoptHR hr3 im3 ⟨_, rfl, .cons ⟨hkd, rfl, adopt im3 _ _ rkd, vv, rv, adopt im3 _ _ rvd⟩ .nil⟩) (.loc ?_)
  show (W3.m ++ [s.heap.objs.size])[h3.length]? = some s.heap.objs.size
  rw [← hr3.len, List.getElem?_append_right (Nat.le_refl _)]
  simp
end
end Mi

set_option linter.all false
set_option maxRecDepth 100000
set_option maxHeartbeats 3200000
namespace Mi
open PySem PySem.Spec PyProof.Rows L2
/-! ## len(set(xs)) -/
section
variable {P : Program} {w : World} {A : Around} {E : Value → Shared → Prop} {s : Shared}
/-- what is neither a set nor a dict: its items are added one by one -/
theorem upd_from {v : Value} {ty : String} {id : String} {S : Addr} {Q : Unit → Shared → Prop} (ht : typeOf v = pure (.type ty) ∨ s.TypeIs v ty) (h1 : isSubtype (.type ty) (.type "set") = pure false) (h2 : isSubtype (.type ty) (.type "frozenset") = pure false) (h3 : ty ≠ "dict")
    (h : wpAny (model P w) A (pyIter v) (fun I s' => wpAny (model P w) A (runValue (.builtin "set.update.loop" ⟨[.ref S, I], []⟩)) (fun _ s'' => Q () s'') E s') E s) : wpAny (model P w) A (Builtin.Frozenset.updateFrom id S v) Q E s := by
  have h4 : (Value.type ty == Value.type "dict") = false := by
    simpa using h3
  unfold Builtin.Frozenset.updateFrom
  rcases ht with ht | ht
  · generalize pyIter v = PI at h ⊢
    wp_walk
    all_goals exact thn h fun I s' h' => wpAny_bind (thn h' fun _ s2 q => wpAny_pure q)
  · generalize pyIter v = PI at h ⊢
    wp_walk
    all_goals exact thn h fun I s' h' => wpAny_bind (thn h' fun _ s2 q => wpAny_pure q)
/-- set(v): a new empty set, then v's items -/
theorem set_make {v : Value} {ty : String} {Q : Value → Shared → Prop} (ht : (∀ h : Heap, (∀ b o, s.heap.get? b = some o → h.get? b = some o) → typeOf v = pure (.type ty) ∨ Shared.TypeIs { s with heap := h } v ty)) (h1 : isSubtype (.type ty) (.type "set") = pure false) (h2 : isSubtype (.type ty) (.type "frozenset") = pure false) (h3 : ty ≠ "dict")
    (h : ∀ A' : Around, A'.handled = A.handled → A'.units ≤ A.units + 3 → wpAny (model P w) A' (pyIter v) (fun I s' => wpAny (model P w) A' (runValue (.builtin "set.update.loop" ⟨[.ref s.heap.objs.size, I], []⟩)) (fun _ s'' => Q (.ref s.heap.objs.size) s'') E s') E
      { s with heap := s.heap.push { cls := .type "set", dict := none, data := .set #[] 0 (.fresh 0 0 (!w.params.followText "set-order")) } }) :
    wpAny (model P w) A (call (.type "set") [v]) Q E s := by
  obtain ⟨c, tl, hmro⟩ := PySem.F.called_set.mro
  have made := PySem.F.called_set.made
  have sub := PySem.F.called_set.sub
  refine wpAny_call (codeAny_of_tree ?_)
  refine wpAny_pure (Q := _) ⟨Code.quiet_builtin _ (by decide +kernel), codeAny_builtin (R := _) PySem.F.entry_type_call ?_⟩
  rw [Around.under_plain (weight_type_call_type "set" [v] []) rfl]
  have n1 := PySem.F.called_set.notType
  have n2 := PySem.F.called_set.canCreate
  have n3 := PySem.F.typeCall_set_1 v
  repeat (any_goals (first | assumption | wp_step))
  let ob : Obj := { cls := .type "set", dict := none, data := .set #[] 0 (.fresh 0 0 (!w.params.followText "set-order")) }
  let s1 : Shared := { s with heap := s.heap.push ob }
  refine codeAny_mono (code_set_led1 v (E := E) (Q₁ := fun o t => o = .ref s.heap.objs.size ∧ t = s1) ⟨rfl, rfl⟩) fun r t hr => ?_
  rcases r with e | (_ | _ | _ | _)
  any_goals exact hr
  all_goals first | exact hr.elim | skip
  obtain ⟨rfl, rfl⟩ := hr
  have hS : s1.heap.get? s.heap.objs.size = some ob := Heap.get?_push_size _ rfl
  have hT : s1.TypeIs (.ref s.heap.objs.size) "set" := ⟨_, hS, rfl⟩
  have l1 := PySem.F.called_set.init.lookup
  have l2 := PySem.F.called_set.init.bind (.ref s.heap.objs.size)
  repeat (any_goals (first | assumption | wp_step))
  refine codeAny_mono (codeAny_call_builtin (R := wants (fun r t => r = .none ∧ Q (.ref s.heap.objs.size) t) E) PySem.F.called_set.init.plain PySem.F.entry_set_init (check_set_init_1 hT ?_)) fun r t hr => ?_
  · unfold Builtin.«set.__init__» noKeywords
    have hv := ht s1.heap fun b o e => Heap.get?_push_of_some _ e
    have go := h A.in1.in1 (by simp) (Nat.le_succ _)
    generalize hU : Builtin.Frozenset.updateFrom = U
    wp_walk
    subst hU
    exact upd_from hv h1 h2 h3 (thn go fun I s' h' => thn h' fun _ s2 q => wpAny_pure ⟨rfl, q⟩)
  · rcases r with e | (r | _ | _ | _)
    any_goals exact hr
    all_goals first | exact hr.elim | skip
    obtain ⟨rfl, hq⟩ := hr
    repeat (any_goals (first | assumption | wp_step))
    try exact hq
/-! ### a set of texts -/
/-- a list without doubles that has just the items of l -/
def Kern {α : Type} (l L : List α) : Prop := L.Nodup ∧ ∀ x, x ∈ L ↔ x ∈ l
theorem Kern.len {α : Type} [DecidableEq α] {l L L' : List α} (h : Kern l L) (h' : Kern l L') : L.length = L'.length :=
  ((List.perm_ext_iff_of_nodup h.1 h'.1).mpr fun x => (h.2 x).trans (h'.2 x).symm).length_eq
theorem Kern.old {α : Type} {l L : List α} {x : α} (h : Kern l L) (hx : x ∈ l) : Kern (l ++ [x]) L :=
  ⟨h.1, fun y => by rw [h.2 y, List.mem_append, List.mem_singleton]; exact ⟨.inl, fun z => z.elim id fun e => e ▸ hx⟩⟩
theorem Kern.new {α : Type} {l L : List α} {x : α} (h : Kern l L) (hx : x ∉ l) : Kern (l ++ [x]) (x :: L) :=
  ⟨List.nodup_cons.mpr ⟨fun m => hx ((h.2 x).mp m), h.1⟩, fun y => by rw [List.mem_cons, h.2 y, List.mem_append, List.mem_singleton]; exact ⟨fun z => z.symm, fun z => z.symm⟩⟩
theorem take_step {α : Type} {l : List α} {i : Nat} {x : α} (h : l[i]? = some x) : l.take (i + 1) = l.take i ++ [x] := by
  rw [List.take_succ, h]
  rfl
/-- the texts that the set at S has got so far -/
def TxtSet (P : Program) (w : World) (h : Heap) (S : Addr) (l : List Str) : Prop := ∃ L : List Str, Kern l L ∧ h.SetOf (strKind P w) S (fun k => decide (k ∈ l)) L.length
theorem nd_len {α : Type} [DecidableEq α] : ∀ (L l : List α), L.Nodup → (∀ x ∈ L, x ∈ l) → L.length ≤ l.length
  | [], _, _, _ => Nat.zero_le _
  | x :: L, l, h, q => by
    have h2 := List.nodup_cons.mp h
    have hx := q x List.mem_cons_self
    have r := nd_len L (l.erase x) h2.2 fun y hy => (List.mem_erase_of_ne (fun (e : y = x) => h2.1 (e ▸ hy))).mpr (q y (List.mem_cons_of_mem _ hy))
    rw [List.length_erase_of_mem hx] at r
    have : 0 < l.length := List.length_pos_of_mem hx
    rw [List.length_cons]
    omega
theorem Kern.le {α : Type} [DecidableEq α] {l L : List α} (h : Kern l L) : L.length ≤ l.length := nd_len _ _ h.1 fun x hx => (h.2 x).mp hx
theorem loop_txt {I S : Addr} {fp wr : List Addr} {G : Array GenState → Array GenState → Prop} {n : Nat} {Pv : Nat → Value → Prop} {St : Nat → Shared → Prop} {R : Result → Shared → Prop} (W : WalksS P w A.in1 I fp wr G n Pv St) (hS : S ∉ fp) (xs : List Str) (hn : xs.length = n) (hlim : ∃ D : List Str, (∀ x ∈ xs, x ∈ D) ∧ D.length < 4000)
    (hval : ∀ i v, Pv i v → ∃ x t, xs[i]? = some x ∧ v = .str x t) : ∀ (k i : Nat) (s : Shared), i + k = n → St i s → TxtSet P w s.heap S (xs.take i) →
      (∀ s', Moved (S :: wr) G s s' → TxtSet P w s'.heap S xs → R (.ok (.ret .none)) s') → codeAny (model P w) A (.builtin "set.update.loop" ⟨[.ref S, .ref I], []⟩) R s := by
  have hw : S ∉ wr := fun h => hS (W.sub _ h)
  have mv : ∀ b ∈ wr, b ∈ S :: wr := fun b hb => List.mem_cons_of_mem _ hb
  obtain ⟨D0, hD0, hl0⟩ := hlim
  have kp : ∀ {s s' : Shared} {l : List Str}, Moved wr G s s' → TxtSet P w s.heap S l → TxtSet P w s'.heap S l := fun hm ⟨L, q, o, es, ep, t, ho, r⟩ => ⟨L, q, o, es, ep, t, hm.heap S _ hw ho, r⟩
  intro k
  induction k with
  | zero =>
    intro i s hk hst hT hR
    obtain rfl : i = n := hk
    refine codeAny_builtin PyProof.Rows.F.entry_set_update_loop ?_
    rw [Around.under_plainId PyProof.Rows.F.plain_set_update_loop _]
    rw [List.take_of_length_le (Nat.le_of_eq hn)] at hT
    exact wpAny_bind (W.done s _ _ hst fun t hm => wpAny_pure (hR t (hm.mono mv) (kp hm hT)))
  | succ k ih =>
    intro i s hk hst hT hR
    refine codeAny_builtin PyProof.Rows.F.entry_set_update_loop ?_
    rw [Around.under_plainId PyProof.Rows.F.plain_set_update_loop _]
    refine wpAny_bind (W.item i s _ _ (by omega) hst fun v t hv hst' hm => ?_)
    obtain ⟨x, tk, hx, rfl⟩ := hval i v hv
    obtain ⟨L, q, hT⟩ := kp hm hT
    refine wpAny_bind (wpAny_holding ?_)
    unfold setAdd
    refine wpAny_holding (wpAny_bind ((strKind P w).pyHash (k := x) (strKind_is _ _ _ _) ?_))
    have hq := nd_len L D0 q.1 fun x hx => hD0 x (List.mem_of_mem_take ((q.2 x).mp hx))
    refine wpAny_setAddHashed_of (knd := strKind P w) (s := { t with toks := t.toks + 1 }) (strKind_is _ _ _ _) rfl hT (by unfold scanBound; omega) fun h' hb hT2 => ?_
    have hT3 : TxtSet P w h' S (xs.take (i + 1)) := by
      rw [take_step hx]
      by_cases e : x ∈ xs.take i
      · refine ⟨L, q.old e, SetOf_congr hT2 (fun y => ?_) (by simp [e])⟩
        by_cases f : y = x
        · subst f; simp [e]
        · simp [f]
      · refine ⟨x :: L, q.new e, SetOf_congr hT2 (fun y => ?_) (by simp [e])⟩
        by_cases f : y = x
        · subst f; simp
        · simp [f]
    refine wpAny_pure ⟨plainId_quiet PyProof.Rows.F.plain_set_update_loop _, ih (i + 1) _ (by omega) (W.frame _ t _ _ hst' (Nat.le_succ _) fun b hm2 o e => (hb.2 b fun z => hS (z ▸ hm2)).trans e) hT3 fun s2 hm2 hT4 => ?_⟩
    exact hR s2 (Moved.trans W.gtrans ((hm.mono mv).then_heap (Nat.le_succ _) fun b o hb2 e => (hb.2 b fun z => hb2 (z ▸ List.mem_cons_self)).trans e) hm2) hT4
end
end Mi

set_option linter.all false
set_option maxRecDepth 100000
set_option maxHeartbeats 3200000
namespace Mi
open PySem PySem.Spec PyProof.Rows L2
/-! ## len(set(xs)), xs of texts -/
section
variable {P : Program} {w : World} {A : Around} {E : Value → Shared → Prop} {s : Shared}
abbrev setOb (w : World) : Obj := { cls := .type "set", dict := none, data := .set #[] 0 (.fresh 0 0 (!w.params.followText "set-order")) }
theorem txt_new {h : Heap} {S : Addr} (e : h.get? S = some (setOb w)) : TxtSet P w h S [] :=
  ⟨[], ⟨List.nodup_nil, fun _ => Iff.rfl⟩, SetOf_congr ((setObjOf_fresh (knd := strKind P w) (!w.params.followText "set-order")).setOf e (by unfold scanBound; omega)) (fun _ => rfl) rfl⟩
theorem set_txt {v : Value} {ty : String} {xs : List Str} {Q : Value → Shared → Prop} (hh : A.handled = none) (ht : (∀ h : Heap, (∀ b o, s.heap.get? b = some o → h.get? b = some o) → typeOf v = pure (.type ty) ∨ Shared.TypeIs { s with heap := h } v ty)) (h1 : isSubtype (.type ty) (.type "set") = pure false) (h2 : isSubtype (.type ty) (.type "frozenset") = pure false) (h3 : ty ≠ "dict")
    (hlim : ∃ D : List Str, (∀ x ∈ xs, x ∈ D) ∧ D.length < 4000)
    (hit : ∀ (A' : Around) (Q' : Value → Shared → Prop), A'.handled = none → (∀ (o : Obj) (fp wr : List Addr) (Pv : Nat → Value → Prop) (St : Nat → Heap → Prop), (∀ A2 : Around, A2.handled = none → Walks P w A2 (s.heap.objs.size + 1) fp wr xs.length Pv St) → (∀ i v, Pv i v → ∃ x t, xs[i]? = some x ∧ v = .str x t) → s.heap.objs.size ∉ fp → (∀ b ∈ wr, s.heap.objs.size < b) →
      St 0 ((s.heap.push (setOb w)).push o) → Q' (.ref (s.heap.objs.size + 1)) { s with heap := (s.heap.push (setOb w)).push o }) → wpAny (model P w) A' (pyIter v) Q' E { s with heap := s.heap.push (setOb w) })
    (h : ∀ (h' : Heap) (tk : Nat), TxtSet P w h' s.heap.objs.size xs → (∀ b o, s.heap.get? b = some o → h'.get? b = some o) → Q (.ref s.heap.objs.size) { s with heap := h', toks := tk }) :
    wpAny (model P w) A (call (.type "set") [v]) Q E s := by
  refine set_make ht h1 h2 h3 fun A' e1 _ => hit A' _ (e1.trans hh) fun o fp wr Pv St W hv hf hw hst => wpAny_runValue ?_
  refine loop_txt (W A'.in1 (by simp [e1, hh])).toS hf xs rfl hlim hv xs.length 0 _ (Nat.zero_add _) hst (txt_new (Heap.get?_push_of_some _ (Heap.get?_push_size _ rfl))) fun t hm hT => ?_
  obtain ⟨h', g', d', tk, os⟩ := t
  have e1 : g' = s.gens := hm.gens
  have e2 : d' = s.drawn := hm.drawn
  have e3 : os = s.os := hm.os
  subst e1 e2 e3
  refine h h' tk hT fun b o e => hm.heap b o (fun m => ?_) (Heap.get?_push_of_some _ (Heap.get?_push_of_some _ e))
  have hb := Heap.lt_size e
  rcases List.mem_cons.mp m with z | z
  · exact absurd (z ▸ hb) (Nat.lt_irrefl _)
  · exact absurd (Nat.lt_trans (hw b z) hb) (Nat.lt_irrefl _)
theorem set_txt_list {l : Addr} {items : Array Value} {xs : List Str} {Q : Value → Shared → Prop} (hh : A.handled = none) (hl : s.heap.IsList l items) (hi : StrsAre items.toList xs) (hlim : ∃ D : List Str, (∀ x ∈ xs, x ∈ D) ∧ D.length < 4000)
    (h : ∀ (h' : Heap) (tk : Nat), TxtSet P w h' s.heap.objs.size xs → (∀ b o, s.heap.get? b = some o → h'.get? b = some o) → Q (.ref s.heap.objs.size) { s with heap := h', toks := tk }) :
    wpAny (model P w) A (call (.type "set") [.ref l]) Q E s := by
  have sz : items.size = xs.length := by rw [← StrsAre.len_eq hi, Array.length_toList]
  have hl0 := hl
  obtain ⟨o, ho, hc, n, hd⟩ := hl0
  have hlt := Heap.lt_size ho
  refine set_txt hh (fun h k => .inr ⟨o, k _ _ ho, hc⟩) F.sub_list_set F.sub_list_frozenset (by decide) hlim (fun A' Q' hA q => ?_) h
  refine wpAny_pyIter_list (hl.push _) ?_
  have hn1 : l ≠ s.heap.objs.size + 1 := Nat.ne_of_lt (Nat.lt_succ_of_lt hlt)
  have hn2 : s.heap.objs.size ∉ [s.heap.objs.size + 1, l] := fun m => (List.mem_cons.mp m).elim (fun z => absurd z (Nat.ne_of_lt (Nat.lt_succ_self _))) fun m => absurd (List.mem_singleton.mp m) (Nat.ne_of_gt hlt)
  have ez : (s.heap.push (setOb w)).objs.size = s.heap.objs.size + 1 := Heap.size_push ..
  rw [ez]
  refine q { cls := .type "list_iterator", data := .fields #[.ref l, .int 0 0] } [s.heap.objs.size + 1, l] [s.heap.objs.size + 1] _ _ (fun A2 hA2 => sz ▸ Walks.list hA2 _ l hn1 items) (fun i v hv => ?_) hn2 (by simp) ⟨⟨{ cls := .type "list_iterator", data := .fields #[.ref l, .int 0 0] }, ?_, rfl, rfl⟩, (hl.push _).push _⟩
  · obtain ⟨t, e⟩ := SS.strs_at hi i v (by rw [Array.getElem?_toList]; exact hv)
    have hi2 : i < xs.length := by rw [← sz]; exact (Array.getElem?_eq_some_iff.mp hv).1
    exact ⟨xs[i], t, List.getElem?_eq_getElem hi2, by rw [e, List.getD_eq_getElem?_getD, List.getElem?_eq_getElem hi2]; rfl⟩
  · rw [← ez]; exact Heap.get?_push_size _ rfl
theorem set_txt_tuple {l : Addr} {items : Array Value} {xs : List Str} {Q : Value → Shared → Prop} (hh : A.handled = none) (hl : s.heap.IsTuple l items) (hi : StrsAre items.toList xs) (hlim : ∃ D : List Str, (∀ x ∈ xs, x ∈ D) ∧ D.length < 4000)
    (h : ∀ (h' : Heap) (tk : Nat), TxtSet P w h' s.heap.objs.size xs → (∀ b o, s.heap.get? b = some o → h'.get? b = some o) → Q (.ref s.heap.objs.size) { s with heap := h', toks := tk }) :
    wpAny (model P w) A (call (.type "set") [.ref l]) Q E s := by
  have sz : items.size = xs.length := by rw [← StrsAre.len_eq hi, Array.length_toList]
  have hl0 := hl
  obtain ⟨o, ho, hc, n, hd⟩ := hl0
  have hlt := Heap.lt_size ho
  refine set_txt hh (fun h k => .inr ⟨o, k _ _ ho, hc⟩) PySem.F.sub_tuple_set PySem.F.sub_tuple_frozenset (by decide) hlim (fun A' Q' hA q => ?_) h
  refine wpAny_pyIter_tuple (hl.push _) ?_
  have hn1 : l ≠ s.heap.objs.size + 1 := Nat.ne_of_lt (Nat.lt_succ_of_lt hlt)
  have hn2 : s.heap.objs.size ∉ [s.heap.objs.size + 1, l] := fun m => (List.mem_cons.mp m).elim (fun z => absurd z (Nat.ne_of_lt (Nat.lt_succ_self _))) fun m => absurd (List.mem_singleton.mp m) (Nat.ne_of_gt hlt)
  have ez : (s.heap.push (setOb w)).objs.size = s.heap.objs.size + 1 := Heap.size_push ..
  rw [ez]
  refine q { cls := .type "tuple_iterator", data := .fields #[.ref l, .int 0 0] } [s.heap.objs.size + 1, l] [s.heap.objs.size + 1] _ _ (fun A2 hA2 => sz ▸ Walks.tuple hA2 _ l hn1 items) (fun i v hv => ?_) hn2 (by simp) ⟨⟨{ cls := .type "tuple_iterator", data := .fields #[.ref l, .int 0 0] }, ?_, rfl, rfl⟩, (hl.push _).push _⟩
  · obtain ⟨t, e⟩ := SS.strs_at hi i v (by rw [Array.getElem?_toList]; exact hv)
    have hi2 : i < xs.length := by rw [← sz]; exact (Array.getElem?_eq_some_iff.mp hv).1
    exact ⟨xs[i], t, List.getElem?_eq_getElem hi2, by rw [e, List.getD_eq_getElem?_getD, List.getElem?_eq_getElem hi2]; rfl⟩
  · rw [← ez]; exact Heap.get?_push_size _ rfl
theorem set_txt_str {x : Str} {t : Tok} {Q : Value → Shared → Prop} (hh : A.handled = none) (hlim : x.cps.size < 4000)
    (h : ∀ (h' : Heap) (tk : Nat), TxtSet P w h' s.heap.objs.size (x.cps.toList.map fun c => (⟨#[c]⟩ : Str)) → (∀ b o, s.heap.get? b = some o → h'.get? b = some o) → Q (.ref s.heap.objs.size) { s with heap := h', toks := tk }) :
    wpAny (model P w) A (call (.type "set") [.str x t]) Q E s := by
  refine set_txt hh (fun h k => .inl rfl) PySem.F.sub_str_set PySem.F.sub_str_frozenset (by decide) ⟨_, fun _ z => z, by simpa using hlim⟩ (fun A' Q' hA q => ?_) h
  refine wpAny_pyIter_str fun o St W hst => ?_
  have ez : (s.heap.push (setOb w)).objs.size = s.heap.objs.size + 1 := Heap.size_push ..
  rw [ez] at W ⊢
  refine q o [s.heap.objs.size + 1] [s.heap.objs.size + 1] (SignAt x) St (fun A2 hA2 => ?_) (fun i v hv => ?_) (fun m => absurd (List.mem_singleton.mp m) (Nat.ne_of_lt (Nat.lt_succ_self _))) (by simp) hst
  · have := W A2 hA2
    rw [List.length_map, Array.length_toList]
    exact this
  · obtain ⟨c, tk, hc, e⟩ := hv
    exact ⟨⟨#[c]⟩, tk, by rw [List.getElem?_map, Array.getElem?_toList, hc]; rfl, e⟩
end
end Mi

set_option linter.all false
set_option maxRecDepth 100000
set_option maxHeartbeats 3200000
namespace Mi
open PySem PySem.Spec PyProof.Rows L2
/-! ## sets of nested tuples: what is asked of a key -/
section
variable {P : Program} {w : World} {A : Around} {E : Value → Shared → Prop} {s : Shared}
theorem nall_mem {h : Heap} : ∀ {ks : List NestedKey} {vs : List Value}, NestedAll h ks vs → ∀ v ∈ vs, ∃ k, NestedIs h k v ∧ k.depth ≤ NestedKey.depthAll ks
  | _, _, .nil, v, hv => by cases hv
  | _, _, .cons (k := k) (ks := ks) a b, v, hv => by
    simp only [NestedKey.depthAll]
    rcases List.mem_cons.mp hv with e | hv
    · subst e; exact ⟨k, a, by omega⟩
    · obtain ⟨k', r, l⟩ := nall_mem b v hv
      exact ⟨k', r, by omega⟩
/-- no key is a class statement's, by value -/
theorem no_cls : ∀ (n : Nat) (k : NestedKey) (v : Value) (Q : Bool → Shared → Prop), NestedIs s.heap k v → k.depth ≤ n → Q false s → wpAny (model P w) A (ofAClassStatement n v) Q E s := by
  intro n
  induction n with
  | zero =>
    intro k v Q r hd q
    cases r with
    | tup => simp [NestedKey.depth] at hd
    | _ => exact wpAny_pure q
  | succ n ih =>
    intro k v Q r hd q
    cases r with
    | @tup a o vs m ks ho hc hdt hk =>
      simp only [NestedKey.depth] at hd
      unfold ofAClassStatement
      refine wpAny_bind (wpAny_typeOf (T := "tuple") ⟨o, ho, hc⟩ ?_)
      dsimp only
      simp only [show (("tuple" : String) == "tuple") = true from rfl, if_true, Bool.not_true, Bool.false_eq_true, if_false]
      refine wpAny_bind (wpAny_pure ?_)
      simp only [Bool.not_true, Bool.false_eq_true, if_false]
      refine wpAny_bind (wpAny_seqItems ho hdt ?_)
      dsimp only
      refine wpAny_bind ?_
      rw [← Array.forIn_toList]
      refine wpAny_forIn_list _ (fun rest r s' => r.1 = none ∧ s' = s ∧ ∀ v ∈ rest, ∃ k, NestedIs s.heap k v ∧ k.depth ≤ n) _ ?_ ?_ _ _ ⟨rfl, rfl, fun v hv => let ⟨k, a, b⟩ := nall_mem hk v hv; ⟨k, a, by omega⟩⟩
      · rintro v rest r s' ⟨hr, rfl, hall⟩
        obtain ⟨k, a, b⟩ := hall v List.mem_cons_self
        refine wpAny_bind (ih k v _ a b ?_)
        simp only [Bool.false_eq_true, if_false]
        exact wpAny_pure ⟨rfl, rfl, fun u hu => hall u (List.mem_cons_of_mem _ hu)⟩
      · rintro ⟨r1, r2⟩ s' ⟨hr, rfl, _⟩
        simp only at hr
        subst hr
        exact wpAny_pure q
    | _ => exact wpAny_pure q
/-- whether a key's hash is by value: some answer -/
theorem by_val : ∀ (n : Nat) (k : NestedKey) (v : Value) (Q : Bool → Shared → Prop), NestedIs s.heap k v → k.depth ≤ n → (∀ b, Q b s) → wpAny (model P w) A (hashByValue n v) Q E s := by
  intro n
  induction n with
  | zero =>
    intro k v Q r hd q
    cases r with
    | tup => simp [NestedKey.depth] at hd
    | _ => exact wpAny_pure (q _)
  | succ n ih =>
    intro k v Q r hd q
    cases r with
    | @tup a o vs m ks ho hc hdt hk =>
      simp only [NestedKey.depth] at hd
      unfold hashByValue
      refine wpAny_bind (wpAny_specialOf (T := "tuple") ⟨o, ho, hc⟩ F.slot_tuple_hash.lookup ?_)
      dsimp only
      refine wpAny_bind (wpAny_seqItems ho hdt ?_)
      refine wpAny_bind ?_
      show wpAny _ _ (forIn vs _ _) _ _ s
      rw [← Array.forIn_toList]
      refine wpAny_forIn_list _ (fun rest r s' => s' = s ∧ ∀ v ∈ rest, ∃ k, NestedIs s.heap k v ∧ k.depth ≤ n) _ ?_ ?_ _ _ ⟨rfl, fun v hv => let ⟨k, a, b⟩ := nall_mem hk v hv; ⟨k, a, by omega⟩⟩
      · rintro v rest r s' ⟨rfl, hall⟩
        obtain ⟨k, a, b⟩ := hall v List.mem_cons_self
        refine wpAny_bind (ih k v _ a b fun x => ?_)
        cases x
        · simp only [Bool.not_false, if_true]
          exact wpAny_pure (wpAny_pure (q _))
        · simp only [Bool.not_true, Bool.false_eq_true, if_false]
          exact wpAny_pure ⟨rfl, fun u hu => hall u (List.mem_cons_of_mem _ hu)⟩
      · rintro ⟨r1, r2⟩ s' ⟨rfl, _⟩
        cases r1 <;> exact wpAny_pure (q _)
    | _ => exact wpAny_pure (q _)
end
end Mi

set_option linter.all false
set_option maxRecDepth 100000
set_option maxHeartbeats 3200000
namespace Mi
open PySem PySem.Spec PyProof.Rows L2
/-! ## sets of nested tuples: the search -/
section
variable {P : Program} {w : World} {A : Around} {E : Value → Shared → Prop} {s : Shared}
/-- the value at x is the key k -/
def KAt (h : Heap) (k : NestedKey) (x : Addr) : Prop := NestedIs h k (.ref x) ∧ k.depth ≤ 8
/-- a set's rows: hashes and keys -/
def krows (w : World) (L : List (Addr × NestedKey)) : List (Int × Value) := L.map fun p => (p.2.hash w, Value.ref p.1)
structure SetN (w : World) (h : Heap) (S : Addr) (L : List (Addr × NestedKey)) (es : Array (Int × Value)) (ep : Nat) (t : SetTable) : Prop where
  ob : ∃ o, h.get? S = some o ∧ o.ExactSet ∧ o.data = .set es ep t
  rows : es.toList = krows w L
  tab : TabOk t (L.map fun p => p.2.hash w)
  nd : (L.map (·.2)).Nodup
  keys : ∀ p ∈ L, KAt h p.2 p.1
  room : L.length * 5 < t.mask * 3
  few : L.length < 64
variable {S : Addr} {L : List (Addr × NestedKey)} {es : Array (Int × Value)} {ep : Nat} {t : SetTable}
theorem krows_len (w : World) (L : List (Addr × NestedKey)) : (krows w L).length = L.length := List.length_map _
theorem SetN.sz (R : SetN w s.heap S L es ep t) : es.size = L.length := by rw [← Array.length_toList, R.rows, krows_len]
theorem SetN.psz (R : SetN w s.heap S L es ep t) : t.place.toList.length = L.length := by
  have := R.tab.sz
  rw [List.length_map] at this
  rw [Array.length_toList, this]
theorem SetN.fits (R : SetN w s.heap S L es ep t) : t.fits es.size = true := by
  have a := R.psz
  have b := R.sz
  have c := R.room
  rw [Array.length_toList] at a
  simp only [SetTable.fits, SetTable.fill, R.tab.dm, Bool.and_eq_true, beq_iff_eq, decide_eq_true_eq, Array.size_empty]
  omega
theorem SetN.row (R : SetN w s.heap S L es ep t) {i : Nat} {p : Addr × NestedKey} (h : L[i]? = some p) : es[i]? = some (p.2.hash w, Value.ref p.1) := by
  rw [← Array.getElem?_toList, R.rows, krows, List.getElem?_map, h]
  rfl
/-- a search among keys tells nothing -/
theorem unseen {k : NestedKey} {x : Addr} {ys : List Value} {Q : Bool → Shared → Prop} (hx : KAt s.heap k x) (hy : ∀ y ∈ ys, ∃ k' c, y = Value.ref c ∧ KAt s.heap k' c) (q : Q false s) : wpAny (model P w) A (searchCouldBeSeen (.ref x) ys) Q E s := by
  have quiet : ∀ {k c} {Q : Bool → Shared → Prop}, KAt s.heap k c → Q true s → wpAny (model P w) A (eqIsQuiet 8 (.ref c)) Q E s := fun h q => (nestedKind P w).quiet h q
  unfold searchCouldBeSeen
  refine wpAny_bind (wpAny_forIn_list _ (fun rest r s' => r.1 = none ∧ s' = s ∧ ∀ y ∈ rest, ∃ k' c, y = Value.ref c ∧ KAt s.heap k' c) _ ?_ ?_ _ _ ⟨rfl, rfl, hy⟩)
  · rintro y rest r s' ⟨hr, rfl, hall⟩
    obtain ⟨k', c, rfl, hc⟩ := hall y List.mem_cons_self
    have more := fun u hu => hall u (List.mem_cons_of_mem _ hu)
    dsimp only
    by_cases hv : (x == c || (carriedByValue (.ref x) && carriedByValue (.ref c))) = true
    · exact wp_if_pos hv (wpAny_pure ⟨rfl, rfl, more⟩)
    · refine wp_if_neg hv (wpAny_bind (quiet hx ?_))
      simp only [Bool.not_true, Bool.false_eq_true, if_false]
      refine wpAny_bind (quiet hc ?_)
      simp only [Bool.not_true, Bool.false_eq_true, if_false]
      refine wpAny_bind (no_cls 8 k _ _ hx.1 hx.2 ?_)
      simp only [Bool.false_eq_true, if_false]
      refine wpAny_bind (no_cls 8 k' _ _ hc.1 hc.2 ?_)
      simp only [Bool.false_eq_true, if_false]
      exact wpAny_pure ⟨rfl, rfl, more⟩
  · rintro ⟨r1, r2⟩ s' ⟨hr, rfl, _⟩
    simp only at hr
    subst hr
    exact wpAny_pure q
theorem nth_dum (m : Nat) : ∀ (n : Nat) (p : SetTable.Probe), p.dummy = none → (nth m p n).dummy = none
  | 0, _, h => h
  | n + 1, p, h => nth_dum m n (adv m p) (by unfold adv; split <;> exact h)
/-- where a search begins -/
abbrev beg (t : SetTable) (h : Int) : SetTable.Probe := runAt t.mask (SetTable.bits h % (t.mask + 1)) (SetTable.bits h)
end
end Mi

set_option linter.all false
set_option maxRecDepth 100000
set_option maxHeartbeats 3200000
namespace Mi
open PySem PySem.Spec PyProof.Rows L2
section
variable {P : Program} {w : World} {A : Around} {E : Value → Shared → Prop} {s : Shared} {S : Addr} {L : List (Addr × NestedKey)} {es : Array (Int × Value)} {ep : Nat} {t : SetTable}
/-- the search, from the c-th place of the way on; K: the first empty place -/
theorem seek (R : SetN w s.heap S L es ep t) {x : Addr} {k : NestedKey} (hx : KAt s.heap k x) (hu : A.units + 8 < cLine) {K : Nat} (hKf : K < 10 * SetTable.turns t.mask)
    (hK : way t.mask (k.hash w) K ∉ t.place.toList) (hb : ∀ c, c < K → way t.mask (k.hash w) c ∈ t.place.toList) {Q : SetFound → Shared → Prop}
    (yes : k ∈ L.map (·.2) → Q (.there none) s) (no : k ∉ L.map (·.2) → Q (.free (way t.mask (k.hash w) K) false) s) :
    ∀ (f c : Nat) (st : Option SetTable.Probe), st.getD (t.probeStart (k.hash w)) = nth t.mask (beg t (k.hash w)) c → c ≤ K → K - c < f →
      (∀ (i : Nat) p, L[i]? = some p → p.2 = k → ∃ d, c ≤ d ∧ d < K ∧ t.place.toList[i]? = some (way t.mask (k.hash w) d)) →
      wpAny (model P w) A (setSearchFrom S (.ref x) (k.hash w) true f st) Q E s := by
  have eqn : ∀ {a : Addr} {k' : NestedKey} {Q' : Bool → Shared → Prop}, KAt s.heap k' a → Q' (decide (k' = k)) s → wpAny (model P w) A (eqBool (.ref a) (.ref x)) Q' E s := fun h q => (nestedKind P w).eqBool hu h hx q
  obtain ⟨o, ho, hex, hd⟩ := R.ob
  have hAt : ∀ (i : Nat) p, L[i]? = some p → (es[i]?.map (·.1)).getD 0 = p.2.hash w := fun i p hp => by rw [R.row hp]; rfl
  have wy : ∀ c q, (nth t.mask (nth t.mask (beg t (k.hash w)) c) q).j = way t.mask (k.hash w) (c + q) := fun c q => by rw [← nth_add]
  intro f
  induction f with
  | zero => intro c st _ _ hf; exact absurd hf (Nat.not_lt_zero _)
  | succ f ih =>
    intro c st hst hc hf hre
    rw [setSearchFrom_succ]
    refine wpAny_bind (wpAny_setState_of ho hd R.fits ?_)
    dsimp only
    refine wp_if_neg (by rw [SetTable.gaveWay, mask_odd R.tab.mok]; decide) ?_
    try refine wpAny_bind (wpAny_pure ?_)
    have hnd := nth_dum t.mask c (beg t (k.hash w)) rfl
    have sp := go_spec t R.tab.ris R.tab.dm (fun i => (es[i]?.map (·.1)).getD 0) (k.hash w) (10 * SetTable.turns t.mask) (K - c) _ hnd (by omega)
      (fun q hq => by rw [wy]; exact hb _ (by omega)) (by rw [wy, show c + (K - c) = K by omega]; exact hK)
    rcases sp with ⟨q, i, hq, hi, hh, hno, hpr⟩ | ⟨hno, hpr⟩
    · rw [wy] at hi
      have e1 : t.probe (fun i => (es[i]?.map (·.1)).getD 0) (k.hash w) (st.getD (t.probeStart (k.hash w))) = some (.candidate (way t.mask (k.hash w) (c + q)) i (nth t.mask (beg t (k.hash w)) (c + (q + 1)))) := by
        rw [hst, ← wy, nth_add]
        exact hpr
      rw [e1]
      dsimp only
      have hil : i < L.length := by rw [← R.psz]; exact (List.getElem?_eq_some_iff.mp hi).1
      obtain ⟨p, hp⟩ : ∃ p, L[i]? = some p := ⟨_, List.getElem?_eq_getElem hil⟩
      have hm : p ∈ L := List.mem_of_getElem? hp
      have hpk := R.keys p hm
      have rest : wpAny (model P w) A (searchRest S (.ref x) (k.hash w) true f es t (way t.mask (k.hash w) (c + q)) i (nth t.mask (beg t (k.hash w)) (c + (q + 1)))) Q E s := by
        unfold searchRest
        rw [R.row hp]
        dsimp only
        refine wpAny_bind (wpAny_holding (eqn hpk (wpAny_bind (wpAny_setState_of ho hd R.fits ?_))))
        dsimp only
        by_cases hk : p.2 = k
        · exact wp_if_pos (by simp [hk]) (wpAny_pure (yes (List.mem_map.mpr ⟨p, hm, hk⟩)))
        · refine wp_if_neg (by simp [hk]) ?_
          try refine wpAny_bind (wpAny_pure ?_)
          rw [sameMem]
          dsimp only
          have hl := slot_live R.tab.ris hi
          simp only [if_true, hl, R.row hp]
          refine wpAny_bind (wpAny_isSame_ref_self (wpAny_bind (wpAny_pure ?_)))
          simp only [if_true]
          refine wp_if_neg (by simp [hk]) (ih (c + (q + 1)) _ rfl (by omega) (by omega) fun j p' hj hk' => ?_)
          obtain ⟨d, d1, d2, d3⟩ := hre j p' hj hk'
          refine ⟨d, ?_, d2, d3⟩
          rcases Nat.lt_trichotomy d (c + q) with z | z | z
          · exact absurd ((hAt j p' hj).trans (by rw [hk'])) (hno (d - c) j (by omega) (by rw [wy, show c + (d - c) = d by omega]; exact d3))
          · subst z
            have h2 := slot_live R.tab.ris d3
            rw [hl] at h2
            injection h2 with h2
            subst h2
            rw [hp] at hj
            exact absurd ((congrArg Prod.snd (Option.some.inj hj)).trans hk') hk
          · omega
      by_cases hl : t.led = true
      · refine wp_if_neg (by simp [hl]) ?_
        try refine wpAny_bind (wpAny_pure ?_)
        exact rest
      · refine wp_if_pos (by simp [hl]) (wpAny_bind (unseen hx (fun y hy => ?_) ?_))
        · obtain ⟨e, he, rfl⟩ := List.mem_map.mp hy
          have he : e ∈ es ∧ e.1 = k.hash w := by simpa using he
          have he : e ∈ es.toList := by simpa using he.1
          rw [R.rows] at he
          obtain ⟨p2, h2, rfl⟩ := List.mem_map.mp he
          exact ⟨p2.2, p2.1, rfl, R.keys p2 h2⟩
        · refine wp_if_neg (by decide) ?_
          try refine wpAny_bind (wpAny_pure ?_)
          exact rest
    · have e1 : t.probe (fun i => (es[i]?.map (·.1)).getD 0) (k.hash w) (st.getD (t.probeStart (k.hash w))) = some (.empty (way t.mask (k.hash w) K) none) := by
        rw [hst]
        refine hpr.trans ?_
        rw [wy, show c + (K - c) = K by omega]
      rw [e1]
      dsimp only
      refine wpAny_pure (no fun hm => ?_)
      obtain ⟨p, hp, hk⟩ := List.mem_map.mp hm
      obtain ⟨i, hi, e⟩ := List.getElem_of_mem hp
      have hi2 : L[i]? = some p := by rw [List.getElem?_eq_getElem hi, e]
      obtain ⟨d, d1, d2, d3⟩ := hre i p hi2 hk
      exact hno (d - c) i (by omega) (by rw [wy, show c + (d - c) = d by omega]; exact d3) ((hAt i p hi2).trans (by rw [hk]))
/-- the search as adding asks for it -/
theorem seek_add (R : SetN w s.heap S L es ep t) {x : Addr} {k : NestedKey} (hx : KAt s.heap k x) (hu : A.units + 8 < cLine) {Q : SetFound → Shared → Prop} (yes : k ∈ L.map (·.2) → Q (.there none) s)
    (no : ∀ K, k ∉ L.map (·.2) → way t.mask (k.hash w) K ∉ t.place.toList → (∀ c, c < K → way t.mask (k.hash w) c ∈ t.place.toList) → Q (.free (way t.mask (k.hash w) K) false) s) :
    wpAny (model P w) A (setSearch S (.ref x) (k.hash w) true) Q E s := by
  have hr := R.room
  obtain ⟨K, h1, h2, h3⟩ := R.tab.first (by rw [List.length_map]; omega) (k.hash w)
  have hK : K < 100000 := by
    have : 10 * SetTable.turns t.mask < 2000 := by
      unfold SetTable.turns
      rcases R.tab.mok with e | e | e <;> omega
    omega
  unfold setSearch
  refine seek R hx hu h1 h2 h3 yes (fun n => no K n h2 h3) 100000 0 none rfl (Nat.zero_le _) (by omega) fun i p hp hk => ?_
  have hi : i < t.place.toList.length := by rw [R.psz]; exact (List.getElem?_eq_some_iff.mp hp).1
  obtain ⟨d, hd, e⟩ := R.tab.before h2 (i := i) (by rw [List.getElem?_map, hp, ← hk]; rfl) (List.getElem?_eq_getElem hi)
  exact ⟨d, Nat.zero_le _, hd, by rw [List.getElem?_eq_getElem hi, e]⟩
end
end Mi

set_option linter.all false
set_option maxRecDepth 100000
set_option maxHeartbeats 3200000
namespace Mi
open PySem PySem.Spec PyProof.Rows L2
section
variable {P : Program} {w : World} {A : Around} {E : Value → Shared → Prop} {s : Shared} {S : Addr} {L : List (Addr × NestedKey)} {es : Array (Int × Value)} {ep : Nat} {t : SetTable}
/-- what is stored into a set leaves the keys -/
theorem KAt.store {h h' : Heap} {k : NestedKey} {x S : Addr} {o : Obj} (r : KAt h k x) (ho : h.get? S = some o) (hd : o.data = .set es ep t) (hs : Heap.SameBut S h h') : KAt h' k x :=
  ⟨NestedIs.at (fun b ob vs n hb hc => (hs.2 b fun e => by subst e; rw [ho] at hb; cases hb; rw [hd] at hc; cases hc).trans hb) k _ r.1, r.2⟩
theorem KAt.keep {h h' : Heap} {k : NestedKey} {x : Addr} (r : KAt h k x) (hs : ∀ b o, h.get? b = some o → h'.get? b = some o) : KAt h' k x :=
  ⟨NestedIs.at (fun b ob vs n hb hc => hs b ob hb) k _ r.1, r.2⟩
/-- rows picked by their places -/
theorem pick_rows (w : World) (L : List (Addr × NestedKey)) (es : Array (Int × Value)) (hr : es.toList = krows w L) : ∀ l : List Nat, (∀ i ∈ l, i < L.length) → ∃ M, l.filterMap (es[·]?) = krows w M ∧ M = l.filterMap (L[·]?) ∧ M.map (fun p => p.2.hash w) = l.map fun i => (es.map (·.1)).getD i 0 := by
  intro l
  induction l with
  | nil => intro _; exact ⟨[], rfl, rfl, rfl⟩
  | cons i l ih =>
    intro h
    obtain ⟨M, a, b, c⟩ := ih fun j hj => h j (List.mem_cons_of_mem _ hj)
    have hi := h i List.mem_cons_self
    have e : es[i]? = some ((L[i]).2.hash w, Value.ref (L[i]).1) := by
      rw [← Array.getElem?_toList, hr, krows, List.getElem?_map, List.getElem?_eq_getElem hi]
      rfl
    refine ⟨L[i] :: M, ?_, ?_, ?_⟩
    · rw [List.filterMap_cons_some e, a]; rfl
    · rw [List.filterMap_cons_some (List.getElem?_eq_getElem hi), b]
    · rw [List.map_cons, List.map_cons, c]
      congr 1
      have : (es.map (·.1))[i]? = some ((L[i]).2.hash w) := by rw [Array.getElem?_map, e]; rfl
      simp [Array.getD_eq_getD_getElem?, this]
theorem all_places {α : Type} (L : List α) : ∀ n, n ≤ L.length → (List.range n).filterMap (L[·]?) = L.take n
  | 0, _ => rfl
  | n + 1, h => by
    rw [List.range_succ, List.filterMap_append, all_places L n (Nat.le_of_lt h), List.take_succ, List.getElem?_eq_getElem h, List.filterMap_cons_some (List.getElem?_eq_getElem h)]
    rfl
/-- the table laid anew -/
theorem lay_anew {o : Obj} (ho : s.heap.get? S = some o) (hex : o.ExactSet) (hd : o.data = .set es ep t) (hr : es.toList = krows w L) (hsz : t.place.size = es.size) (hdm : t.dummies = #[]) (hfl : es.size ≤ t.mask) (nd : (L.map (·.2)).Nodup) (keys : ∀ p ∈ L, KAt s.heap p.2 p.1) (few : L.length < 64)
    {wanted M : Nat} (hw : SetTable.sizeAbove wanted - 1 = M) (hM : MaskOk M) (hw2 : SetTable.sizeAbove wanted ≤ 128) (hn : L.length * 5 < M * 3) {Q : Unit → Shared → Prop}
    (q : ∀ h' L' es' ep' t', Heap.SameBut S s.heap h' → SetN w h' S L' es' ep' t' → L'.Perm L → Q () { s with heap := h' }) : wpAny (model P w) A (setRelay S wanted) Q E s := by
  have sz : es.size = L.length := by rw [← Array.length_toList, hr, krows_len]
  have hf : t.fits es.size = true := by
    simp only [SetTable.fits, SetTable.fill, hdm, Bool.and_eq_true, beq_iff_eq, decide_eq_true_eq, Array.size_empty]
    omega
  obtain ⟨t', ord, e, hp, T, em, _, _, _⟩ := relaid_ok t (hs := es.map (·.1)) (wanted := wanted) hw hM (by rw [Array.size_map, sz]; omega)
  rw [Array.size_map, sz] at hp
  obtain ⟨N, r1, r2, r3⟩ := pick_rows w L es hr ord.toList fun i hi => List.mem_range.mp (hp.mem_iff.mp hi)
  have pm : N.Perm L := by
    have h1 := hp.filterMap (L[·]?)
    rw [all_places L _ (Nat.le_refl _), List.take_length, ← r2] at h1
    exact h1
  have r1' : (ord.filterMap (es[·]?)).toList = krows w N := by simpa using r1
  have hs2 : (ord.filterMap (es[·]?)).size = es.size := by rw [← Array.length_toList, r1', krows_len, pm.length_eq, sz]
  rw [← r3] at T
  rw [setRelay_eq]
  refine wpAny_bind (wpAny_setState_of ho hd hf ?_)
  dsimp only
  refine wp_if_neg (by rw [sizeLine_eq]; omega) ?_
  try refine wpAny_bind (wpAny_pure ?_)
  rw [e]
  dsimp only
  refine wpAny_bind (wp_if_neg (by rw [hs2]; simp) ?_)
  try refine wpAny_bind (wpAny_pure ?_)
  refine wpAny_pure ?_
  dsimp only
  refine wpAny_storeSet_of ho hd ?_ (by rw [hs2, sz, sizeLine_eq]; omega)
  have sb : Heap.SameBut S s.heap (s.heap.update S (Obj.putSet (ord.filterMap (es[·]?)) t')) := Heap.SameBut.update ..
  exact q _ N _ (ep + 1) t' sb ⟨⟨_, store_at ho hd, ⟨hex.1, hex.2.1, hex.2.2⟩, rfl⟩, r1', T, (pm.map (·.2)).nodup_iff.mpr nd, fun p hp => (keys p (pm.mem_iff.mp hp)).store ho hd sb, by rw [pm.length_eq, em]; exact hn, by rw [pm.length_eq]; exact few⟩ pm
end
end Mi

set_option linter.all false
set_option maxRecDepth 100000
set_option maxHeartbeats 3200000
namespace Mi
open PySem PySem.Spec PyProof.Rows L2
section
variable {P : Program} {w : World} {A : Around} {E : Value → Shared → Prop} {s : Shared} {S : Addr} {L : List (Addr × NestedKey)} {es : Array (Int × Value)} {ep : Nat} {t : SetTable}
theorem put_in {α : Type} (L : List α) (p : Nat) (x : α) : (L.take p ++ x :: L.drop p).Perm (x :: L) := by
  have h : (L.take p ++ x :: L.drop p).Perm (x :: (L.take p ++ L.drop p)) := List.perm_middle
  rwa [List.take_append_drop] at h
/-- one key added -/
theorem add_key (R : SetN w s.heap S L es ep t) {x : Addr} {k : NestedKey} (hx : KAt s.heap k x) (hu : A.units + 8 < cLine) (few : L.length + 1 < 64) {Q : Bool → Shared → Prop}
    (q : ∀ b h' L' es' ep' t', Heap.SameBut S s.heap h' → SetN w h' S L' es' ep' t' → (k ∈ L.map (·.2) → L' = L) → (k ∉ L.map (·.2) → L'.Perm ((x, k) :: L)) → Q b { s with heap := h' }) :
    wpAny (model P w) A (setAddHashed S (.ref x) (k.hash w)) Q E s := by
  obtain ⟨o, ho, hex, hd⟩ := R.ob
  have sz := R.sz
  have room := R.room
  unfold setAddHashed
  rw [show (100000 : Nat) = 99999 + 1 from rfl, setAddHashedIn_succ]
  refine wpAny_holding (wpAny_bind (wpAny_setState_of ho hd R.fits ?_))
  dsimp only
  refine wp_if_neg (by simp [byScan, Value.scannable]) ?_
  try refine wpAny_bind (wpAny_pure ?_)
  refine wpAny_bind (seek_add R hx hu (fun hm => ?_) fun K hm hK hb => ?_)
  · exact wpAny_pure (q false s.heap L es ep t (Heap.SameBut.refl S s.heap) R (fun _ => rfl) fun z => absurd hm z)
  · dsimp only
    refine wpAny_bind (wpAny_setState_of ho hd R.fits ?_)
    dsimp only
    obtain ⟨q1, q2, q3, q4, q5, q6, q7, q8, q9⟩ := R.tab.put hK hb
    generalize hpt : t.put (way t.mask (k.hash w) K) = pt at q1 q3 q4 q5 q6 q7 q8 q9 ⊢
    obtain ⟨t1, p⟩ := pt
    dsimp only at q1 q3 q4 q5 q6 q7 q8 q9 ⊢
    subst q1
    have hin : (SetTable.insertAt es (SetTable.below t.place (way t.mask (k.hash w) K)) (k.hash w, Value.ref x)).toList = krows w (L.take (SetTable.below t.place (way t.mask (k.hash w) K)) ++ (x, k) :: L.drop (SetTable.below t.place (way t.mask (k.hash w) K))) := by
      rw [SetTable.toList_insertAt, R.rows]
      unfold krows
      rw [List.map_append, List.map_cons, List.map_take, List.map_drop]
    generalize hpp : SetTable.below t.place (way t.mask (k.hash w) K) = p at q2 q3 hin ⊢
    have pm := put_in L p (x, k)
    have ln : (L.take p ++ (x, k) :: L.drop p).length = L.length + 1 := pm.length_eq
    have hh : (L.take p ++ (x, k) :: L.drop p).map (fun p => p.2.hash w) = (L.map fun p => p.2.hash w).take p ++ k.hash w :: (L.map fun p => p.2.hash w).drop p := by
      rw [List.map_append, List.map_cons, List.map_take, List.map_drop]
    rw [← hh] at q3
    have nd1 : ((L.take p ++ (x, k) :: L.drop p).map (·.2)).Nodup := (pm.map (·.2)).nodup_iff.mpr (by rw [List.map_cons]; exact List.nodup_cons.mpr ⟨hm, R.nd⟩)
    have hes : (SetTable.insertAt es p (k.hash w, Value.ref x)).size = L.length + 1 := by rw [← Array.length_toList, hin, krows_len, ln]
    generalize SetTable.insertAt es p (k.hash w, Value.ref x) = es1 at hin hes ⊢
    generalize L.take p ++ (x, k) :: L.drop p = L1 at pm ln q3 nd1 hin
    have rest : ∀ t2 : SetTable, t2.mask = t.mask → t2.tooFull = t1.tooFull → TabOk t2 (L1.map fun p => p.2.hash w) → wpAny (model P w) A (do
        storeSet S es1 t2
        if (!false && t2.tooFull) = true then do
          setRelay S (SetTable.grown (es.size + 1))
          pure true
        else pure true) Q E s := by
      intro t2 m2 f2 T2
      refine wpAny_bind (wpAny_storeSet_of ho hd ?_ (by rw [hes, sizeLine_eq]; omega))
      have sb : Heap.SameBut S s.heap (s.heap.update S (Obj.putSet es1 t2)) := Heap.SameBut.update ..
      have ho1 := store_at (es' := es1) (t' := t2) ho hd
      generalize s.heap.update S (Obj.putSet es1 t2) = h1 at sb ho1 ⊢
      have keys1 : ∀ p ∈ L1, KAt h1 p.2 p.1 := fun p hp => (List.mem_cons.mp (pm.mem_iff.mp hp)).elim (fun e => by rw [e]; exact hx.store ho hd sb) fun hp => (R.keys p hp).store ho hd sb
      have hfull : t1.tooFull = decide ((L.length + 1) * 5 ≥ t.mask * 3) := by
        unfold SetTable.tooFull
        rw [q9, q4, List.length_map]
      by_cases hf : t1.tooFull = true
      · refine wp_if_pos (by simp [f2, hf]) (wpAny_bind ?_)
        rw [hfull, decide_eq_true_eq] at hf
        have hsz1 : t2.place.size = es1.size := by
          have h := T2.sz
          rw [List.length_map, ln] at h
          rw [h, hes]
        have two : (t.mask = 7 ∧ L.length = 4) ∨ (t.mask = 31 ∧ L.length = 18) := by
          rcases R.tab.mok with e | e | e <;> rw [e] at hf room <;> omega
        have go : ∀ M, SetTable.sizeAbove (SetTable.grown (L.length + 1)) - 1 = M → MaskOk M → SetTable.sizeAbove (SetTable.grown (L.length + 1)) ≤ 128 → (L.length + 1) * 5 < M * 3 →
            wpAny (model P w) A (setRelay S (SetTable.grown (L.length + 1))) (fun _ s' => wpAny (model P w) A (pure true) Q E s') E { s with heap := h1 } := fun M a1 a2 a3 a4 => by
          refine lay_anew (s := { s with heap := h1 }) ho1 ⟨hex.1, hex.2.1, hex.2.2⟩ rfl hin hsz1 T2.dm (by rw [hes, m2]; rcases two with ⟨e, e2⟩ | ⟨e, e2⟩ <;> omega) nd1 keys1 (by rw [ln]; exact few) a1 a2 a3 (by rw [ln]; exact a4) ?_
          intro h2 L2 es2 ep2 t3 sb2 R2 pm2
          exact wpAny_pure (q true h2 L2 es2 ep2 t3 (sb.trans sb2) R2 (fun z => absurd z hm) fun _ => pm2.trans pm)
        rw [sz]
        rcases two with ⟨_, e2⟩ | ⟨_, e2⟩
        · exact go 31 (by rw [e2, size_20]) (.inr (.inl rfl)) (by rw [e2, size_20]; decide) (by omega)
        · exact go 127 (by rw [e2, size_76]) (.inr (.inr rfl)) (by rw [e2, size_76]; decide) (by omega)
      · refine wp_if_neg (by simp [f2, hf]) ?_
        rw [hfull, decide_eq_true_eq] at hf
        exact wpAny_pure (q true h1 L1 es1 (ep + 1) t2 sb ⟨⟨_, ho1, ⟨hex.1, hex.2.1, hex.2.2⟩, rfl⟩, hin, T2, nd1, keys1, by rw [ln, m2]; omega, by rw [ln]; exact few⟩ (fun z => absurd z hm) fun _ => pm)
    have both : ∀ b : Bool, wpAny (model P w) A (do
        storeSet S es1 (if b = true then t1 else { t1 with plain := false })
        if (!false && (if b = true then t1 else { t1 with plain := false }).tooFull) = true then do
          setRelay S (SetTable.grown (es.size + 1))
          pure true
        else pure true) Q E s := fun b => by
      cases b
      · exact rest { t1 with plain := false } q4 rfl ⟨q3.1, q3.2, q3.3, q3.4, q3.5, q3.6⟩
      · exact rest t1 q4 rfl q3
    by_cases hp : t1.plain = true
    · exact wp_if_pos hp (wpAny_bind (by_val 8 k _ _ hx.1 hx.2 fun b => both b))
    · exact wp_if_neg hp (wpAny_bind (wpAny_pure (both true)))
end
end Mi

set_option linter.all false
set_option maxRecDepth 100000
set_option maxHeartbeats 3200000
namespace Mi
open PySem PySem.Spec PyProof.Rows L2
section
variable {P : Program} {w : World} {A : Around} {E : Value → Shared → Prop} {s : Shared} {S : Addr}
/-- the set at S has got the first i of ks -/
def KSet (w : World) (h : Heap) (S : Addr) (ks : List (Addr × NestedKey)) (i : Nat) : Prop :=
  ∃ L es ep t, SetN w h S L es ep t ∧ (∀ p ∈ L, p ∈ ks) ∧ Kern ((ks.take i).map (·.2)) (L.map (·.2))
theorem KSet.keep {h h' : Heap} {ks : List (Addr × NestedKey)} {i : Nat} (r : KSet w h S ks i) (hS : ∀ o, h.get? S = some o → h'.get? S = some o) (hk : ∀ p ∈ ks, KAt h' p.2 p.1) : KSet w h' S ks i := by
  obtain ⟨L, es, ep, t, R, sub, kn⟩ := r
  obtain ⟨o, ho, e⟩ := R.ob
  exact ⟨L, es, ep, t, ⟨⟨o, hS o ho, e⟩, R.rows, R.tab, R.nd, fun p hp => hk p (sub p hp), R.room, R.few⟩, sub, kn⟩
theorem kset_new {h : Heap} {ks : List (Addr × NestedKey)} (e : h.get? S = some (setOb w)) : KSet w h S ks 0 :=
  ⟨[], #[], 0, _, ⟨⟨_, e, ⟨rfl, rfl, rfl⟩, rfl⟩, rfl, ⟨List.Pairwise.nil, rfl, rfl, .inl rfl, fun x hx => (by cases hx), fun i h j hi => (by simp at hi)⟩, List.nodup_nil, fun p hp => (by cases hp), by show 0 * 5 < 7 * 3; decide, by show 0 < 64; decide⟩, fun p hp => (by cases hp), ⟨List.nodup_nil, fun x => by simp⟩⟩
theorem loop_key {I : Addr} {fp wr : List Addr} {G : Array GenState → Array GenState → Prop} {n : Nat} {Pv : Nat → Value → Prop} {St : Nat → Shared → Prop} {R : Result → Shared → Prop} (W : WalksS P w A.in1 I fp wr G n Pv St) (hS : S ∉ fp) (ks : List (Addr × NestedKey)) (hn : ks.length = n) (few : n < 60)
    (hval : ∀ i v, Pv i v → ∃ p, ks[i]? = some p ∧ v = .ref p.1) (h0 : Heap) (hk : ∀ p ∈ ks, KAt h0 p.2 p.1) (hS0 : h0.get? S = none) (hw0 : ∀ b ∈ wr, h0.get? b = none) (hu : A.in1.units + 8 < cLine) : ∀ (k i : Nat) (s : Shared), i + k = n → St i s → (∀ b o, h0.get? b = some o → s.heap.get? b = some o) → KSet w s.heap S ks i →
      (∀ s', Moved (S :: wr) G s s' → (∀ b o, h0.get? b = some o → s'.heap.get? b = some o) → KSet w s'.heap S ks n → R (.ok (.ret .none)) s') → codeAny (model P w) A (.builtin "set.update.loop" ⟨[.ref S, .ref I], []⟩) R s := by
  have hw : S ∉ wr := fun h => hS (W.sub _ h)
  have mv : ∀ b ∈ wr, b ∈ S :: wr := fun b hb => List.mem_cons_of_mem _ hb
  have kp : ∀ {s s' : Shared}, Moved wr G s s' → (∀ b o, h0.get? b = some o → s.heap.get? b = some o) → ∀ b o, h0.get? b = some o → s'.heap.get? b = some o := fun hm hb b o e => hm.heap b o (fun m => by rw [hw0 b m] at e; cases e) (hb b o e)
  intro k
  induction k with
  | zero =>
    intro i s hi hst hb hT hR
    obtain rfl : i = n := hi
    refine codeAny_builtin PyProof.Rows.F.entry_set_update_loop ?_
    rw [Around.under_plainId PyProof.Rows.F.plain_set_update_loop _]
    exact wpAny_bind (W.done s _ _ hst fun t hm => wpAny_pure (hR t (hm.mono mv) (kp hm hb) (hT.keep (fun o e => hm.heap S o hw e) fun p hp => (hk p hp).keep (kp hm hb))))
  | succ k ih =>
    intro i s hi hst hb hT hR
    refine codeAny_builtin PyProof.Rows.F.entry_set_update_loop ?_
    rw [Around.under_plainId PyProof.Rows.F.plain_set_update_loop _]
    refine wpAny_bind (W.item i s _ _ (by omega) hst fun v t hv hst' hm => ?_)
    obtain ⟨p, hp, rfl⟩ := hval i v hv
    have hb1 := kp hm hb
    obtain ⟨L, es, ep, tb, R1, sub, kn⟩ := hT.keep (fun o e => hm.heap S o hw e) fun p hp => (hk p hp).keep hb1
    have hx := (hk p (List.mem_of_getElem? hp)).keep hb1
    refine wpAny_bind (wpAny_holding ?_)
    unfold setAdd
    refine wpAny_holding (wpAny_bind ((nestedKind P w).pyHash (k := p.2) hu hx ?_))
    have ll := kn.le
    rw [List.length_map, List.length_map, List.length_take] at ll
    refine add_key (s := { t with toks := t.toks + p.2.draws }) R1 hx hu (by omega) fun b h' L' es' ep' t' sb R2 c1 c2 => ?_
    have hb2 : ∀ b o, h0.get? b = some o → h'.get? b = some o := fun b o e => (sb.2 b fun z => by rw [z, hS0] at e; cases e).trans (hb1 b o e)
    have T2 : KSet w h' S ks (i + 1) := by
      have e1 : (ks.take (i + 1)).map (·.2) = (ks.take i).map (·.2) ++ [p.2] := by rw [take_step hp, List.map_append]; rfl
      by_cases c : p.2 ∈ L.map (·.2)
      · rw [c1 c] at R2
        exact ⟨L, es', ep', t', R2, sub, by rw [e1]; exact kn.old ((kn.2 _).mp c)⟩
      · have pm := c2 c
        refine ⟨L', es', ep', t', R2, fun r hr => (List.mem_cons.mp (pm.mem_iff.mp hr)).elim (fun e => by rw [e]; exact List.mem_of_getElem? hp) (sub r), ?_⟩
        rw [e1]
        have kn2 := kn.new (fun m => c ((kn.2 _).mpr m))
        have pm2 := pm.map (·.2)
        exact ⟨pm2.nodup_iff.mpr kn2.1, fun x => pm2.mem_iff.trans (kn2.2 x)⟩
    refine wpAny_pure ⟨plainId_quiet PyProof.Rows.F.plain_set_update_loop _, ih (i + 1) _ (by omega) (W.frame _ t _ _ hst' (Nat.le_add_right _ _) fun b hm2 o e => (sb.2 b fun z => hS (z ▸ hm2)).trans e) hb2 T2 fun s2 hm2 hb3 hT4 => ?_⟩
    exact hR s2 (Moved.trans W.gtrans ((hm.mono mv).then_heap (Nat.le_add_right _ _) fun b o hb2 e => (sb.2 b fun z => hb2 (z ▸ List.mem_cons_self)).trans e) hm2) hb3 hT4
theorem none_at {h : Heap} {b : Addr} (hb : h.objs.size ≤ b) : h.get? b = none := by
  cases q : h.get? b with
  | none => rfl
  | some o => exact absurd (Nat.lt_of_lt_of_le (Heap.lt_size q) hb) (Nat.lt_irrefl _)
theorem set_key {v : Value} {ty : String} {ks : List (Addr × NestedKey)} {Q : Value → Shared → Prop} (hh : A.handled = none) (hu : A.units + 20 < cLine) (ht : (∀ h : Heap, (∀ b o, s.heap.get? b = some o → h.get? b = some o) → typeOf v = pure (.type ty) ∨ Shared.TypeIs { s with heap := h } v ty)) (h1 : isSubtype (.type ty) (.type "set") = pure false) (h2 : isSubtype (.type ty) (.type "frozenset") = pure false) (h3 : ty ≠ "dict")
    (hlim : ks.length < 60) (hk : ∀ p ∈ ks, KAt s.heap p.2 p.1)
    (hit : ∀ (A' : Around) (Q' : Value → Shared → Prop), A'.handled = none → (∀ (o : Obj) (fp wr : List Addr) (Pv : Nat → Value → Prop) (St : Nat → Heap → Prop), (∀ A2 : Around, A2.handled = none → Walks P w A2 (s.heap.objs.size + 1) fp wr ks.length Pv St) → (∀ i v, Pv i v → ∃ p, ks[i]? = some p ∧ v = .ref p.1) → s.heap.objs.size ∉ fp → (∀ b ∈ wr, s.heap.objs.size < b) →
      St 0 ((s.heap.push (setOb w)).push o) → Q' (.ref (s.heap.objs.size + 1)) { s with heap := (s.heap.push (setOb w)).push o }) → wpAny (model P w) A' (pyIter v) Q' E { s with heap := s.heap.push (setOb w) })
    (h : ∀ (h' : Heap) (tk : Nat), KSet w h' s.heap.objs.size ks ks.length → (∀ b o, s.heap.get? b = some o → h'.get? b = some o) → Q (.ref s.heap.objs.size) { s with heap := h', toks := tk }) :
    wpAny (model P w) A (call (.type "set") [v]) Q E s := by
  refine set_make ht h1 h2 h3 fun A' e1 e2 => hit A' _ (e1.trans hh) fun o fp wr Pv St W hv hf hw hst => wpAny_runValue ?_
  refine loop_key (W A'.in1 (by simp [e1, hh])).toS hf ks rfl hlim hv s.heap hk (none_at (Nat.le_refl _)) (fun b hb => none_at (Nat.le_of_lt (hw b hb))) (by rw [Around.in1_units]; omega) ks.length 0 _ (Nat.zero_add _) hst (fun b o e => Heap.get?_push_of_some _ (Heap.get?_push_of_some _ e)) (kset_new (Heap.get?_push_of_some _ (Heap.get?_push_size _ rfl))) fun t hm hb hT => ?_
  obtain ⟨h', g', d', tk, os⟩ := t
  have e1 : g' = s.gens := hm.gens
  have e2 : d' = s.drawn := hm.drawn
  have e3 : os = s.os := hm.os
  subst e1 e2 e3
  exact h h' tk hT hb
end
end Mi

set_option linter.all false
set_option maxRecDepth 100000
set_option maxHeartbeats 3200000
namespace Mi
open PySem PySem.Spec PyProof.Rows L2
/-! ## the rule of len(set(xs)) -/
theorem dedup_kern {K : Type} [DecidableEq K] (f : D → K) : ∀ ds : List D, (∀ a ∈ ds, ∀ b ∈ ds, eqD a b = decide (f a = f b)) → (∀ x ∈ dedup ds, x ∈ ds) ∧ Kern (ds.map f) ((dedup ds).map f)
  | [], _ => ⟨fun x h => h, List.nodup_nil, fun x => Iff.rfl⟩
  | d :: ds, h => by
    obtain ⟨sub, nd, mem⟩ := dedup_kern f ds fun a ha b hb => h a (List.mem_cons_of_mem _ ha) b (List.mem_cons_of_mem _ hb)
    have any_iff : ((dedup ds).any fun z => eqD z d) = true ↔ f d ∈ (dedup ds).map f := by
      rw [List.any_eq_true, List.mem_map]
      exact ⟨fun ⟨z, hz, e⟩ => ⟨z, hz, by rw [h z (List.mem_cons_of_mem _ (sub z hz)) d List.mem_cons_self, decide_eq_true_eq] at e; exact e⟩,
        fun ⟨z, hz, e⟩ => ⟨z, hz, by rw [h z (List.mem_cons_of_mem _ (sub z hz)) d List.mem_cons_self, decide_eq_true_eq]; exact e⟩⟩
    simp only [dedup]
    by_cases c : ((dedup ds).any fun z => eqD z d) = true
    · rw [if_pos c]
      refine ⟨fun x hx => List.mem_cons_of_mem _ (sub x hx), nd, fun x => ?_⟩
      rw [mem, List.map_cons, List.mem_cons]
      exact ⟨.inr, fun z => z.elim (fun e => e ▸ (mem _).mp (any_iff.mp c)) id⟩
    · rw [if_neg c]
      refine ⟨fun x hx => (List.mem_cons.mp hx).elim (fun e => e ▸ List.mem_cons_self) fun hx => List.mem_cons_of_mem _ (sub x hx), ?_, fun x => ?_⟩
      · rw [List.map_cons]
        exact List.nodup_cons.mpr ⟨fun m => c (any_iff.mpr m), nd⟩
      · rw [List.map_cons, List.map_cons, List.mem_cons, List.mem_cons, mem]
theorem dedup_len {K : Type} [DecidableEq K] (f : D → K) (ds : List D) (h : ∀ a ∈ ds, ∀ b ∈ ds, eqD a b = decide (f a = f b)) {l L : List K} (e : l = ds.map f) (k : Kern l L) : (dedup ds).length = L.length := by
  have := (dedup_kern f ds h).2.len (e ▸ k)
  rwa [List.length_map] at this
/-- set(x) is made and has n items -/
def SetLen (X : Cx) (pins : List (Addr × Obj)) (σ : L2.St) (s : Shared) (H : Hp) (v : Value) (n : Nat) : Prop := ∀ (Q : Value → Shared → Prop),
  (∀ h' tk S o es ep t, h'.get? S = some o → o.ExactSet → o.data = .set es ep t → t.fits es.size = true → es.size = n → n < 4096 → (∀ b o, s.heap.get? b = some o → h'.get? b = some o) → Q (.ref S) { s with heap := h', toks := tk }) →
    wpAny (model X.prog X.w) X.A (call (.type "set") [v]) Q X.xe s
def tSetLen (X : Cx) (ta : TE) : TE := fun σ H Q => ta σ H fun x H1 => ∃ n : Nat, (∀ pins s v, Inv X pins σ H1 s → RelV x v → SetLen X pins σ s H1 v n) ∧ Q (.int n) H1
section
variable {X : Cx} {B : Bx} {pos : Pos}
theorem pe_setlen {a : Expr} {ta : TE} {p p2 q : Pos} (hg : Gl X "len") (hm : X.mg "len" = none) (hg2 : Gl X "set") (hm2 : X.mg "set" = none) (ha : PE X a ta)
    (na : starEach [a] X.env = (false, eval a X.env) :: starEach [] X.env) (nb : starEach [Expr.Call (.Name "set" p2) [a] [] q] X.env = (false, eval (Expr.Call (.Name "set" p2) [a] [] q) X.env) :: starEach [] X.env) :
    PE X (.Call (.Name "len" p) [.Call (.Name "set" p2) [a] [] q] [] pos) (tSetLen X ta) := by
  refine ⟨fun pins s σ H Q I h => ?_⟩
  refine Call_ (ld_blt I hg hm boot_len ?_)
  refine PyProof.Rows.callWith_builtin1 (PyProof.Rows.args_cons ?_ nb) nb rfl
  refine Call_ (ld_blt I hg2 hm2 boot_set ?_)
  refine PyProof.Rows.callWith_type1 (PyProof.Rows.args_cons (thn (ha.run pins s σ H _ I h) fun v s1 ⟨x, H1, I1, r1, n, hs, q1⟩ => PyProof.Rows.args_nil ?_) na) na rfl
  refine hs pins s1 v I1 r1 _ fun h' tk S o es ep t ho hex hd hf hn hl hk => ?_
  refine PyProof.Rows.args_nil ?_
  have I2 : Inv X pins σ H1 { s1 with heap := h', toks := tk } := I1.kept fun b o e => hk b o e
  exact call_len_set ho hex hd hf (by rw [hn]; omega) ⟨.int n, H1, I2.tok _, ⟨_, by rw [hn]⟩, q1⟩
theorem set_key_list {P : Program} {w : World} {A : Around} {E : Value → Shared → Prop} {s : Shared} {l : Addr} {items : Array Value} {ks : List (Addr × NestedKey)} {Q : Value → Shared → Prop} (hh : A.handled = none) (hu : A.units + 20 < cLine) (hl : s.heap.IsList l items) (hi : items.toList = ks.map fun p => Value.ref p.1) (hlim : ks.length < 60) (hk : ∀ p ∈ ks, KAt s.heap p.2 p.1)
    (h : ∀ (h' : Heap) (tk : Nat), KSet w h' s.heap.objs.size ks ks.length → (∀ b o, s.heap.get? b = some o → h'.get? b = some o) → Q (.ref s.heap.objs.size) { s with heap := h', toks := tk }) :
    wpAny (model P w) A (call (.type "set") [.ref l]) Q E s := by
  have sz : items.size = ks.length := by rw [← Array.length_toList, hi, List.length_map]
  have hl0 := hl
  obtain ⟨o, ho, hc, n, hd⟩ := hl0
  have hlt := Heap.lt_size ho
  refine set_key hh hu (fun h k => .inr ⟨o, k _ _ ho, hc⟩) F.sub_list_set F.sub_list_frozenset (by decide) hlim hk (fun A' Q' hA q => ?_) h
  refine wpAny_pyIter_list (hl.push _) ?_
  have ez : (s.heap.push (setOb w)).objs.size = s.heap.objs.size + 1 := Heap.size_push ..
  have hn1 : l ≠ s.heap.objs.size + 1 := Nat.ne_of_lt (Nat.lt_succ_of_lt hlt)
  have hn2 : s.heap.objs.size ∉ [s.heap.objs.size + 1, l] := fun m => (List.mem_cons.mp m).elim (fun z => absurd z (Nat.ne_of_lt (Nat.lt_succ_self _))) fun m => absurd (List.mem_singleton.mp m) (Nat.ne_of_gt hlt)
  rw [ez]
  refine q { cls := .type "list_iterator", data := .fields #[.ref l, .int 0 0] } [s.heap.objs.size + 1, l] [s.heap.objs.size + 1] _ _ (fun A2 hA2 => sz ▸ Walks.list hA2 _ l hn1 items) (fun i v hv => ?_) hn2 (by simp) ⟨⟨{ cls := .type "list_iterator", data := .fields #[.ref l, .int 0 0] }, ?_, rfl, rfl⟩, (hl.push _).push _⟩
  · have e : items.toList[i]? = some v := by rw [Array.getElem?_toList]; exact hv
    rw [hi, List.getElem?_map] at e
    cases hq : ks[i]? with
    | none => rw [hq] at e; cases e
    | some p => rw [hq] at e; exact ⟨p, rfl, (Option.some.inj e).symm⟩
  · rw [← ez]; exact Heap.get?_push_size _ rfl
theorem set_key_tuple {P : Program} {w : World} {A : Around} {E : Value → Shared → Prop} {s : Shared} {l : Addr} {items : Array Value} {ks : List (Addr × NestedKey)} {Q : Value → Shared → Prop} (hh : A.handled = none) (hu : A.units + 20 < cLine) (hl : s.heap.IsTuple l items) (hi : items.toList = ks.map fun p => Value.ref p.1) (hlim : ks.length < 60) (hk : ∀ p ∈ ks, KAt s.heap p.2 p.1)
    (h : ∀ (h' : Heap) (tk : Nat), KSet w h' s.heap.objs.size ks ks.length → (∀ b o, s.heap.get? b = some o → h'.get? b = some o) → Q (.ref s.heap.objs.size) { s with heap := h', toks := tk }) :
    wpAny (model P w) A (call (.type "set") [.ref l]) Q E s := by
  have sz : items.size = ks.length := by rw [← Array.length_toList, hi, List.length_map]
  have hl0 := hl
  obtain ⟨o, ho, hc, n, hd⟩ := hl0
  have hlt := Heap.lt_size ho
  refine set_key hh hu (fun h k => .inr ⟨o, k _ _ ho, hc⟩) PySem.F.sub_tuple_set PySem.F.sub_tuple_frozenset (by decide) hlim hk (fun A' Q' hA q => ?_) h
  refine wpAny_pyIter_tuple (hl.push _) ?_
  have ez : (s.heap.push (setOb w)).objs.size = s.heap.objs.size + 1 := Heap.size_push ..
  have hn1 : l ≠ s.heap.objs.size + 1 := Nat.ne_of_lt (Nat.lt_succ_of_lt hlt)
  have hn2 : s.heap.objs.size ∉ [s.heap.objs.size + 1, l] := fun m => (List.mem_cons.mp m).elim (fun z => absurd z (Nat.ne_of_lt (Nat.lt_succ_self _))) fun m => absurd (List.mem_singleton.mp m) (Nat.ne_of_gt hlt)
  rw [ez]
  refine q { cls := .type "tuple_iterator", data := .fields #[.ref l, .int 0 0] } [s.heap.objs.size + 1, l] [s.heap.objs.size + 1] _ _ (fun A2 hA2 => sz ▸ Walks.tuple hA2 _ l hn1 items) (fun i v hv => ?_) hn2 (by simp) ⟨⟨{ cls := .type "tuple_iterator", data := .fields #[.ref l, .int 0 0] }, ?_, rfl, rfl⟩, (hl.push _).push _⟩
  · have e : items.toList[i]? = some v := by rw [Array.getElem?_toList]; exact hv
    rw [hi, List.getElem?_map] at e
    cases hq : ks[i]? with
    | none => rw [hq] at e; cases e
    | some p => rw [hq] at e; exact ⟨p, rfl, (Option.some.inj e).symm⟩
  · rw [← ez]; exact Heap.get?_push_size _ rfl
theorem keys_list {pins : List (Addr × Obj)} {σ : L2.St} {s : Shared} {W : Wo} (K : X.K = B.R.K) (I : Inv X pins σ W.H s) : ∀ {ds : List D} {vs : List V} {its : List Value}, ds.all isKey = true → VRs B.R W ds vs → Vals vs its →
    ∃ ks : List (Addr × NestedKey), its = ks.map (fun p => Value.ref p.1) ∧ ks.map (·.2) = ds.map toNK ∧ ∀ p ∈ ks, KAt s.heap p.2 p.1
  | _, _, _, _, .nil, .nil => ⟨[], rfl, rfl, fun _ h => by cases h⟩
  | d :: ds, _, _, h, .cons r rs, .cons q qs => by
    rw [List.all_cons, Bool.and_eq_true] at h
    obtain ⟨a, rfl⟩ := key_ref h.1 r
    obtain ⟨ks, e1, e2, e3⟩ := keys_list K I h.2 rs qs
    cases q
    refine ⟨(a, toNK d) :: ks, by rw [e1]; rfl, by rw [List.map_cons, List.map_cons, e2], fun p hp => ?_⟩
    rcases List.mem_cons.mp hp with e | hp
    · subst e; exact key_is K I h.1 r
    · exact e3 p hp
theorem all_tx : ∀ {ds : List D}, ds.all isTx = true → ∃ ss : List (List Nat), ds = ss.map .str
  | [], _ => ⟨[], rfl⟩
  | d :: ds, h => by
    rw [List.all_cons, Bool.and_eq_true] at h
    obtain ⟨ss, rfl⟩ := all_tx h.2
    cases d with
    | str z => exact ⟨z :: ss, rfl⟩
    | _ => cases h.1
def txD : D → Str
  | .str z => tx z
  | _ => tx []
theorem txD_eq (ss : List (List Nat)) : ∀ a ∈ ss.map D.str, ∀ b ∈ ss.map D.str, eqD a b = decide (txD a = txD b) := fun a ha b hb => by
  obtain ⟨y, _, rfl⟩ := List.mem_map.mp ha
  obtain ⟨z, _, rfl⟩ := List.mem_map.mp hb
  simp only [eqD]
  show (y == z) = decide (tx y = tx z)
  by_cases e : y = z
  · subst e; simp
  · rw [decide_eq_false (fun q => e (tx_inj q))]
    simpa using e
theorem len_of_txt {h' : Heap} {S : Addr} {xs : List Str} {n : Nat} {P : Program} {w : World} (T : TxtSet P w h' S xs) (hn : ∀ L, Kern xs L → n = L.length) : ∃ o es ep t, h'.get? S = some o ∧ o.ExactSet ∧ o.data = .set es ep t ∧ t.fits es.size = true ∧ es.size = n ∧ n < 4096 := by
  obtain ⟨L, kn, o, es, ep, t, ho, hex, hd, _, _, hb, hf, e⟩ := T
  rw [hn L kn]
  exact ⟨o, es, ep, t, ho, hex, hd, hf, e, by rw [← e]; exact hb⟩
theorem len_of_key (s : Shared) {h' : Heap} {S : Addr} {ks : List (Addr × NestedKey)} {n : Nat} {w : World} (T : KSet w h' S ks ks.length) (hn : ∀ L, Kern (ks.map (·.2)) L → n = L.length) : ∃ o es ep t, h'.get? S = some o ∧ o.ExactSet ∧ o.data = .set es ep t ∧ t.fits es.size = true ∧ es.size = n ∧ n < 4096 := by
  obtain ⟨L, es, ep, t, R, sub, kn⟩ := T
  rw [List.take_length] at kn
  obtain ⟨o, ho, hex, hd⟩ := R.ob
  have e := hn _ kn
  rw [List.length_map] at e
  have := R.few
  exact ⟨o, es, ep, t, ho, hex, hd, SetN.fits (s := { s with heap := h' }) R, (SetN.sz (s := { s with heap := h' }) R).trans e.symm, by omega⟩
theorem txs_of {R : Wr} {W : Wo} : ∀ {ss : List (List Nat)} {vs : List V}, VRs R W (ss.map .str) vs → vs = (ss.map tx).map V.str
  | [], _, .nil => rfl
  | z :: ss, _, .cons r rs => by
    cases r
    rw [txs_of rs]
    rfl
/-- len(set(x)) -/
theorem s_setlen (x : XOk X B) {a : Expr} {ea : E} {p p2 q : Pos} (hg : Gl X "len") (hm : X.mg "len" = none) (hg2 : Gl X "set") (hm2 : X.mg "set" = none) (ha : PE X a (tE B ea))
    (na : starEach [a] X.env = (false, eval a X.env) :: starEach [] X.env) (nb : starEach [Expr.Call (.Name "set" p2) [a] [] q] X.env = (false, eval (Expr.Call (.Name "set" p2) [a] [] q) X.env) :: starEach [] X.env) :
    PE X (.Call (.Name "len" p) [.Call (.Name "set" p2) [a] [] q] [] pos) (tE B (.bi .setlen (.cons ea .nil))) :=
  (pe_setlen hg hm hg2 hm2 ha na nb).impW fun σ H Q ⟨W, σd, h, e, hr, wp⟩ => by
    subst e
    simp only [wpE, wpEs] at wp
    have K : X.K = B.R.K := x.K
    refine step1 x hr wp fun d1 h1 W1 v1 wp l1 hr1 r1 => ?_
    obtain ⟨r, er, qq⟩ := wp
    have fin : ∀ n : Nat, r = (.int n, h1) → (∀ pins s v, Inv X pins σ W1.H s → RelV v1 v → SetLen X pins σ s W1.H v n) → ∃ n : Nat, (∀ pins s v, Inv X pins σ W1.H s → RelV v1 v → SetLen X pins σ s W1.H v n) ∧ Q (.int n) W1.H := fun n e hs => by
      subst e
      exact ⟨n, hs, (qq.le l1).here hr1.hr (.int _)⟩
    have hu : X.A.units + 20 < cLine := by have := Room.u x; omega
    have seq : ∀ ds, seqOf h1 d1 = some ds → ((ds.all isTx && decide ((dedup ds).length < 60)) || (decide (ds.length < 60) && ds.all isKey)) = true → ∀ pins s v, Inv X pins σ W1.H s → RelV v1 v → SetLen X pins σ s W1.H v (dedup ds).length := fun ds hs hd pins s v I rv Q k => by
      obtain ⟨a, vs, rfl, hz, rs⟩ := seq_at x hr1.hr r1 hs
      have ev : v = .ref a := rv
      subst ev
      rw [Bool.or_eq_true, Bool.and_eq_true, Bool.and_eq_true, decide_eq_true_eq, decide_eq_true_eq] at hd
      rcases hd with ⟨hd, hl⟩ | ⟨hl, hd⟩
      · obtain ⟨ss, rfl⟩ := all_tx hd
        have few : ∃ D : List Str, (∀ x ∈ ss.map tx, x ∈ D) ∧ D.length < 4000 := ⟨(dedup (ss.map D.str)).map txD, fun x hx => ((dedup_kern txD _ (txD_eq ss)).2.2 x).mpr (by rw [List.map_map]; exact hx), by rw [List.length_map]; omega⟩
        rw [txs_of rs] at hz
        have done : ∀ (h' : Heap) (tk : Nat), TxtSet X.prog X.w h' s.heap.objs.size (ss.map tx) → (∀ b o, s.heap.get? b = some o → h'.get? b = some o) → Q (.ref s.heap.objs.size) { s with heap := h', toks := tk } := fun h' tk T hk => by
          obtain ⟨o, es, ep, t, a1, a2, a3, a4, a5, a6⟩ := len_of_txt T fun L kn => dedup_len txD _ (txD_eq ss) (by rw [List.map_map]; rfl) kn
          exact k h' tk _ o es ep t a1 a2 a3 a4 a5 a6 hk
        rcases hz with hz | hz
        · obtain ⟨its, rvv, pl, _⟩ := I.list hz
          exact set_txt_list (I.ok.hd x.calm) pl.isList (by simpa using strsAre_of rvv) few done
        · obtain ⟨its, rvv, pl, _⟩ := I.tuple hz
          exact set_txt_tuple (I.ok.hd x.calm) pl (by simpa using strsAre_of rvv) few done
      · have dl : ∀ a ∈ ds, ∀ b ∈ ds, eqD a b = decide (toNK a = toNK b) := fun a ha b hb => key_eq (List.all_eq_true.mp hd a ha) (List.all_eq_true.mp hd b hb)
        have done : ∀ (ks : List (Addr × NestedKey)), ks.map (·.2) = ds.map toNK → ∀ (h' : Heap) (tk : Nat), KSet X.w h' s.heap.objs.size ks ks.length → (∀ b o, s.heap.get? b = some o → h'.get? b = some o) → Q (.ref s.heap.objs.size) { s with heap := h', toks := tk } := fun ks e h' tk T hk => by
          obtain ⟨o, es, ep, t, a1, a2, a3, a4, a5, a6⟩ := len_of_key s T fun L kn => dedup_len toNK _ dl e kn
          exact k h' tk _ o es ep t a1 a2 a3 a4 a5 a6 hk
        rcases hz with hz | hz
        · obtain ⟨its, rvv, pl, _⟩ := I.list hz
          obtain ⟨ks, e1, e2, e3⟩ := keys_list K I hd rs rvv
          have el : ks.length = ds.length := by simpa using congrArg List.length e2
          exact set_key_list (I.ok.hd x.calm) hu pl.isList (by simpa using e1) (by omega) e3 (done ks e2)
        · obtain ⟨its, rvv, pl, _⟩ := I.tuple hz
          obtain ⟨ks, e1, e2, e3⟩ := keys_list K I hd rs rvv
          have el : ks.length = ds.length := by simpa using congrArg List.length e2
          exact set_key_tuple (I.ok.hd x.calm) hu pl (by simpa using e1) (by omega) e3 (done ks e2)
    cases d1 with
    | str z =>
      simp only [biD] at er
      split at er
      · rename_i hz
        cases er
        cases r1
        refine fin _ rfl fun pins s v I rv Q k => ?_
        obtain ⟨t, rfl⟩ := rv
        have ez : (tx z).cps.toList = z := by simp [tx]
        refine set_txt_str (I.ok.hd x.calm) (by rw [← Array.length_toList, ez]; omega) fun h' tk T hk => ?_
        rw [ez] at T
        obtain ⟨o, es, ep, t, a1, a2, a3, a4, a5, a6⟩ := len_of_txt T fun L kn => dedup_len txD (z.map fun c => D.str [c]) (by
          have := txD_eq (z.map fun c => [c])
          rw [List.map_map] at this
          exact this) (by rw [List.map_map]; rfl) kn
        exact k h' tk _ o es ep t a1 a2 a3 a4 a5 a6 hk
      · cases er
    | _ =>
      simp only [biD] at er
      obtain ⟨ds, e1, e2⟩ := bind_some er
      split at e2
      · rename_i hd
        cases e2
        exact fin _ rfl (seq ds e1 hd)
      · cases e2
end
end Mi

set_option linter.all false
set_option maxRecDepth 100000
set_option maxHeartbeats 3200000
namespace Mi
open PySem PySem.Spec PyProof.Rows L2
/-! ## sorted of ints, of pairs -/
theorem insI_perm (x : Int) : ∀ l, (insI x l).Perm (x :: l)
  | [] => .refl _
  | y :: r => by
    unfold insI
    split
    · exact .refl _
    · exact ((insI_perm x r).cons y).trans (.swap x y r)
theorem sortI_perm : ∀ l, (sortI l).Perm l
  | [] => .refl _
  | x :: r => by
    unfold sortI
    exact (insI_perm x _).trans ((sortI_perm r).cons x)
theorem insI_pw (x : Int) : ∀ l : List Int, l.Pairwise (· ≤ ·) → (insI x l).Pairwise (· ≤ ·)
  | [], _ => List.pairwise_singleton _ _
  | y :: r, h => by
    unfold insI
    split
    · rename_i q
      refine List.pairwise_cons.mpr ⟨fun z hz => ?_, h⟩
      rcases List.mem_cons.mp hz with e | hz
      · rw [e]; exact q
      · exact Int.le_trans q ((List.pairwise_cons.mp h).1 z hz)
    · rename_i q
      refine List.pairwise_cons.mpr ⟨fun z hz => ?_, insI_pw x r (List.pairwise_cons.mp h).2⟩
      rcases List.mem_cons.mp ((insI_perm x r).mem_iff.mp hz) with e | hz
      · rw [e]; omega
      · exact (List.pairwise_cons.mp h).1 z hz
theorem sortI_pw : ∀ l, (sortI l).Pairwise (· ≤ ·)
  | [] => .nil
  | x :: r => insI_pw x _ (sortI_pw r)
theorem leI_total : ∀ a b : List Int, leI a b = true ∨ leI b a = true
  | [], _ => .inl (by simp [leI])
  | _ :: _, [] => .inr (by simp [leI])
  | x :: a, y :: b => by
    simp only [leI]
    rcases Int.lt_trichotomy x y with q | q | q
    · exact .inl (by rw [if_pos q])
    · subst q
      rcases leI_total a b with h | h
      · exact .inl (by simp [h])
      · exact .inr (by simp [h])
    · exact .inr (by rw [if_pos q])
theorem leI_trans : ∀ a b c : List Int, leI a b = true → leI b c = true → leI a c = true
  | [], _, _, _, _ => by simp [leI]
  | _ :: _, [], _, h, _ => by simp [leI] at h
  | _ :: _, _ :: _, [], _, h => by simp [leI] at h
  | x :: a, y :: b, z :: c, h1, h2 => by
    simp only [leI] at h1 h2 ⊢
    by_cases q1 : x < y
    · by_cases q2 : y < z
      · rw [if_pos (by omega)]
      · rw [if_neg q2] at h2
        split at h2
        · cases h2
        · rw [if_pos (by omega)]
    · rw [if_neg q1] at h1
      split at h1
      · cases h1
      · have : x = y := by omega
        subst this
        by_cases q2 : x < z
        · rw [if_pos q2]
        · rw [if_neg q2] at h2 ⊢
          split at h2
          · cases h2
          · rename_i q3
            rw [if_neg q3]
            exact leI_trans a b c h1 h2
theorem leI_anti : ∀ a b : List Int, leI a b = true → leI b a = true → a = b
  | [], [], _, _ => rfl
  | [], _ :: _, _, h => by simp [leI] at h
  | _ :: _, [], h, _ => by simp [leI] at h
  | x :: a, y :: b, h1, h2 => by
    simp only [leI] at h1 h2
    by_cases q : x < y
    · rw [if_neg (by omega), if_pos q] at h2; cases h2
    · rw [if_neg q] at h1
      split at h1
      · cases h1
      · have e : x = y := by omega
        subst e
        simp at h2
        rw [leI_anti a b h1 h2]
theorem leP_total (a b : Int × List Int) : leP a b = true ∨ leP b a = true := by
  unfold leP
  rcases Int.lt_trichotomy a.1 b.1 with q | q | q
  · exact .inl (by rw [if_pos q])
  · rcases leI_total a.2 b.2 with h | h
    · exact .inl (by rw [if_neg (by omega), if_neg (by omega)]; exact h)
    · exact .inr (by rw [if_neg (by omega), if_neg (by omega)]; exact h)
  · exact .inr (by rw [if_pos q])
theorem leP_trans (a b c : Int × List Int) (h1 : leP a b = true) (h2 : leP b c = true) : leP a c = true := by
  unfold leP at *
  by_cases q1 : a.1 < b.1
  · by_cases q2 : b.1 < c.1
    · rw [if_pos (by omega)]
    · rw [if_neg q2] at h2
      split at h2
      · cases h2
      · rw [if_pos (by omega)]
  · rw [if_neg q1] at h1
    split at h1
    · cases h1
    · by_cases q2 : b.1 < c.1
      · rw [if_pos (by omega)]
      · rw [if_neg q2] at h2
        split at h2
        · cases h2
        · rw [if_neg (by omega), if_neg (by omega)]
          exact leI_trans _ _ _ h1 h2
theorem leP_anti (a b : Int × List Int) (h1 : leP a b = true) (h2 : leP b a = true) : a = b := by
  unfold leP at *
  by_cases q1 : a.1 < b.1
  · rw [if_neg (by omega), if_pos q1] at h2; cases h2
  · rw [if_neg q1] at h1
    split at h1
    · cases h1
    · rw [if_neg (by omega), if_neg q1] at h2
      exact Prod.ext (by omega) (leI_anti _ _ h1 h2)
theorem insP_perm (x : Int × List Int) : ∀ l, (insP x l).Perm (x :: l)
  | [] => .refl _
  | y :: r => by
    unfold insP
    split
    · exact .refl _
    · exact ((insP_perm x r).cons y).trans (.swap x y r)
theorem sortP_perm : ∀ l, (sortP l).Perm l
  | [] => .refl _
  | x :: r => by
    unfold sortP
    exact (insP_perm x _).trans ((sortP_perm r).cons x)
theorem insP_pw (x : Int × List Int) : ∀ l : List (Int × List Int), l.Pairwise (fun a b => leP a b = true) → (insP x l).Pairwise (fun a b => leP a b = true)
  | [], _ => List.pairwise_singleton _ _
  | y :: r, h => by
    unfold insP
    split
    · rename_i q
      refine List.pairwise_cons.mpr ⟨fun z hz => ?_, h⟩
      rcases List.mem_cons.mp hz with e | hz
      · rw [e]; exact q
      · exact leP_trans _ _ _ q ((List.pairwise_cons.mp h).1 z hz)
    · rename_i q
      refine List.pairwise_cons.mpr ⟨fun z hz => ?_, insP_pw x r (List.pairwise_cons.mp h).2⟩
      rcases List.mem_cons.mp ((insP_perm x r).mem_iff.mp hz) with e | hz
      · rw [e]
        rcases leP_total x y with t | t
        · exact absurd t q
        · exact t
      · exact (List.pairwise_cons.mp h).1 z hz
theorem sortP_pw : ∀ l, (sortP l).Pairwise (fun a b => leP a b = true)
  | [] => .nil
  | x :: r => insP_pw x _ (sortP_pw r)
/-! ### the library's order of data -/
def encP (p : Int × List Int) : PyData := .tuple [.int p.1, .list (p.2.map .int)]
theorem rows_lt : ∀ xs ys : List Int, decide (xs < ys) = !leI ys xs
  | [], [] => by simp [leI]
  | [], y :: ys => by simp [leI]
  | x :: xs, [] => by simp [leI]
  | x :: xs, y :: ys => by
    have ih := rows_lt xs ys
    simp only [leI]
    rcases Int.lt_trichotomy x y with q | q | q
    · rw [if_neg (by omega), if_pos q]
      simp [List.cons_lt_cons_iff, q]
    · subst q
      simp [List.cons_lt_cons_iff]
      simpa using ih
    · rw [if_pos q]
      have h1 : ¬ x < y := by omega
      have h2 : ¬ x = y := by omega
      simp [List.cons_lt_cons_iff, h1, h2]
theorem eqv_ints : ∀ xs ys : List Int, PyData.eqvAll (xs.map .int) (ys.map .int) = decide (xs = ys)
  | [], [] => by simp [PyData.eqvAll]
  | [], _ :: _ => by simp [PyData.eqvAll]
  | _ :: _, [] => by simp [PyData.eqvAll]
  | x :: xs, y :: ys => by
    simp only [List.map_cons, PyData.eqvAll, PyData.eqv, eqv_ints xs ys]
    by_cases q : x = y <;> by_cases r : xs = ys <;> simp [q, r]
theorem lt_pair (a b : Int × List Int) : PySem.W.dataLt (encP a) (encP b) = !leP b a := by
  unfold encP
  rw [PySem.W.dataLt_pair (by simp [PySem.W.alike]) (by simp [PySem.W.alike, PySem.W.alike_ints])]
  have e1 : PyData.eqv (.int a.1) (.int b.1) = decide (a.1 = b.1) := by
    by_cases q : a.1 = b.1 <;> simp [PyData.eqv, q]
  have e2 : PyData.eqv (.list (a.2.map .int)) (.list (b.2.map .int)) = decide (a.2 = b.2) := by
    simp only [PyData.eqv]
    exact eqv_ints _ _
  rw [e1, e2, PySem.W.dataLt_int, PySem.W.dataLt_list]
  have e3 : PyProof.Rows.lexLt PyProof.Rows.itemOrd (PySem.W.keyToksAll (a.2.map .int)) (PySem.W.keyToksAll (b.2.map .int)) = decide (a.2 < b.2) := PySem.W.dataLt_ints _ _
  rw [e3, rows_lt]
  unfold leP
  rcases Int.lt_trichotomy a.1 b.1 with q | q | q
  · have z1 : ¬ a.1 = b.1 := Int.ne_of_lt q
    have z2 : ¬ b.1 < a.1 := Int.not_lt.mpr (Int.le_of_lt q)
    simp [z1, z2, q]
  · have z1 : ¬ a.1 < b.1 := by rw [q]; exact Int.lt_irrefl _
    have z2 : ¬ b.1 < a.1 := by rw [q]; exact Int.lt_irrefl _
    by_cases r : a.2 = b.2
    · have t : leI b.2 b.2 = true := by rcases leI_total b.2 b.2 with t | t <;> exact t
      simp [z1, z2, q, r, t]
    · simp [z1, z2, q, r]
  · have z1 : ¬ a.1 = b.1 := fun e => Int.lt_irrefl _ (e ▸ q)
    have z2 : ¬ a.1 < b.1 := Int.not_lt.mpr (Int.le_of_lt q)
    simp [z1, z2, q]
theorem le_pair : PySem.W.dataLe false encP = leP := by
  funext a b
  rw [PySem.W.dataLe_eq]
  show (!PySem.W.dataLt (encP b) (encP a)) = _
  rw [lt_pair]
  simp
theorem merge_is (bs : List (Int × List Int)) : bs.mergeSort (PySem.W.dataLe false encP) = sortP bs := by
  rw [le_pair]
  have tr : ∀ a b c : Int × List Int, leP a b = true → leP b c = true → leP a c = true := leP_trans
  have to : ∀ a b : Int × List Int, (leP a b || leP b a) = true := fun a b => by
    rw [Bool.or_eq_true]; exact leP_total a b
  exact List.Perm.eq_of_pairwise (le := fun a b => leP a b = true) (fun a b _ _ h1 h2 => leP_anti a b h1 h2) (List.pairwise_mergeSort tr to bs) (sortP_pw bs) ((List.mergeSort_perm bs _).trans (sortP_perm bs).symm)
section
variable {X : Cx} {B : Bx}
theorem b_sortedI (x : XOk X B) : CallR X (.builtin "sorted") (rBi B .sortedI) := by
  intro pins s σ H vs us Q I q1 ⟨W, h, ds, e, hr, rs, r, er, q⟩
  subst e
  cases rs with
  | nil => simp [biD] at er
  | cons r1 t =>
    cases t with
    | cons _ _ => simp [biD] at er
    | nil =>
      simp only [biD] at er
      obtain ⟨ns, e1, e2⟩ := bind_some er
      obtain ⟨ys, e3, e4⟩ := bind_some e1
      obtain ⟨a, zs, rfl, hz, rz⟩ := lst_at hr r1 e3
      have := ints_ rz e4
      subst this
      split at e2
      · cases e2
        refine cr_sortedI pins s σ _ _ _ Q I q1 ⟨a, ns, rfl, .inl (.inl hz), fun ns' p hp hs hn => ?_⟩
        have : ns' = sortI ns := List.Perm.eq_of_pairwise (le := fun a b : Int => a ≤ b) (fun a b _ _ h1 h2 => Int.le_antisymm h1 h2) hs (sortI_pw ns) (hp.trans (sortI_perm ns).symm)
        rw [this]
        exact new_lstv q hr (VRs.ints _) hn
      · cases e2
theorem ints_of : ∀ (xs : List D) (ns : List Int), allInt xs = some ns → xs = ns.map .int
  | [], ns, h => by simp [allInt] at h; subst h; rfl
  | d :: xs, ns, h => by
    cases d with
    | int j =>
      simp only [allInt] at h
      cases e : allInt xs with
      | none => rw [e] at h; cases h
      | some t => rw [e] at h; cases h; rw [ints_of xs t e]; rfl
    | _ => simp [allInt] at h
theorem reads_ints {h : Heap} : ∀ (ns : List Int) (its : List Value), Vals (ns.map V.int) its → ∃ bs, ReadsAll h its (ns.map PyData.int) bs
  | [], its, rv => by cases rv; exact ⟨[], .nil⟩
  | k :: ns, its, rv => by
    cases rv with
    | cons qa qs =>
      obtain ⟨tk, rfl⟩ := qa
      obtain ⟨bs, hb⟩ := reads_ints ns _ qs
      exact ⟨[] ++ bs, .cons (.int k tk) hb⟩
/-- a pair's value reads as data -/
theorem pr_read (x : XOk X B) {pins : List (Addr × Obj)} {σ : L2.St} {s : Shared} {W : Wo} (I : Inv X pins σ W.H s) {d : D} {v : V} {u : Value} {p : Int × List Int} (hd : prOf d = some p) (r : VR B.R W d v) (q : RelV v u) : d = prD p ∧ ∃ as, Reads s.heap u (encP p) as := by
  have K : X.K = B.R.K := x.K
  obtain ⟨i, xs, rfl⟩ : ∃ i xs, d = .tup [.int i, .lst xs] := by
    unfold prOf at hd
    split at hd
    · exact ⟨_, _, rfl⟩
    · cases hd
  have hd : (allInt xs).map (fun ns => (i, ns)) = some p := hd
  cases e : allInt xs with
  | none => rw [e] at hd; cases hd
  | some ns =>
    rw [e] at hd
    cases hd
    have ex := ints_of xs ns e
    refine ⟨by rw [ex]; rfl, ?_⟩
    cases r with
    | tup t rs =>
      rename_i a vs
      have q : u = .ref a := q
      subst q
      have st := t.sq
      rw [← K] at st
      obtain ⟨its, rv, ht, hzz⟩ := I.tuple st
      cases rs with
      | cons r1 rs1 =>
        cases rs1 with
        | cons r2 rs2 =>
          cases rs2
          cases rv with
          | cons q1 rv1 =>
            cases rv1 with
            | cons q2 rv2 =>
              cases rv2
              cases r1
              obtain ⟨t1, rfl⟩ := q1
              cases r2 with
              | lst im rl =>
                rename_i l ws
                have q2 : _ = Value.ref l := q2
                subst q2
                have ew := ints_ rl e
                subst ew
                obtain ⟨its2, rv2, ⟨o2, n2, h1, h2, _, h3⟩, _⟩ := I.list (a := l) (xs := ns.map V.int) (.inl (.inl im.2.2))
                obtain ⟨o, ho, hc, n, hdt⟩ := ht
                obtain ⟨bs, hb⟩ := reads_ints (h := s.heap) ns its2 rv2
                exact ⟨_, .tuple ho hc hdt (.cons (.int i t1) (.cons (.list h1 h2 h3 (by simpa using hb)) .nil))⟩
theorem prs_read (x : XOk X B) {pins : List (Addr × Obj)} {σ : L2.St} {s : Shared} {W : Wo} (I : Inv X pins σ W.H s) : ∀ {ds : List D} {vs : List V} {us : List Value} {ps : List (Int × List Int)}, allPr ds = some ps → VRs B.R W ds vs → Vals vs us →
    PySem.W.EachIs (fun u p => ∃ v, RelV v u ∧ VR B.R W (prD p) v) us ps ∧ PySem.W.EachIs (fun u p => ∃ as, Reads s.heap u (encP p) as) us ps
  | [], _, _, ps, h, .nil, .nil => by
    simp [allPr] at h
    subst h
    exact ⟨.nil, .nil⟩
  | d :: ds, _, _, ps, h, .cons r rs, .cons q qs => by
    simp only [allPr] at h
    split at h
    · rename_i p t e1 e2
      cases h
      obtain ⟨h1, h2⟩ := prs_read x I e2 rs qs
      obtain ⟨ed, as, ra⟩ := pr_read x I e1 r q
      subst ed
      exact ⟨.cons ⟨_, q, r⟩ h1, .cons ⟨as, ra⟩ h2⟩
    · cases h
theorem each_vals {R : Wr} {W : Wo} : ∀ {us : List Value} {ps : List (Int × List Int)}, PySem.W.EachIs (fun u p => ∃ v, RelV v u ∧ VR R W (prD p) v) us ps → ∃ vs, Vals vs us ∧ VRs R W (ps.map prD) vs
  | _, _, .nil => ⟨[], .nil, .nil⟩
  | _, _, .cons ⟨v, q, r⟩ t => by
    obtain ⟨vs, h1, h2⟩ := each_vals t
    exact ⟨v :: vs, .cons q h1, .cons r h2⟩
theorem b_sortedP (x : XOk X B) : CallR X (.builtin "sorted") (rBi B .sortedP) := by
  intro pins s σ H vs us Q I q1 ⟨W, h, ds, e, hr, rs, r, er, q⟩
  subst e
  cases rs with
  | nil => simp [biD] at er
  | cons r1 t =>
    cases t with
    | cons _ _ => simp [biD] at er
    | nil =>
      simp only [biD] at er
      obtain ⟨ps, e1, e2⟩ := bind_some er
      obtain ⟨ys, e3, e4⟩ := bind_some e1
      obtain ⟨a, zs, rfl, hz, rz⟩ := lst_at hr r1 e3
      split at e2
      · rename_i hl
        cases e2
        obtain ⟨its, rv, pl, hzl⟩ := I.list (a := a) (xs := zs) (.inl (.inl hz))
        rw [Vals.ref1 q1]
        obtain ⟨E1, E2⟩ := prs_read x I e4 rz rv
        have lp : ps.length ≤ sizeLine := Nat.le_trans hl (by rw [sizeLine_eq]; decide)
        have hu := Room.u x
        refine PySem.W.sorted_data (enc := encP) pl.isList E1 E2 (PySem.W.AllAlike.of fun p q => by simp [encP, PySem.W.alike, PySem.W.alikeAll, PySem.W.alike_ints]) (PySem.W.Sortable.tuples fun p => ⟨_, _, rfl⟩) lp (fun p _ => ?_) fun out ol oe => ?_
        · have : (encP p).depth ≤ 10 := by simp [encP, PyData.depth, PyData.depthAll, PySem.W.depth_ints]
          omega
        · rw [merge_is] at oe
          obtain ⟨vs', k1, k2⟩ := each_vals oe
          obtain ⟨ep, he'⟩ := PyProof.Rows.sortedAll_at s.heap its out.toArray
          have hlen : vs'.length ≤ sizeLine := by rw [k1.length, ol]; exact lp
          refine ⟨.ref _, upd W.H (s.heap.objs.size + 1) (.lst vs'), I.laid (t' := s.toks) (fun _ _ => PyProof.Rows.sortedAll_old) (Nat.le_succ _) ⟨hlen, out, ep, k1, he'⟩, rfl, ?_⟩
          exact new_lstv q hr k2 (I.hok.fresh (Nat.le_succ _))
      · cases e2
end
end Mi

set_option linter.all false
set_option maxRecDepth 100000
set_option maxHeartbeats 2000000
namespace Mi
open PySem PySem.Spec PyProof.Rows L2
/-! ## the look: does a mini term tell a piece of the program's text? -/
structure Cc where
  T : Tab
  N : List Str
  sc : Scope
def plainN (x : Str) : Bool := !(x == ("__debug__" : Str)) && !(x == ("__classdict__" : Str)) && !(x == ("__name__" : Str))
def visB (c : Cc) (x : Str) : Bool := match c.sc.names.lookup x with
  | some .local => true
  | some .cell => true
  | some .free => true
  | _ => false
def locB (c : Cc) (x : Str) : Bool := match c.sc.names.lookup x with
  | some .local => true
  | some .cell => true
  | _ => false
def glB (c : Cc) (x : Str) : Bool := match c.sc.names.lookup x with
  | some .globalImplicit => true
  | _ => false
def lclB (c : Cc) (x : Str) : Bool := match c.sc.names.lookup x with
  | some .local => true
  | _ => false
/-- neither starred nor a slice -/
def okA : Expr → Bool
  | .Starred _ _ => false
  | .Slice _ _ _ _ => false
  | _ => true
/-- an expression whose attribute is asked plainly -/
def okO : Expr → Bool
  | .Call _ [] _ _ => false
  | .Starred _ _ => false
  | .Slice _ _ _ _ => false
  | _ => true
/-- tested by its value -/
def plainT : Expr → Bool
  | .UnaryOp .Not _ _ => false
  | .BoolOp _ _ _ => false
  | .IfExp _ _ _ _ => false
  | .Compare _ _ _ _ => false
  | _ => true
def fin (m : Bool) (py : Expr) : Bool := !m || plainT py
def pyOp : Op → Operator
  | .add => .Add | .sub => .Sub | .mul => .Mult | .fdiv => .FloorDiv | .mod => .Mod | .pow => .Pow
def pyCm : Cm → CmpOp
  | .eq => .Eq | .ne => .NotEq | .lt => .Lt | .le => .LtE | .gt => .Gt | .ge => .GtE | .is_ => .Is | .isnt => .IsNot | .in_ => .In | .notin => .NotIn
def notSet : Expr → Bool
  | .Set _ _ _ => false
  | _ => true
/-- a built-in function's (true) or type's (false) name -/
def biN : Bi → Option (Bool × String)
  | .len => some (true, "len") | .all => some (true, "all") | .any => some (true, "any") | .sum => some (true, "sum") | .min2 => some (true, "min") | .max1 => some (true, "max") | .sortedS => some (true, "sorted") | .sortedI => some (true, "sorted") | .sortedP => some (true, "sorted")
  | .tuple => some (false, "tuple") | .strOf => some (false, "str") | .intOf => some (false, "int")
  | _ => none
/-- a method's name -/
def bmN : Bi → Option String
  | .join => some "join" | .startswith => some "startswith" | .endswith => some "endswith" | .index => some "index" | .split => some "split" | .append => some "append" | .extend => some "extend" | .pop => some "pop"
  | .get1 => some "get" | .get2 => some "get"
  | _ => none
def tgNames : Expr → Option (Bool × List Str)
  | .Name x _ => some (false, [x])
  | .Tuple es _ _ => (go es).map fun xs => (true, xs)
  | _ => none
where go : List Expr → Option (List Str)
  | [] => some []
  | .Name x _ :: r => (go r).map (x :: ·)
  | _ :: _ => none
def needT : E → Bool
  | .zip _ _ => true
  | .enum _ => true
  | _ => false
def isTupE : Expr → Bool
  | .Tuple _ _ _ => true
  | _ => false
/-- a comprehension's targets -/
def ckTg (scope : Scope) (N : List Str) (tp : Bool) (tg : List Nat) (t : Expr) : Option (List (Str × Nat)) :=
  match tgNames t with
  | some (tp', xs) => if tp' = tp ∧ xs.length = tg.length ∧ (tp = true ∨ tg.length = 1) ∧ (xs.zip tg).all (fun p => decide (N[p.2]? = some p.1) && (match scope.names.lookup p.1 with | some .local => true | some .cell => true | _ => false)) then some (xs.zip tg) else none
  | none => none
mutual
def ck (c : Cc) (m : Bool) : E → Expr → Bool
  | .non, py => (match py with | .Constant .none _ _ => true | _ => false) && fin m py
  | .bl b, py => (match py with | .Constant (.bool b') _ _ => b == b' | _ => false) && fin m py
  | .int i, py => (match py with | .Constant (.int j) _ _ => i == j | _ => false) && fin m py
  | .str s, py => (match py with | .Constant (.str z) _ _ => z.cps.toList == s | _ => false) && fin m py
  | .var i, py => (match py with | .Name x _ => decide (c.N[i]? = some x) && visB c x && plainN x | _ => false) && fin m py
  | .gl g, py => (match py with | .Name x _ => (c.T.gl g).isSome && decide (c.T.gln g = x) && glB c x && plainN x | _ => false) && fin m py
  | .fn f, py => (match py with | .Name x _ => decide (f < c.T.nf) && c.T.isg f && decide (c.T.fnn f = x) && glB c x && plainN x | _ => false) && fin m py
  | .tup es, py => (match py with | .Tuple ps _ _ => cks c es ps | _ => false) && fin m py
  | .lst es, py => (match py with | .List ps _ => cks c es ps | _ => false) && fin m py
  | .mk e, py => isF e && ck c false e py && fin m py
  | .dnew _, py => (match py with | .Dict [] [] _ => true | _ => false) && fin m py
  | .done k v, py => (match py with | .Dict [some a] [b] _ => ck c false k a && ck c false v b | _ => false) && fin m py
  | .fld e f, py => (match py with | .Attribute v x _ => okO v && decide (c.T.fnm f = x) && ck c false e v | _ => false) && fin m py
  | .ix a b, py => (match py with | .Subscript x y _ => okA y && ck c false a x && ck c false b y | _ => false) && fin m py
  | .sl a lo hi, py => (match py with
      | .Subscript x (.Slice l h none _) _ => ck c false a x && (match l with | none => isNon lo | some l => !isNon lo && ck c false lo l) && (match h with | none => isNon hi | some h => !isNon hi && ck c false hi h)
      | _ => false) && fin m py
  | .neg a, py => (match py with | .UnaryOp .USub x _ => ck c false a x | _ => false) && fin m py
  | .op o a b, py => (match py with | .BinOp x p y _ => decide (p = pyOp o) && ck c false a x && ck c false b y | _ => false) && fin m py
  | .opl o a b, py => (match py with | .BinOp x p y _ => decide (o = .add ∨ o = .mul) && decide (p = pyOp o) && ck c false a x && ck c false b y | _ => false) && fin m py
  | .cmp o a b, py => match py with | .Compare x [p] [y] _ => decide (p = pyCm o) && notSet y && ck c false a x && ck c false b y | _ => false
  | .chain a b d, py => match py with | .Compare x [.LtE, .LtE] [y, z] _ => notSet z && ck c false a x && ck c false b y && ck c false d z | _ => false
  | .and a b, py => match py with
      | .BoolOp .And [x, y] _ => ck c m a x && ck c m b y
      | .BoolOp .And (x :: y :: z :: r) p => ck c m a x && ck c m b (.BoolOp .And (y :: z :: r) p)
      | _ => false
  | .or a b, py => match py with
      | .BoolOp .Or [x, y] _ => ck c m a x && ck c m b y
      | .BoolOp .Or (x :: y :: z :: r) p => ck c m a x && ck c m b (.BoolOp .Or (y :: z :: r) p)
      | _ => false
  | .not a, py => match py with | .UnaryOp .Not x _ => ck c m a x | _ => false
  | .tru a, py => m && ck c false a py && plainT py
  | .ite t a b, py => match py with | .IfExp x y z _ => !m && ck c true t x && ck c false a y && ck c false b z | _ => false
  | .call f es, py => (match py with | .Call (.Name x _) ps [] _ => decide (f < c.T.nf) && c.T.isg f && decide (c.T.fnn f = x) && glB c x && plainN x && cks c es ps | _ => false) && fin m py
  | .make k es, py => (match py with | .Call (.Name x _) (p :: ps) [] _ => decide (c.T.init k < c.T.nf) && c.T.isc k && decide (c.T.cnm k = x) && glB c x && plainN x && cks c es (p :: ps) | _ => false) && fin m py
  | .meth f o es, py => (match py with | .Call (.Attribute x a p) ps [] q => decide (f < c.T.nf) && c.T.ism f && decide (c.T.fnn f = a) && okO x && (p.endLine == q.line) && decide (ps.length < 20) && ck c false o x && cks c es ps | _ => false) && fin m py
  | .callv f es, py => (match py with | .Call (.Subscript u v q) (p :: ps) [] _ => ck c false f (.Subscript u v q) && cks c es (p :: ps) | _ => false) && fin m py
  | .bi b es, py => (match b, py with
      | .lrange, .Call (.Name x _) [.Call (.Name y _) [a] [] _] [] _ => decide (x = "list") && decide (y = "range") && glB c x && glB c y && cks c es [a]
      | .setlen, .Call (.Name x _) [.Call (.Name y _) [a] [] _] [] _ => decide (x = "len") && decide (y = "set") && glB c x && glB c y && cks c es [a]
      | .starts, .Call (.Attribute (.Name x _) y p) [a, .Constant (.str z) _ _] [] q => c.T.sta && decide (x = "STARTS") && decide (y = "get") && glB c x && (z.cps.toList == []) && (p.endLine == q.line) && cks c es [a]
      | b, .Call (.Name x _) (p :: ps) [] _ => (match biN b with | some (_, n) => decide (x = Str.ofString n) | none => false) && glB c x && cks c es (p :: ps)
      | _, _ => false) && fin m py
  | .bim b o es, py => (match py with | .Call (.Attribute x a p) ps [] q => (match bmN b with | some n => decide (a = Str.ofString n) | none => false) && okO x && (p.endLine == q.line) && decide (ps.length < 20) && ck c false o x && cks c es ps | _ => false) && fin m py
  | .isi e t, py => (match py with | .Call (.Name x _) [a, .Name y _] [] _ => decide (x = "isinstance") && decide (y = Str.ofString (tyN t)) && glB c x && glB c y && okA a && ck c false e a | _ => false) && fin m py
  | .comp tp tg it t e, py => (match py with
      | .ListComp elt [⟨tgE, iter, ifs, 0⟩] scope _ => (match ckTg scope c.N tp tg tgE with
        | some own => blkC c.N c.sc scope own && (!needT it || isTupE tgE) && notSet iter && ck c false it iter && ck { c with sc := relS scope c.sc } false e elt &&
            (match ifs with | [] => (match t with | .bl true => true | _ => false) | [q] => ck { c with sc := relS scope c.sc } true t q | _ => false)
        | none => false)
      | _ => false) && fin m py
  | .dcomp _ _ _, _ => !m
  | .rng a, py => !m && (match py with | .Call (.Name x _) [p] [] _ => decide (x = "range") && glB c x && okA p && ck c false a p | _ => false)
  | .rng2 a b, py => !m && (match py with | .Call (.Name x _) [p, q] [] _ => decide (x = "range") && glB c x && okA p && okA q && ck c false a p && ck c false b q | _ => false)
  | .zip a b, py => !m && (match py with | .Call (.Name x _) [p, q] [] _ => decide (x = "zip") && glB c x && okA p && okA q && ck c false a p && ck c false b q | _ => false)
  | .enum a, py => !m && (match py with | .Call (.Name x _) [p] [] _ => decide (x = "enumerate") && glB c x && okA p && ck c false a p | _ => false)
  | .keys _, _ => !m
def cks (c : Cc) : Es → List Expr → Bool
  | .nil, ps => match ps with | [] => true | _ => false
  | .cons e es, ps => match ps with | p :: r => okA p && ck c false e p && cks c es r | _ => false
end
def esLen : Es → Nat
  | .nil => 0
  | .cons _ es => esLen es + 1
/-- names that may be stored to, at their places -/
def ckNm (c : Cc) (is : List Nat) (xs : List Str) : Bool := decide (xs.length = is.length) && (xs.zip is).all fun p => decide (c.N[p.2]? = some p.1) && locB c p.1
mutual
def ckS (c : Cc) : S → Stmt → Bool
  | .ex e, st => match st with | .Expr v _ => ck c false e v && (match v with | .ListComp _ _ _ _ => false | .SetComp _ _ _ _ => false | .DictComp _ _ _ _ _ => false | _ => true) | _ => false
  | .set i e, st => match st with
      | .Assign [.Name x p] v q => decide (c.N[i]? = some x) && locB c x && ck c false e v && (match v with
          | .ListComp _ _ _ _ => (match e with | .comp _ _ _ _ _ => true | .mk (.comp _ _ _ _ _) => true | _ => false)
          | .SetComp _ _ _ _ => false
          | .DictComp _ _ _ _ _ => match e with | .dcomp _ _ _ => true | _ => false
          | _ => true)
      | _ => false
  | .par is es, st => match st with
      | .Assign [.Tuple ts _ _] (.Tuple vs _ _) _ => (match tgNames.go ts with | some xs => ckNm c is xs | none => false) && cks c es vs && decide (ts.length = vs.length) && decide (ts.length = esLen es) && decide (is.length < 10) && decide is.Nodup && (vs.all (foldedForSure 8) || !vs.all (constantsAlone 8))
      | _ => false
  | .sub o k v, st => match st with | .Assign [.Subscript x y _] z _ => okA y && ck c false o x && ck c false k y && ck c false v z && (match z with | .ListComp _ _ _ _ => true | .SetComp _ _ _ _ => false | .DictComp _ _ _ _ _ => false | _ => true) | _ => false
  | .fld o f v, st => match st with | .Assign [.Attribute x a _] z _ => decide (c.T.fnm f = a) && ck c false o x && ck c false v z && (match z with | .SetComp _ _ _ _ => false | .DictComp _ _ _ _ _ => false | _ => true) | _ => false
  | .aug i o e, st => match st with | .AugAssign (.Name x _) p v _ => decide (o = .add ∨ o = .sub) && decide (p = augOp o) && decide (c.N[i]? = some x) && locB c x && ck c false e v | _ => false
  | .augs o k p e, st => match st with | .AugAssign (.Subscript x y _) q v _ => decide (p = .add ∨ p = .sub) && decide (q = augOp p) && okA y && ck c false o x && ck c false k y && ck c false e v | _ => false
  | .augf o f p e, st => match st with | .AugAssign (.Attribute x a _) q v _ => decide (p = .add ∨ p = .sub) && decide (q = augOp p) && decide (c.T.fnm f = a) && ck c false o x && ck c false e v | _ => false
  | .ite t a b, st => match st with | .If x y z _ => ck c true t x && ckSs c a y && ckSs c b z | _ => false
  | .for tp tg it b, st => match st with
      | .For t iter body [] _ => (match tgNames t with | some (tp', xs) => decide (tp' = tp) && ckNm c tg xs && decide (tp = true ∨ tg.length = 1) | none => false) && (!needT it || isTupE t) && notSet iter && ck c false it iter && ckSs c b body
      | _ => false
  | .fork _ _ _, _ => true
  | .whl t b, st => match st with | .While x body [] _ => ck c true t x && ckSs c b body | _ => false
  | .ret e, st => match st with
      | .Return (some v) _ => ck c false e v
      | .Return none _ => (match e with | .non => true | _ => false)
      | _ => false
  | .rai k, st => match st with | .Raise (some (.Call (.Name x _) [] [] _)) none _ => decide (c.T.exn k = some x) && glB c x && plainN x | _ => false
  | .brk, st => match st with | .Break _ => true | _ => false
  | .pss, st => match st with | .Pass _ => true | _ => false
  | .try _, _ => false
def ckSs (c : Cc) : Ss → List Stmt → Bool
  | .nil, sts => match sts with | [] => true | _ => false
  | .cons s ss, sts => match sts with | st :: r => ckS c s st && ckSs c ss r | _ => false
end
end Mi

set_option linter.all false
set_option maxRecDepth 100000
set_option maxHeartbeats 2000000
namespace Mi
open PySem PySem.Spec PyProof.Rows L2
/-! ## the look is sound -/
structure CkOk (c : Cc) (X : Cx) (B : Bx) : Prop where
  T : c.T = B.R.T
  N : X.N = c.N
  sc : X.env.scope = c.sc
theorem okA_star {a : Expr} {as : List Expr} {env : Env} (h : okA a = true) : starEach (a :: as) env = (false, eval a env) :: starEach as env := by
  cases a <;> first | rfl | (simp [okA] at h)
theorem any_star {pos : Pos} {env : Env} : ∀ {ps : List Expr}, ps.all okA = true → (backTo pos (starEach ps env)).any (·.1) = false
  | [], _ => rfl
  | a :: as, h => by
    rw [List.all_cons, Bool.and_eq_true] at h
    rw [okA_star h.1]
    have ih := any_star (pos := pos) (env := env) h.2
    simp only [backTo] at ih ⊢
    simp only [List.map_cons, List.any_cons, Bool.false_or]
    exact ih
theorem all_star {pos : Pos} {env : Env} : ∀ {ps : List Expr}, ps.all okA = true → (backTo pos (starEach ps env)).all (fun x => !x.1) = true
  | [], _ => rfl
  | a :: as, h => by
    rw [List.all_cons, Bool.and_eq_true] at h
    rw [okA_star h.1]
    have ih := all_star (pos := pos) (env := env) h.2
    simp only [backTo] at ih ⊢
    simp only [List.map_cons, List.all_cons, Bool.not_false, Bool.true_and]
    exact ih
theorem cks_all {c : Cc} : ∀ (es : Es) (ps : List Expr), cks c es ps = true → ps.all okA = true
  | .nil, ps, h => by
    simp only [cks] at h
    split at h
    · rfl
    · cases h
  | .cons e es, ps, h => by
    simp only [cks] at h
    split at h
    · rename_i p r
      simp only [Bool.and_eq_true] at h
      rw [List.all_cons, h.1.1, cks_all es r h.2]
      rfl
    · cases h
theorem few_ok {pos : Pos} {env : Env} {ps : List Expr} (h : ps.all okA = true) (hl : ps.length < 20) : ((backTo pos (starEach ps env)).all (fun x => !x.1) && (backToKw pos (keywordEach [] env)).all (fun x => x.1.isSome) &&
    decide (ps.length + ([] : List Keyword).length + (if ([] : List Keyword).isEmpty then 0 else 1) < 30)) = true := by
  rw [all_star h]
  have : decide (ps.length + ([] : List Keyword).length + (if ([] : List Keyword).isEmpty then 0 else 1) < 30) = true := decide_eq_true (by simp; omega)
  rw [this]
  rfl
theorem base_ok {o : Expr} {a : Str} {env : Env} (h : okO o = true) : attributeBase o a env (eval o env) = eval o env := by
  cases o <;> first
    | rfl
    | (rename_i f as ks p
       cases as <;> first | (simp [okO] at h; done) | (cases f <;> rfl))
theorem notSet_mark {op : CmpOp} {b : Expr} (h : notSet b = true) : behindInMarks op b = false := by
  cases b <;> first | rfl | (simp [notSet] at h)
theorem notSet_fold {b : Expr} {env : Env} (h : notSet b = true) : ∀ x, foldedSetIterable b env x = pure x := fun x => by
  cases b <;> first | rfl | (simp [notSet] at h)
theorem plain_true {py : Expr} {env : Env} (h : plainT py = true) : ∀ whole, PySem.isTrue py env whole = (do let v ← whole; standAt py.pos; holding [v] (truthy v)) := fun whole => by
  cases py <;> first
    | rfl
    | (simp [plainT] at h; done)
    | (rename_i op x p; cases op <;> first | rfl | (simp [plainT] at h; done))
theorem plainN_ok {x : Str} (h : plainN x = true) : (x == ("__debug__" : Str)) = false ∧ (x == ("__classdict__" : Str)) = false ∧ x ≠ "__name__" := by
  simp only [plainN, Bool.and_eq_true, Bool.not_eq_true', beq_eq_false_iff_ne] at h
  exact ⟨beq_eq_false_iff_ne.mpr h.1.1, beq_eq_false_iff_ne.mpr h.1.2, h.2⟩
theorem notarg {b : Expr} (h : okA b = true) : PlainIx b := fun o i => by
  cases b <;> first | rfl | (simp [okA] at h)
theorem aug_ok {b : Expr} (h : okA b = true) : ∀ ov iv new, augStore b ov iv new = (do holding [new, ov, iv] (setItem ov iv new); release [new, ov, iv] []; pure .next) := fun ov iv new => by
  cases b <;> first | rfl | (simp [okA] at h)
theorem meth_eq {o : Expr} {n : Str} {as : List Expr} {apos pos : Pos} {env : Env} (ho : okO o = true) (ha : as.all okA = true) (hl : as.length < 20) (hp : (apos.endLine == pos.line) = true) :
    eval (.Call (.Attribute o n apos) as [] pos) env = (do
      let ov ← eval o env
      standAt apos.atName
      let (f, first) ← holding [ov] (getMethod ov n (do return (← importBound o env).getD true))
      callWith pos f first (backTo pos (starEach as env)) (backToKw pos (keywordEach [] env))) := by
  have e : eval (.Call (.Attribute o n apos) as [] pos) env = (do
    let ov ← attributeBase o n env (eval o env)
    standAt apos.atName
    methodCall o n apos pos env ov (as.length + 0) (backTo pos (starEach as env)) (backToKw pos (keywordEach [] env))) := rfl
  have hm : methodCallForm (as.length + 0) (backTo pos (starEach as env)) (backToKw pos (keywordEach [] env)) = true := by
    unfold methodCallForm
    rw [all_star ha]
    have : decide (as.length + 0 + (if (backToKw pos (keywordEach [] env)).isEmpty then 0 else 1) < 30) = true := decide_eq_true (by
      show as.length + 0 + (if true = true then 0 else 1) < 30
      simp; omega)
    rw [this]; rfl
  rw [e, base_ok ho]
  unfold methodCall
  rw [hm]
  unfold methodCallPos calleeOf
  rw [hp]
  rfl
section
variable {X : Cx} {B : Bx} {c : Cc}
theorem CkOk.vis (k : CkOk c X B) {x : Str} (h : visB c x = true) : Vis X.env.scope x := by
  unfold visB at h
  unfold Vis
  rw [k.sc]
  split at h <;> first | (rename_i e; simp [e]; done) | cases h
theorem CkOk.loc (k : CkOk c X B) {x : Str} (h : locB c x = true) : Loc X.env.scope x := by
  unfold locB at h
  unfold L2.Loc
  rw [k.sc]
  split at h <;> first | (rename_i e; simp [e]; done) | cases h
theorem CkOk.gl (k : CkOk c X B) {x : Str} (h : glB c x = true) : Gl X x := by
  unfold glB at h
  show X.env.scope.names.lookup x = _
  rw [k.sc]
  split at h <;> first | assumption | cases h
theorem free_ok (x : XOk X B) {n : Str} (h : n ∈ freeN := by decide) : X.mg n = none := by rw [x.mg]; exact x.wr.fre n h
/-- what the look shows -/
def Res (m : Bool) (X : Cx) (B : Bx) (py : Expr) (e : E) : Prop := match m with
  | true => PT X py (tT B e)
  | false => PE X py (tE B e) ∧ (isF e = true → PE X py (tF B e)) ∧ ∀ tg, (needT e = true → isTupE tg = true) → PI X tg py (tI B e)
theorem res_v (x : XOk X B) {m : Bool} {py : Expr} {e : E} (h : PE X py (tE B e)) (hf : fin m py = true) (hi : isIt e = true := by rfl) (hn : isF e = false := by rfl) : Res m X B py e := by
  cases m with
  | true => exact t_val x h (plain_true (by simpa [fin] using hf))
  | false => exact ⟨h, fun q => (by rw [hn] at q; cases q), fun tg _ => i_of x h hi⟩
theorem res_f (x : XOk X B) {m : Bool} {py : Expr} {e : E} (h : PE X py (tF B e)) (hf : fin m py = true) (hi : isIt e = true := by rfl) (hn : isF e = true := by rfl) : Res m X B py e := by
  have h2 := s_ofF x h hn
  cases m with
  | true => exact t_val x h2 (plain_true (by simpa [fin] using hf))
  | false => exact ⟨h2, fun _ => h, fun tg _ => i_of x h2 hi⟩
/-- what never ends well -/
theorem pe_no {py : Expr} {e : E} (hn : ∀ Γ Ex σ h Q, ¬ wpE Γ Ex e σ h Q) : PE X py (tE B e) := ⟨fun pins s σ H Q I ⟨W, σd, h, _, _, w⟩ => (hn _ _ _ _ _ w).elim⟩
theorem Res.pe {py : Expr} {e : E} (h : Res false X B py e) : PE X py (tE B e) := h.1
theorem Res.pt {py : Expr} {e : E} (h : Res true X B py e) : PT X py (tT B e) := h
theorem nb (op : Op) : binaryOp (pyOp op) = binaryOp (match op with | .add => .Add | .sub => .Sub | .mul => .Mult | .fdiv => .FloorDiv | .mod => .Mod | .pow => .Pow) := by cases op <;> rfl
end
end Mi

set_option linter.all false
set_option maxRecDepth 100000
set_option maxHeartbeats 4000000
namespace Mi
open PySem PySem.Spec PyProof.Rows L2
/-! ## the look is sound: expressions -/
theorem len_cons {α : Type} {a : α} {l : List α} : (a :: l).length < 20 → l.length < 20 := fun h => by simp at h; omega
section
variable {X : Cx} {B : Bx} {pos : Pos}
theorem bi_fn (x : XOk X B) {b : Bi} {n : String} {p2 : Pos} {a : Expr} {as : List Expr} {es : Es} (hb : biN b = some (true, n)) (hg : Gl X (Str.ofString n)) (ha : PA X (a :: as) (tEs B es)) (hA : (a :: as).all okA = true) : PE X (.Call (.Name (Str.ofString n) p2) (a :: as) [] pos) (tE B (.bi b es)) := by
  rw [List.all_cons, Bool.and_eq_true] at hA
  have go : ∀ {id : String} (hc : CallR X (.builtin id) (rBi B b)) (hv : bootBuiltins (Str.ofString n) = some (.builtin id)) (hm : X.mg (Str.ofString n) = none) (h1 : Str.ofString n ≠ "__name__") (h2 : (Str.ofString n == ("__debug__" : Str)) = false), PE X (.Call (.Name (Str.ofString n) p2) (a :: as) [] pos) (tE B (.bi b es)) :=
    fun hc hv hm h1 h2 => s_biF x hc hg hm hv ha h1 h2 (okA_star hA.1) (any_star hA.2)
  cases b <;> simp only [biN, Option.some.injEq, Prod.mk.injEq, Bool.true_eq_false, Bool.false_eq_true, false_and, reduceCtorEq, true_and] at hb <;> subst hb
  · exact go (b_len x) boot_len (free_ok x) (by decide) (by decide)
  · exact go (b_all x) boot_all (free_ok x) (by decide) (by decide)
  · exact go (b_any x) boot_any (free_ok x) (by decide) (by decide)
  · exact go (b_sum x) boot_sum (free_ok x) (by decide) (by decide)
  · exact go (b_min2 x) boot_min (free_ok x) (by decide) (by decide)
  · exact go (b_max1 x) boot_max (free_ok x) (by decide) (by decide)
  · exact go (b_sortedS x) boot_sorted (free_ok x) (by decide) (by decide)
  · exact go (b_sortedI x) boot_sorted (free_ok x) (by decide) (by decide)
  · exact go (b_sortedP x) boot_sorted (free_ok x) (by decide) (by decide)
theorem bi_ty (x : XOk X B) {b : Bi} {n : String} {p2 : Pos} {a : Expr} {as : List Expr} {es : Es} (hb : biN b = some (false, n)) (hg : Gl X (Str.ofString n)) (ha : PA X (a :: as) (tEs B es)) (hA : (a :: as).all okA = true) : PE X (.Call (.Name (Str.ofString n) p2) (a :: as) [] pos) (tE B (.bi b es)) := by
  rw [List.all_cons, Bool.and_eq_true] at hA
  have go : ∀ {id : String} (hc : CallR X (.type id) (rBi B b)) (hv : bootBuiltins (Str.ofString n) = some (.type id)) (hm : X.mg (Str.ofString n) = none) (h1 : Str.ofString n ≠ "__name__") (h2 : (Str.ofString n == ("__debug__" : Str)) = false), PE X (.Call (.Name (Str.ofString n) p2) (a :: as) [] pos) (tE B (.bi b es)) :=
    fun hc hv hm h1 h2 => s_biT x hc hg hm hv ha h1 h2 (okA_star hA.1) (any_star hA.2)
  cases b <;> simp only [biN, Option.some.injEq, Prod.mk.injEq, Bool.true_eq_false, Bool.false_eq_true, false_and, reduceCtorEq, true_and] at hb <;> subst hb
  · exact go (b_tuple x) boot_tuple (free_ok x) (by decide) (by decide)
  · exact go b_strOf boot_str (free_ok x) (by decide) (by decide)
  · exact go b_intOf boot_int (free_ok x) (by decide) (by decide)
theorem bm_ok (x : XOk X B) {b : Bi} {n : String} {o : Expr} {as : List Expr} {eo : E} {es : Es} {apos : Pos} (hb : bmN b = some n) (ho : PE X o (tE B eo)) (hoo : okO o = true) (ha : PA X as (tEs B es)) (hA : as.all okA = true) (hl : as.length < 20) (hline : (apos.endLine == pos.line) = true) (hnil : as = [] → es = .nil) :
    PE X (.Call (.Attribute o (Str.ofString n) apos) as [] pos) (tE B (.bim b eo es)) := by
  have go : ∀ {id : String} (pa : PlainAttrs (tyB b)) (slot : Slot (tyB b) (Str.ofString n) id) (hty : typeOf (.builtin id) = pure (.type "method_descriptor")) (hm : MtR X id (rBm B b)), PE X (.Call (.Attribute o (Str.ofString n) apos) as [] pos) (tE B (.bim b eo es)) := by
    intro id pa slot hty hm
    cases as with
    | nil =>
      rw [hnil rfl]
      exact s_bim0 x pa slot hty hm ho (base_ok hoo) hline
    | cons a as =>
      have h2 := hA
      rw [List.all_cons, Bool.and_eq_true] at h2
      exact s_bim x pa slot hty hm ho ha (base_ok hoo) (few_ok hA hl) hline (okA_star h2.1) (any_star h2.2)
  cases b <;> simp only [bmN, Option.some.injEq, reduceCtorEq] at hb <;> subst hb
  · exact go PySem.F.plainAttrs_str PySem.F.slot_str_join PySem.F.type_str_join (m_join x)
  · exact go PySem.F.plainAttrs_str PySem.F.slot_str_startswith PySem.F.type_str_startswith m_starts
  · exact go PySem.F.plainAttrs_str PySem.F.slot_str_endswith PySem.F.type_str_endswith m_ends
  · exact go PySem.F.plainAttrs_str PySem.F.slot_str_index PySem.F.type_str_index m_index
  · exact go PySem.F.plainAttrs_str PySem.F.slot_str_split PySem.F.type_str_split m_split
  · exact go PySem.F.plainAttrs_list PySem.F.slot_list_append PySem.F.type_list_append m_append
  · exact go PySem.F.plainAttrs_list PySem.F.slot_list_extend PySem.F.type_list_extend m_extend
  · exact go PySem.F.plainAttrs_list PySem.F.slot_list_pop PySem.F.type_list_pop m_pop
  · exact go PySem.F.plainAttrs_dict PySem.F.slot_dict_get PySem.F.type_dict_get (m_get1 x)
  · exact go PySem.F.plainAttrs_dict PySem.F.slot_dict_get PySem.F.type_dict_get (m_get2 x)
end
end Mi

set_option linter.all false
set_option maxRecDepth 100000
set_option maxHeartbeats 4000000
namespace Mi
open PySem PySem.Spec PyProof.Rows L2
section
variable {X : Cx} {B : Bx} {pos : Pos}
theorem xok_blk (x : XOk X B) (s : Shared) (H : Hp) (scope : Scope) (cenv : Env) (fp : List Addr) (W0 : Wo) : XOk (X.blk s H scope cenv fp) { B with Ex := fun _ _ => False, W0 := W0 } where
  P := x.P
  w := x.w
  K := x.K
  mg := x.mg
  base := x.base
  calm := x.calm
  nd := x.nd
  mono := x.mono
  room := x.room
  roomL := x.roomL
  wr := x.wr
  gm := x.gm
  gi := x.gi
  go := x.go
  gg := x.gg
  tk := fun u s' ⟨_, _, _, _, _, _, _, _, _, _, _, _, _, _, _, _, _, _, _, _, _, _, _, w⟩ => w.2.elim
  po := PassesOwn.never
  fn := x.fn
/-- names at places -/
theorem pgs_names {N : List Str} (hN : X.N.Nodup) (hX : X.N = N) : ∀ {xs : List Str} {is : List Nat} {es : List Expr}, tgNames.go es = some xs → xs.length = is.length → (∀ p ∈ xs.zip is, N[p.2]? = some p.1 ∧ L2.Loc X.env.scope p.1 ∧ (X.fn p.1 = true ∨ X.env.scope.names.lookup p.1 = some .local)) →
    PGs X es (gNames is) ∧ (assignEach es X.env).length = is.length ∧ (assignEach es X.env).findIdx? (·.1) = none
  | xs, is, [], e, hl, h => by
    simp only [tgNames.go, Option.some.injEq] at e
    subst e
    cases is with
    | nil => exact ⟨pgs_nil, rfl, rfl⟩
    | cons _ _ => simp at hl
  | xs, is, .Name x p :: es, e, hl, h => by
    simp only [tgNames.go] at e
    cases e2 : tgNames.go es with
    | none => rw [e2] at e; cases e
    | some ys =>
      rw [e2] at e
      cases e
      cases is with
      | nil => simp at hl
      | cons i is =>
        obtain ⟨h1, h2, h3⟩ := pgs_names hN hX (is := is) e2 (by simpa using hl) (fun p hp => h p (by simp [hp]))
        obtain ⟨g1, g2, g3⟩ := h (x, i) (by simp)
        have hst : assignEach (.Name x p :: es) X.env = (false, assign (.Name x p) X.env) :: assignEach es X.env := rfl
        refine ⟨pgs_cons (pg_name hN (by rw [hX]; exact g1) g2 g3) h1 (by rw [hst]; rfl), by rw [hst, List.length_cons, h2]; rfl, ?_⟩
        rw [hst, List.findIdx?_cons, h3]
        rfl
  | xs, is, .BoolOp _ _ _ :: _, e, _, _ => by simp [tgNames.go] at e
  | xs, is, .NamedExpr _ _ _ :: _, e, _, _ => by simp [tgNames.go] at e
  | xs, is, .BinOp _ _ _ _ :: _, e, _, _ => by simp [tgNames.go] at e
  | xs, is, .UnaryOp _ _ _ :: _, e, _, _ => by simp [tgNames.go] at e
  | xs, is, .Lambda _ _ _ _ :: _, e, _, _ => by simp [tgNames.go] at e
  | xs, is, .IfExp _ _ _ _ :: _, e, _, _ => by simp [tgNames.go] at e
  | xs, is, .Dict _ _ _ :: _, e, _, _ => by simp [tgNames.go] at e
  | xs, is, .Set _ _ _ :: _, e, _, _ => by simp [tgNames.go] at e
  | xs, is, .ListComp _ _ _ _ :: _, e, _, _ => by simp [tgNames.go] at e
  | xs, is, .SetComp _ _ _ _ :: _, e, _, _ => by simp [tgNames.go] at e
  | xs, is, .DictComp _ _ _ _ _ :: _, e, _, _ => by simp [tgNames.go] at e
  | xs, is, .GeneratorExp _ _ _ _ :: _, e, _, _ => by simp [tgNames.go] at e
  | xs, is, .Await _ _ :: _, e, _, _ => by simp [tgNames.go] at e
  | xs, is, .Yield _ _ :: _, e, _, _ => by simp [tgNames.go] at e
  | xs, is, .YieldFrom _ _ :: _, e, _, _ => by simp [tgNames.go] at e
  | xs, is, .Compare _ _ _ _ :: _, e, _, _ => by simp [tgNames.go] at e
  | xs, is, .Call _ _ _ _ :: _, e, _, _ => by simp [tgNames.go] at e
  | xs, is, .FormattedValue _ _ _ _ :: _, e, _, _ => by simp [tgNames.go] at e
  | xs, is, .JoinedStr _ _ :: _, e, _, _ => by simp [tgNames.go] at e
  | xs, is, .Constant _ _ _ :: _, e, _, _ => by simp [tgNames.go] at e
  | xs, is, .Attribute _ _ _ :: _, e, _, _ => by simp [tgNames.go] at e
  | xs, is, .Subscript _ _ _ :: _, e, _, _ => by simp [tgNames.go] at e
  | xs, is, .Starred _ _ :: _, e, _, _ => by simp [tgNames.go] at e
  | xs, is, .List _ _ :: _, e, _, _ => by simp [tgNames.go] at e
  | xs, is, .Tuple _ _ _ :: _, e, _, _ => by simp [tgNames.go] at e
  | xs, is, .Slice _ _ _ _ :: _, e, _, _ => by simp [tgNames.go] at e
theorem pw_of {op : BoolOp} {vs : List Expr} {t : TT} (h : PT X (.BoolOp op vs pos) t) : PW X (.BoolOp op vs pos) t := ⟨fun wh pins s σ H Q I w => h.run pins s σ H Q I w⟩
theorem pg_of (hc : X.calm = true) (hN : X.N.Nodup) {N : List Str} (hX : X.N = N) {t : Expr} {tp : Bool} {xs : List Str} {is : List Nat} (e : tgNames t = some (tp, xs)) (hl : xs.length = is.length) (h1 : tp = true ∨ is.length = 1)
    (h : ∀ p ∈ xs.zip is, N[p.2]? = some p.1 ∧ L2.Loc X.env.scope p.1 ∧ (X.fn p.1 = true ∨ X.env.scope.names.lookup p.1 = some .local)) : PG X t (gOf X.K tp is) := by
  cases t with
  | Name x p =>
    simp only [tgNames, Option.some.injEq, Prod.mk.injEq] at e
    obtain ⟨rfl, rfl⟩ := e
    have h1 := h1.resolve_left (by simp)
    match is, h1 with
    | [i], _ =>
      obtain ⟨g1, g2, g3⟩ := h (x, i) (by simp)
      exact pg_name hN (by rw [hX]; exact g1) g2 g3
  | Tuple es k p =>
    simp only [tgNames] at e
    cases e2 : tgNames.go es with
    | none => rw [e2] at e; cases e
    | some ys =>
      rw [e2] at e
      cases e
      obtain ⟨g1, g2, g3⟩ := pgs_names hN hX e2 hl h
      exact pg_tup hc g1 g2 g3
  | _ => simp [tgNames] at e
end
mutual
theorem ck_ok : ∀ (e : E) (c : Cc) (m : Bool) (py : Expr) (X : Cx) (B : Bx), XOk X B → CkOk c X B → ck c m e py = true → Res m X B py e
  | .non, c, m, py, X, B, x, k, h => by
    simp only [ck, Bool.and_eq_true] at h
    obtain ⟨h, hf⟩ := h
    split at h
    · exact res_v x s_non hf
    · cases h
  | .bl b, c, m, py, X, B, x, k, h => by
    simp only [ck, Bool.and_eq_true] at h
    obtain ⟨h, hf⟩ := h
    split at h
    · rw [eq_of_beq h]
      exact res_v x s_bl hf
    · cases h
  | .int i, c, m, py, X, B, x, k, h => by
    simp only [ck, Bool.and_eq_true] at h
    obtain ⟨h, hf⟩ := h
    split at h
    · rw [eq_of_beq h]
      exact res_v x s_int hf
    · cases h
  | .str s, c, m, py, X, B, x, k, h => by
    simp only [ck, Bool.and_eq_true] at h
    obtain ⟨h, hf⟩ := h
    split at h
    · exact res_v x (s_str (eq_of_beq h)) hf
    · cases h
  | .var i, c, m, py, X, B, x, k, h => by
    simp only [ck, Bool.and_eq_true] at h
    obtain ⟨h, hf⟩ := h
    split at h
    · simp only [Bool.and_eq_true, decide_eq_true_eq] at h
      obtain ⟨⟨h1, h2⟩, h3⟩ := h
      have := plainN_ok h3
      exact res_v x (s_var (by rw [k.N]; exact h1) (k.vis h2) this.1 this.2.1) hf
    · cases h
  | .gl g, c, m, py, X, B, x, k, h => by
    simp only [ck, Bool.and_eq_true] at h
    obtain ⟨h, hf⟩ := h
    split at h
    · simp only [Bool.and_eq_true, decide_eq_true_eq] at h
      obtain ⟨⟨⟨h1, h2⟩, h3⟩, h4⟩ := h
      obtain ⟨d, hd⟩ := Option.isSome_iff_exists.mp h1
      rw [k.T] at hd h2
      obtain ⟨v, u, g1, g2, g3⟩ := x.wr.con g d hd
      rw [h2] at g1
      exact res_v x (s_gl (k.gl h3) (by rw [x.mg]; exact g1) g2 (plainN_ok h4).1 (by rw [x.gg]; exact hd) g3) hf
    · cases h
  | .fn f, c, m, py, X, B, x, k, h => by
    simp only [ck, Bool.and_eq_true] at h
    obtain ⟨h, hf⟩ := h
    split at h
    · simp only [Bool.and_eq_true, decide_eq_true_eq] at h
      obtain ⟨⟨⟨⟨h0, h1⟩, h2⟩, h3⟩, h4⟩ := h
      rw [k.T] at h0 h1 h2
      have g := x.wr.glo f h1
      rw [h2] at g
      exact res_v x (s_fn h0 (k.gl h3) (by rw [x.mg]; exact g) (plainN_ok h4).1) hf
    · cases h
  | .tup es, c, m, py, X, B, x, k, h => by
    simp only [ck, Bool.and_eq_true] at h
    obtain ⟨h, hf⟩ := h
    split at h
    · exact res_v x (s_tup x (cks_ok es c _ X B x k h)) hf
    · cases h
  | .lst es, c, m, py, X, B, x, k, h => by
    simp only [ck, Bool.and_eq_true] at h
    obtain ⟨h, hf⟩ := h
    split at h
    · exact res_f x (f_lst x (cks_ok es c _ X B x k h)) hf
    · cases h
  | .mk e, c, m, py, X, B, x, k, h => by
    simp only [ck, Bool.and_eq_true] at h
    obtain ⟨⟨h1, h⟩, hf⟩ := h
    exact res_v x (s_mk x ((ck_ok e c false py X B x k h).2.1 h1)) hf
  | .dnew b, c, m, py, X, B, x, k, h => by
    simp only [ck, Bool.and_eq_true] at h
    obtain ⟨h, hf⟩ := h
    split at h
    · exact res_v x (s_dnew x b) hf
    · cases h
  | .done a b, c, m, py, X, B, x, k, h => by
    simp only [ck, Bool.and_eq_true] at h
    obtain ⟨h, hf⟩ := h
    split at h
    · simp only [Bool.and_eq_true] at h
      exact res_v x (s_done x (ck_ok a c false _ X B x k h.1).pe (ck_ok b c false _ X B x k h.2).pe) hf
    · cases h
  | .fld e f, c, m, py, X, B, x, k, h => by
    simp only [ck, Bool.and_eq_true] at h
    obtain ⟨h, hf⟩ := h
    split at h
    · simp only [Bool.and_eq_true, decide_eq_true_eq] at h
      obtain ⟨⟨h1, h2⟩, h3⟩ := h
      rw [k.T] at h2
      subst h2
      exact res_v x (s_fld x (ck_ok e c false _ X B x k h3).pe (base_ok h1)) hf
    · cases h
  | .ix a b, c, m, py, X, B, x, k, h => by
    simp only [ck, Bool.and_eq_true] at h
    obtain ⟨h, hf⟩ := h
    split at h
    · simp only [Bool.and_eq_true] at h
      obtain ⟨⟨h1, h2⟩, h3⟩ := h
      exact res_v x (s_ix x (ck_ok a c false _ X B x k h2).pe (ck_ok b c false _ X B x k h3).pe (notarg h1)) hf
    · cases h
  | .sl a lo hi, c, m, py, X, B, x, k, h => by
    simp only [ck, Bool.and_eq_true] at h
    obtain ⟨h, hf⟩ := h
    split at h
    · simp only [Bool.and_eq_true] at h
      obtain ⟨⟨h1, h2⟩, h3⟩ := h
      refine res_v x (s_sl x (ck_ok a c false _ X B x k h1).pe ?_ ?_) hf
      · split at h2
        · cases lo <;> first | exact o_none | (simp [isNon] at h2)
        · simp only [Bool.and_eq_true, Bool.not_eq_true'] at h2
          exact o_some x (ck_ok lo c false _ X B x k h2.2).pe h2.1
      · split at h3
        · cases hi <;> first | exact o_none | (simp [isNon] at h3)
        · simp only [Bool.and_eq_true, Bool.not_eq_true'] at h3
          exact o_some x (ck_ok hi c false _ X B x k h3.2).pe h3.1
    · cases h
  | .neg a, c, m, py, X, B, x, k, h => by
    simp only [ck, Bool.and_eq_true] at h
    obtain ⟨h, hf⟩ := h
    split at h
    · exact res_v x (s_neg x (ck_ok a c false _ X B x k h).pe) hf
    · cases h
  | .op o a b, c, m, py, X, B, x, k, h => by
    simp only [ck, Bool.and_eq_true] at h
    obtain ⟨h, hf⟩ := h
    split at h
    · simp only [Bool.and_eq_true, decide_eq_true_eq] at h
      obtain ⟨⟨h1, h2⟩, h3⟩ := h
      subst h1
      exact res_v x (s_op x (by rw [nb]; exact r_op x o) (ck_ok a c false _ X B x k h2).pe (ck_ok b c false _ X B x k h3).pe) hf
    · cases h
  | .opl o a b, c, m, py, X, B, x, k, h => by
    simp only [ck, Bool.and_eq_true] at h
    obtain ⟨h, hf⟩ := h
    split at h
    · simp only [Bool.and_eq_true, decide_eq_true_eq] at h
      obtain ⟨⟨⟨h0, h1⟩, h2⟩, h3⟩ := h
      subst h1
      rcases h0 with rfl | rfl
      · exact res_f x (f_opl x r_cat (ck_ok a c false _ X B x k h2).pe (ck_ok b c false _ X B x k h3).pe) hf
      · exact res_f x (f_opl x r_rep (ck_ok a c false _ X B x k h2).pe (ck_ok b c false _ X B x k h3).pe) hf
    · cases h
  | .cmp o a b, c, m, py, X, B, x, k, h => by
    simp only [ck] at h
    split at h
    · simp only [Bool.and_eq_true, decide_eq_true_eq] at h
      obtain ⟨⟨⟨h1, h2⟩, h3⟩, h4⟩ := h
      subst h1
      have e : pyCm o = cmOp o := by cases o <;> rfl
      rw [e]
      have ha := (ck_ok a c false _ X B x k h3).pe
      have hb := (ck_ok b c false _ X B x k h4).pe
      cases m with
      | true => exact t_cmp x (r_cmp x o) ha hb (notSet_mark h2)
      | false => exact ⟨s_cmp x (r_cmp x o) ha hb (notSet_mark h2), fun q => (by cases q), fun tg _ => i_of x (s_cmp x (r_cmp x o) ha hb (notSet_mark h2)) rfl⟩
    · cases h
  | .chain a b d, c, m, py, X, B, x, k, h => by
    simp only [ck] at h
    split at h
    · simp only [Bool.and_eq_true] at h
      obtain ⟨⟨⟨h1, h2⟩, h3⟩, h4⟩ := h
      have ha := (ck_ok a c false _ X B x k h2).pe
      have hb := (ck_ok b c false _ X B x k h3).pe
      have hd := (ck_ok d c false _ X B x k h4).pe
      have hm : lastMarks [CmpOp.LtE, CmpOp.LtE] [‹Expr›, ‹Expr›] = false := notSet_mark h1
      cases m with
      | true => exact t_chain x ha hb hd (notSet_mark h1)
      | false => exact ⟨s_chain x ha hb hd (notSet_mark h1), fun q => (by cases q), fun tg _ => i_of x (s_chain x ha hb hd (notSet_mark h1)) rfl⟩
    · cases h
  | .and a b, c, m, py, X, B, x, k, h => by
    simp only [ck] at h
    split at h
    · rename_i y z p
      simp only [Bool.and_eq_true] at h
      have ha := ck_ok a c m _ X B x k h.1
      have hb := ck_ok b c m _ X B x k h.2
      cases m with
      | true => exact (w_and x ha (w_one (pos := p) .And hb)).pt
      | false =>
        have := s_and (pos := p) x ha.pe (s_one .And hb.pe)
        exact ⟨this, fun q => (by cases q), fun tg _ => i_of x this rfl⟩
    · simp only [Bool.and_eq_true] at h
      have ha := ck_ok a c m _ X B x k h.1
      have hb := ck_ok b c m _ X B x k h.2
      cases m with
      | true => exact (w_and x ha (pw_of hb)).pt
      | false =>
        have := s_and x ha.pe hb.pe
        exact ⟨this, fun q => (by cases q), fun tg _ => i_of x this rfl⟩
    · cases h
  | .or a b, c, m, py, X, B, x, k, h => by
    simp only [ck] at h
    split at h
    · rename_i y z p
      simp only [Bool.and_eq_true] at h
      have ha := ck_ok a c m _ X B x k h.1
      have hb := ck_ok b c m _ X B x k h.2
      cases m with
      | true => exact (w_or x ha (w_one (pos := p) .Or hb)).pt
      | false =>
        have := s_or (pos := p) x ha.pe (s_one .Or hb.pe)
        exact ⟨this, fun q => (by cases q), fun tg _ => i_of x this rfl⟩
    · simp only [Bool.and_eq_true] at h
      have ha := ck_ok a c m _ X B x k h.1
      have hb := ck_ok b c m _ X B x k h.2
      cases m with
      | true => exact (w_or x ha (pw_of hb)).pt
      | false =>
        have := s_or x ha.pe hb.pe
        exact ⟨this, fun q => (by cases q), fun tg _ => i_of x this rfl⟩
    · cases h
  | .not a, c, m, py, X, B, x, k, h => by
    simp only [ck] at h
    split at h
    · rename_i y p
      have ha := ck_ok a c m _ X B x k h
      cases m with
      | true => exact t_not x ha
      | false =>
        have := s_not (pos := p) x ha.pe
        exact ⟨this, fun q => (by cases q), fun tg _ => i_of x this rfl⟩
    · cases h
  | .tru a, c, m, py, X, B, x, k, h => by
    simp only [ck, Bool.and_eq_true] at h
    obtain ⟨⟨h1, h2⟩, h3⟩ := h
    subst h1
    exact t_tru x (ck_ok a c false _ X B x k h2).pe (plain_true h3)
  | .ite t a b, c, m, py, X, B, x, k, h => by
    simp only [ck] at h
    split at h
    · rename_i y1 y2 y3 p
      simp only [Bool.and_eq_true, Bool.not_eq_true'] at h
      obtain ⟨⟨⟨h1, h2⟩, h3⟩, h4⟩ := h
      subst h1
      have := s_ite (pos := p) x (ck_ok t c true _ X B x k h2).pt (ck_ok a c false _ X B x k h3).pe (ck_ok b c false _ X B x k h4).pe
      exact ⟨this, fun q => (by cases q), fun tg _ => i_of x this rfl⟩
    · cases h
  | .call f es, c, m, py, X, B, x, k, h => by
    simp only [ck, Bool.and_eq_true] at h
    obtain ⟨h, hf⟩ := h
    split at h
    · rename_i n p ps q
      simp only [Bool.and_eq_true, decide_eq_true_eq] at h
      obtain ⟨⟨⟨⟨⟨h1, h2⟩, h3⟩, h4⟩, h5⟩, h6⟩ := h
      rw [k.T] at h1 h2 h3
      subst h3
      have ha := cks_ok es c _ X B x k h6
      have hA := cks_all es _ h6
      cases ps with
      | nil =>
        cases es with
        | nil => exact res_v x (s_call0 x h1 h2 (k.gl h4) (plainN_ok h5).1) hf
        | cons e es => simp [cks] at h6
      | cons a as =>
        rw [List.all_cons, Bool.and_eq_true] at hA
        exact res_v x (s_call x h1 h2 (k.gl h4) ha (plainN_ok h5).1 (okA_star hA.1) (any_star hA.2)) hf
    · cases h
  | .make f es, c, m, py, X, B, x, k, h => by
    simp only [ck, Bool.and_eq_true] at h
    obtain ⟨h, hf⟩ := h
    split at h
    · simp only [Bool.and_eq_true, decide_eq_true_eq] at h
      obtain ⟨⟨⟨⟨⟨h1, h2⟩, h3⟩, h4⟩, h5⟩, h6⟩ := h
      rw [k.T] at h1 h2 h3
      subst h3
      have ha := cks_ok es c _ X B x k h6
      have hA := cks_all es _ h6
      rw [List.all_cons, Bool.and_eq_true] at hA
      exact res_v x (s_make x h1 h2 (k.gl h4) ha (plainN_ok h5).1 (okA_star hA.1) (any_star hA.2)) hf
    · cases h
  | .meth f o es, c, m, py, X, B, x, k, h => by
    simp only [ck, Bool.and_eq_true] at h
    obtain ⟨h, hf⟩ := h
    split at h
    · rename_i y n p ps q
      simp only [Bool.and_eq_true, decide_eq_true_eq] at h
      obtain ⟨⟨⟨⟨⟨⟨⟨h1, h2⟩, h3⟩, h4⟩, h5⟩, h6⟩, h7⟩, h8⟩ := h
      rw [k.T] at h1 h2 h3
      subst h3
      have ho := (ck_ok o c false _ X B x k h7).pe
      have ha := cks_ok es c _ X B x k h8
      have hA := cks_all es _ h8
      cases ps with
      | nil =>
        cases es with
        | nil => exact res_v x (s_meth0 x h1 h2 ho (meth_eq h4 hA h6 h5)) hf
        | cons e es => simp [cks] at h8
      | cons a as =>
        have hB := hA
        rw [List.all_cons, Bool.and_eq_true] at hB
        exact res_v x (s_meth x h1 h2 ho ha (okA_star hB.1) (any_star hB.2) (meth_eq h4 hA h6 h5)) hf
    · cases h
  | .callv f es, c, m, py, X, B, x, k, h => by
    simp only [ck, Bool.and_eq_true] at h
    obtain ⟨h, hf⟩ := h
    split at h
    · simp only [Bool.and_eq_true] at h
      have ha := cks_ok es c _ X B x k h.2
      have hA := cks_all es _ h.2
      rw [List.all_cons, Bool.and_eq_true] at hA
      exact res_v x (s_callv x (ck_ok f c false _ X B x k h.1).pe ha (okA_star hA.1) (any_star hA.2) rfl) hf
    · cases h
  | .bi b es, c, m, py, X, B, x, k, h => by
    simp only [ck, Bool.and_eq_true] at h
    obtain ⟨h, hf⟩ := h
    split at h
    · simp only [Bool.and_eq_true, decide_eq_true_eq] at h
      obtain ⟨⟨⟨⟨h1, h2⟩, h3⟩, h4⟩, h6⟩ := h
      subst h1 h2
      cases es with
      | nil => simp [cks] at h6
      | cons e es2 =>
        cases es2 with
        | cons _ _ => simp [cks] at h6
        | nil =>
          simp only [cks, Bool.and_eq_true, and_true] at h6
          exact res_v x (s_lrange x (ck_ok e c false _ X B x k h6.2).pe (k.gl h3) (free_ok x) (k.gl h4) (free_ok x) (okA_star rfl) (okA_star h6.1)) hf
    · simp only [Bool.and_eq_true, decide_eq_true_eq] at h
      obtain ⟨⟨⟨⟨h1, h2⟩, h3⟩, h4⟩, h6⟩ := h
      subst h1 h2
      cases es with
      | nil => simp [cks] at h6
      | cons e es2 =>
        cases es2 with
        | cons _ _ => simp [cks] at h6
        | nil =>
          simp only [cks, Bool.and_eq_true, and_true] at h6
          exact res_v x (s_setlen x (k.gl h3) (free_ok x) (k.gl h4) (free_ok x) (ck_ok e c false _ X B x k h6.2).pe (okA_star h6.1) (okA_star rfl)) hf
    · simp only [Bool.and_eq_true, decide_eq_true_eq] at h
      obtain ⟨⟨⟨⟨⟨⟨h0, h1⟩, h2⟩, h3⟩, h5⟩, h6⟩, h7⟩ := h
      subst h1 h2
      cases es with
      | nil => simp [cks] at h7
      | cons e es2 =>
        cases es2 with
        | cons _ _ => simp [cks] at h7
        | nil =>
          simp only [cks, Bool.and_eq_true, and_true] at h7
          refine res_v x (s_starts x (eq_of_beq h5) (by rw [← k.T]; exact h0) (ck_ok e c false _ X B x k h7.2).pe (k.gl h3) ⟨rfl, few_ok (by rw [List.all_cons, h7.1]; rfl) (by simp), h6, by rw [okA_star h7.1]; rfl⟩) hf
    · simp only [Bool.and_eq_true] at h
      obtain ⟨⟨h1, h2⟩, h3⟩ := h
      have ha := cks_ok _ c _ X B x k h3
      have hA := cks_all _ _ h3
      split at h1
      · rename_i bb n hb
        simp only [decide_eq_true_eq] at h1
        subst h1
        cases bb with
        | true => exact res_v x (bi_fn x hb (k.gl h2) ha hA) hf
        | false => exact res_v x (bi_ty x hb (k.gl h2) ha hA) hf
      · cases h1
    · cases h
  | .bim b o es, c, m, py, X, B, x, k, h => by
    simp only [ck, Bool.and_eq_true] at h
    obtain ⟨h, hf⟩ := h
    split at h
    · rename_i y n p ps q
      simp only [Bool.and_eq_true, decide_eq_true_eq] at h
      obtain ⟨⟨⟨⟨⟨h1, h2⟩, h3⟩, h4⟩, h5⟩, h6⟩ := h
      split at h1
      · rename_i n' hb
        simp only [decide_eq_true_eq] at h1
        subst h1
        refine res_v x (bm_ok x hb (ck_ok o c false _ X B x k h5).pe h2 (cks_ok es c _ X B x k h6) (cks_all es _ h6) h4 h3 fun e => ?_) hf
        subst e
        cases es with
        | nil => rfl
        | cons e es => simp [cks] at h6
      · cases h1
    · cases h
  | .isi e t, c, m, py, X, B, x, k, h => by
    simp only [ck, Bool.and_eq_true] at h
    obtain ⟨h, hf⟩ := h
    split at h
    · simp only [Bool.and_eq_true, decide_eq_true_eq] at h
      obtain ⟨⟨⟨⟨⟨h1, h2⟩, h3⟩, h4⟩, h5⟩, h6⟩ := h
      subst h1 h2
      exact res_v x (s_isi x (ck_ok e c false _ X B x k h6).pe (k.gl h3) (free_ok x) (k.gl h4) (by cases t <;> exact free_ok x) (okA_star h5) (okA_star rfl) (any_star rfl)) hf
    · cases h
  | .comp tp tg it t e, c, m, py, X, B, x, k, h => by
    simp only [ck, Bool.and_eq_true] at h
    obtain ⟨h, hf⟩ := h
    split at h
    · split at h
      · rename_i elt tgE iter ifs scope p _ own hown
        simp only [Bool.and_eq_true] at h
        obtain ⟨⟨⟨⟨⟨h1, h2⟩, h3⟩, h4⟩, h5⟩, h6⟩ := h
        have ok : BlkOk X.N X.env.scope scope own := by rw [k.N, k.sc]; exact blkOk_by h1
        have hi : PI X tgE iter (tI B it) := (ck_ok it c false _ X B x k h4).2.2 tgE fun q => by
          rw [q] at h2; simpa using h2
        have kb : ∀ (s : Shared) (H : Hp) (C : Addr) (cl : List (Str × Addr)) (fp : List Addr) (W0 : Wo), CkOk { c with sc := relS scope c.sc } (X.blk s H scope (compEnvC scope cl C X.env) fp) { B with Ex := fun _ _ => False, W0 := W0 } := fun s H C cl fp W0 => ⟨k.T, k.N, by show relS scope X.env.scope = _; rw [k.sc]⟩
        have xb : ∀ (s : Shared) (H : Hp) (C : Addr) (cl : List (Str × Addr)) (fp : List Addr) (W0 : Wo), XOk (X.blk s H scope (compEnvC scope cl C X.env) fp) { B with Ex := fun _ _ => False, W0 := W0 } := fun s H C cl fp W0 => xok_blk x s H scope _ fp W0
        have he := fun (s : Shared) (H : Hp) (C : Addr) (cl : List (Str × Addr)) (fp : List Addr) => s_n (B := B) fun W0 => (ck_ok e _ false _ _ _ (xb s H C cl fp W0) (kb s H C cl fp W0) h5).pe
        have ht : ∀ (s : Shared) (H : Hp) (C : Addr) (cl : List (Str × Addr)) (fp : List Addr), PTs (X.blk s H scope (compEnvC scope cl C X.env) fp) ifs (tTn B t) := fun s H C cl fp => t_n fun W0 => by
          split at h6
          · split at h6
            · exact ts_nil
            · cases h6
          · exact pts_one (ck_ok t _ true _ _ _ (xb s H C cl fp W0) (kb s H C cl fp W0) h6).pt
          · cases h6
        unfold ckTg at hown
        split at hown
        · rename_i tp' xs htg
          split at hown
          · rename_i hc
            obtain ⟨c1, c2, c3, c4⟩ := hc
            cases hown
            subst c1
            rw [List.all_eq_true] at c4
            have hmap : (xs.zip tg).map (·.2) = tg := by
              rw [List.map_snd_zip]
              omega
            refine res_f x (f_comp x hi ok hmap (fun s H C cl fp => ?_) ht he (notSet_fold h3)) hf
            refine pg_of (X := X.blk s H scope (compEnvC scope cl C X.env) fp) x.calm x.nd rfl htg c2 c3 fun q hq => ?_
            have c5 := c4 q hq
            simp only [Bool.and_eq_true, decide_eq_true_eq] at c5
            have hsc : (compEnvC scope cl C X.env).scope = relS scope X.env.scope := rfl
            refine ⟨by rw [k.N]; exact c5.1, ?_⟩
            have c6 := c5.2
            split at c6
            · rename_i hl
              have := lookup_relS_keep (sc := X.env.scope) (k := .local) (by simp) hl
              exact ⟨.inl this, .inr this⟩
            · rename_i hl
              have := lookup_relS_keep (sc := X.env.scope) (k := .cell) (by simp) hl
              exact ⟨.inr this, .inl (by show (scope.names.lookup q.1 == some .cell) = true; rw [hl]; rfl)⟩
            · cases c6
          · cases hown
        · cases hown
      · cases h
    · cases h
  | .dcomp a b d, c, m, py, X, B, x, k, h => by
    simp only [ck, Bool.not_eq_true'] at h
    subst h
    have hn : ∀ Γ Ex σ h Q, ¬ wpE Γ Ex (.dcomp a b d) σ h Q := fun Γ Ex σ h Q w => by simp only [wpE] at w
    exact ⟨pe_no hn, fun q => (by cases q), fun tg _ => i_of x (pe_no hn) rfl⟩
  | .rng a, c, m, py, X, B, x, k, h => by
    simp only [ck, Bool.and_eq_true, Bool.not_eq_true'] at h
    obtain ⟨hm, h⟩ := h
    subst hm
    split at h
    · simp only [Bool.and_eq_true, decide_eq_true_eq] at h
      obtain ⟨⟨⟨h1, h2⟩, h3⟩, h4⟩ := h
      subst h1
      refine ⟨pe_no fun Γ Ex σ h Q w => by simp only [wpE] at w, fun q => (by cases q), fun tg _ => i_rng x (ck_ok a c false _ X B x k h4).pe (k.gl h2) (free_ok x) ?_ (okA_star h3)⟩
      rw [okA_star h3]; rfl
    · cases h
  | .rng2 a b, c, m, py, X, B, x, k, h => by
    simp only [ck, Bool.and_eq_true, Bool.not_eq_true'] at h
    obtain ⟨hm, h⟩ := h
    subst hm
    split at h
    · simp only [Bool.and_eq_true, decide_eq_true_eq] at h
      obtain ⟨⟨⟨⟨⟨h1, h2⟩, h3⟩, h4⟩, h5⟩, h6⟩ := h
      subst h1
      refine ⟨pe_no fun Γ Ex σ h Q w => by simp only [wpE] at w, fun q => (by cases q), fun tg _ => i_rng2 x (ck_ok a c false _ X B x k h5).pe (ck_ok b c false _ X B x k h6).pe (k.gl h2) (free_ok x) ?_ ?_ (okA_star h3) (okA_star h4)⟩
      · rw [okA_star h3, okA_star h4]; rfl
      · rw [okA_star h4]; rfl
    · cases h
  | .zip a b, c, m, py, X, B, x, k, h => by
    simp only [ck, Bool.and_eq_true, Bool.not_eq_true'] at h
    obtain ⟨hm, h⟩ := h
    subst hm
    split at h
    · simp only [Bool.and_eq_true, decide_eq_true_eq] at h
      obtain ⟨⟨⟨⟨⟨h1, h2⟩, h3⟩, h4⟩, h5⟩, h6⟩ := h
      subst h1
      refine ⟨pe_no fun Γ Ex σ h Q w => by simp only [wpE] at w, fun q => (by cases q), fun tg ht => ?_⟩
      have ht := ht rfl
      cases tg <;> first
        | (simp [isTupE] at ht; done)
        | exact i_zip x (ck_ok a c false _ X B x k h5).pe (ck_ok b c false _ X B x k h6).pe (k.gl h2) (free_ok x) (okA_star h3) (okA_star h4) (any_star (by simp [h4]))
    · cases h
  | .enum a, c, m, py, X, B, x, k, h => by
    simp only [ck, Bool.and_eq_true, Bool.not_eq_true'] at h
    obtain ⟨hm, h⟩ := h
    subst hm
    split at h
    · simp only [Bool.and_eq_true, decide_eq_true_eq] at h
      obtain ⟨⟨⟨h1, h2⟩, h3⟩, h4⟩ := h
      subst h1
      refine ⟨pe_no fun Γ Ex σ h Q w => by simp only [wpE] at w, fun q => (by cases q), fun tg ht => ?_⟩
      have ht := ht rfl
      cases tg <;> first
        | (simp [isTupE] at ht; done)
        | exact i_enu x (ck_ok a c false _ X B x k h4).pe (k.gl h2) (free_ok x) (by rw [okA_star h3]; rfl) (okA_star h3)
    · cases h
  | .keys a, c, m, py, X, B, x, k, h => by
    simp only [ck, Bool.not_eq_true'] at h
    subst h
    have hn : ∀ Γ Ex σ h Q, ¬ wpE Γ Ex (.keys a) σ h Q := fun Γ Ex σ h Q w => by simp only [wpE] at w
    exact ⟨pe_no hn, fun q => (by cases q), fun tg _ => i_val x (pe_no hn) fun Γ Ex σ h Q w => by simp only [wpI, wpE] at w⟩
theorem cks_ok : ∀ (es : Es) (c : Cc) (ps : List Expr) (X : Cx) (B : Bx), XOk X B → CkOk c X B → cks c es ps = true → PA X ps (tEs B es)
  | .nil, c, ps, X, B, x, k, h => by
    simp only [cks] at h
    split at h
    · exact sa_nil
    · cases h
  | .cons e es, c, ps, X, B, x, k, h => by
    simp only [cks] at h
    split at h
    · simp only [Bool.and_eq_true] at h
      obtain ⟨⟨h1, h2⟩, h3⟩ := h
      exact sa_cons x (ck_ok e c false _ X B x k h2).pe (cks_ok es c _ X B x k h3) (okA_star h1)
    · cases h
end
end Mi

set_option linter.all false
set_option maxRecDepth 100000
set_option maxHeartbeats 4000000
namespace Mi
open PySem PySem.Spec PyProof.Rows L2
/-! ## the look is sound: statements -/
theorem ps_no {X : Cx} {B : Bx} {st : Stmt} {s : S} (hn : ∀ Γ Ex σ h K, ¬ wpS Γ Ex s σ h K) : PS X st (tS B s) := ⟨fun pins s σ H D I ⟨W, σd, h, _, _, w⟩ => (hn _ _ _ _ _ w).elim⟩
theorem sw_no {v : Expr} {t : Option Expr} {l : Nat} {env : Env} (h : (match v with | .ListComp _ _ _ _ => false | .SetComp _ _ _ _ => false | .DictComp _ _ _ _ _ => false | _ => true) = true) : swapsWith v t l env = pure false := by
  cases v <;> first | rfl | (simp at h)
theorem sw_sub {v : Expr} {o i : Expr} {p : Pos} {l : Nat} {env : Env} : swapsWith v (some (.Subscript o i p)) l env = pure false := by
  cases v <;> rfl
theorem sw_att {v : Expr} {o : Expr} {a : Str} {p : Pos} {l : Nat} {env : Env} : swapsWith v (some (.Attribute o a p)) l env = pure false := by
  cases v <;> rfl
theorem sw_tup {v : Expr} {ts : List Expr} {k : Nat} {p : Pos} {l : Nat} {env : Env} : swapsWith v (some (.Tuple ts k p)) l env = pure false := by
  cases v <;> rfl
theorem kind_fn {X : Cx} (h : X.env.scope.kind = .function) : X.env.blockKind = .function := by
  unfold Env.blockKind
  rw [h]
  rfl
theorem sw_lc {X : Cx} (hk : X.env.scope.kind = .function) {elt : Expr} {gs : List Comprehension} {scope : Scope} {p pos : Pos} {y : Str} {l : Nat} :
    swapsWith (.ListComp elt gs scope pos) (some (.Name y p)) l X.env = pure ((X.env.scope.names.lookup y == some .local) && p.line == pos.line && !(scope.names.any fun (n, k) => n == y && (k == .local || k == .cell))) := by
  show (pure (X.env.blockKind == .function && X.env.kindOf y == some .local && p.line == pos.line && !(scope.names.any fun (n, k) => n == y && (k == .local || k == .cell))) : Sem Bool) = _
  rw [kind_fn hk]
  rfl
def isStar : Expr → Bool := fun | .Starred .. => true | _ => false
def swN (ts : List Expr) (env : Env) : List Str := ts.filterMap fun
    | .Name id pos => if env.kindOf id == some .local && pos.line == ((ts.head?.map (·.pos.line)).getD 0) then some id else none
    | _ => none
theorem sw_eq (ts vs : List Expr) (kt k2 : Nat) (pt pt2 : Pos) (env : Env) (h1 : (!(ts.length == 2 || ts.length == 3) || vs.length != ts.length || env.blockKind != .function) = false) (h2 : vs.any isStar = false) (h5 : (vs.all (foldedForSure 8) || !vs.all (constantsAlone 8)) = true) : swappedStores [.Tuple ts kt pt] (.Tuple vs k2 pt2) env =
   pure (if ((swN ts env).length != ts.length || (swN ts env).eraseDups.length != (swN ts env).length) then none else if vs.all (foldedForSure 8) then none else some (swN ts env)) := by
  unfold swappedStores
  dsimp only
  rw [h1]
  simp only [Bool.false_eq_true, if_false]
  show (if vs.any isStar = true then pure none else _) = _
  rw [if_neg (by rw [h2]; exact Bool.false_ne_true)]
  show (if ((swN ts env).length != ts.length || (swN ts env).eraseDups.length != (swN ts env).length) = true then _ else _) = _
  split
  · rfl
  · split
    · rfl
    · rename_i h3 h4
      have : (vs.all (constantsAlone 8)) = false := by
        rw [Bool.or_eq_true] at h5
        rcases h5 with h5 | h5
        · exact absurd h5 h4
        · simpa using h5
      rw [this]
      rfl

theorem swN_all {env : Env} {f : Expr → Option Str} : ∀ {ts : List Expr} {xs : List Str}, tgNames.go ts = some xs → (∀ t ∈ ts, ∀ x p, t = .Name x p → f t = none ∨ f t = some x) → (ts.filterMap f).length = ts.length → ts.filterMap f = xs
  | [], xs, h, _, _ => by
    simp only [tgNames.go, Option.some.injEq] at h
    subst h; rfl
  | t :: ts, xs, h, hf, hl => by
    cases t with
    | Name x p =>
      simp only [tgNames.go] at h
      cases e : tgNames.go ts with
      | none => rw [e] at h; cases h
      | some ys =>
        rw [e] at h; cases h
        rw [List.filterMap_cons] at hl ⊢
        rcases hf _ (by simp) x p rfl with h1 | h1
        · rw [h1] at hl
          have := List.length_filterMap_le f ts
          simp at hl
          omega
        · rw [h1] at hl ⊢
          dsimp only at hl ⊢
          rw [swN_all (env := env) e (fun t ht => hf t (by simp [ht])) (by simpa using hl)]
    | _ => simp [tgNames.go] at h
theorem sw_eq0 (ts vs : List Expr) (kt k2 : Nat) (pt pt2 : Pos) (env : Env) (h1 : (!(ts.length == 2 || ts.length == 3) || vs.length != ts.length || env.blockKind != .function) = true) : swappedStores [.Tuple ts kt pt] (.Tuple vs k2 pt2) env = pure none := by
  unfold swappedStores
  dsimp only
  rw [h1]
  rfl
theorem sw_none {t : Expr} {v : Expr} {env : Env} (h : (match t with | .Tuple _ _ _ => false | .List _ _ => false | _ => true) = true) : swappedStores [t] v env = pure none := by
  cases t <;> first | rfl | (simp at h)
theorem esLen_ok {Γ : Gam} (hΓ : Γ.Mono) {X : PX} : ∀ {es : Es} {σ h Q}, wpEs Γ X es σ h Q → wpEs Γ X es σ h fun ds h => ds.length = esLen es ∧ Q ds h
  | .nil, σ, h, Q, w => by
    simp only [wpEs] at w ⊢
    exact ⟨rfl, w⟩
  | .cons e es, σ, h, Q, w => by
    simp only [wpEs] at w ⊢
    refine wpE_mono hΓ e _ _ _ _ _ _ (fun _ _ z => z) (fun d h w => ?_) w
    refine wpEs_mono hΓ es _ _ _ _ _ _ (fun _ _ z => z) (fun ds h w => ⟨?_, w.2⟩) (esLen_ok hΓ w)
    simp [esLen, w.1]
theorem cks_len {c : Cc} : ∀ {es : Es} {ps : List Expr}, cks c es ps = true → esLen es = ps.length
  | .nil, ps, h => by
    simp only [cks] at h
    split at h
    · rfl
    · cases h
  | .cons e es, ps, h => by
    simp only [cks] at h
    split at h
    · simp only [Bool.and_eq_true] at h
      simp [esLen, cks_len h.2]
    · cases h
theorem all_noStar : ∀ {vs : List Expr}, vs.all okA = true → vs.any isStar = false
  | [], _ => rfl
  | v :: vs, h => by
    rw [List.all_cons, Bool.and_eq_true] at h
    rw [List.any_cons, all_noStar h.2]
    have : isStar v = false := by
      cases v <;> first | rfl | (simp [okA] at h)
    rw [this]; rfl
structure CkS (c : Cc) (X : Cx) (B : Bx) : Prop extends CkOk c X B where
  kind : X.env.scope.kind = .function
  fn : ∀ x, X.fn x = true
/-- the parts of a comprehension -/
theorem ck_comp {tp : Bool} {tg : List Nat} {it t e : E} {c : Cc} {m : Bool} {X : Cx} {B : Bx} {elt : Expr} {gs : List Comprehension} {scope : Scope} {p : Pos} (x : XOk X B) (k : CkOk c X B) (h : ck c m (.comp tp tg it t e) (.ListComp elt gs scope p) = true) :
    ∃ tgE iter ifs own, gs = [⟨tgE, iter, ifs, 0⟩] ∧ PI X tgE iter (tI B it) ∧ BlkOk X.N X.env.scope scope own ∧ own.map (·.2) = tg ∧
    (∀ (s : Shared) (H : Hp) (C : Addr) (cl : List (Str × Addr)) (fp : List Addr), PG (X.blk s H scope (compEnvC scope cl C X.env) fp) tgE (gOf X.K tp tg)) ∧
    (∀ (s : Shared) (H : Hp) (C : Addr) (cl : List (Str × Addr)) (fp : List Addr), PTs (X.blk s H scope (compEnvC scope cl C X.env) fp) ifs (tTn B t)) ∧
    (∀ (s : Shared) (H : Hp) (C : Addr) (cl : List (Str × Addr)) (fp : List Addr), PE (X.blk s H scope (compEnvC scope cl C X.env) fp) elt (tEn B e)) ∧ (∀ x, foldedSetIterable iter X.env x = pure x) := by
  simp only [ck, Bool.and_eq_true] at h
  obtain ⟨h, hf⟩ := h
  split at h
  · rename_i heq
    cases heq
    split at h
    · rename_i tgE iter ifs _ own hown
      simp only [Bool.and_eq_true] at h
      obtain ⟨⟨⟨⟨⟨h1, h2⟩, h3⟩, h4⟩, h5⟩, h6⟩ := h
      have ok : BlkOk X.N X.env.scope scope own := by rw [k.N, k.sc]; exact blkOk_by h1
      have hi : PI X tgE iter (tI B it) := (ck_ok it c false _ X B x k h4).2.2 tgE fun q => by
        rw [q] at h2; simpa using h2
      have kb : ∀ (s : Shared) (H : Hp) (C : Addr) (cl : List (Str × Addr)) (fp : List Addr) (W0 : Wo), CkOk { c with sc := relS scope c.sc } (X.blk s H scope (compEnvC scope cl C X.env) fp) { B with Ex := fun _ _ => False, W0 := W0 } := fun s H C cl fp W0 => ⟨k.T, k.N, by show relS scope X.env.scope = _; rw [k.sc]⟩
      have xb : ∀ (s : Shared) (H : Hp) (C : Addr) (cl : List (Str × Addr)) (fp : List Addr) (W0 : Wo), XOk (X.blk s H scope (compEnvC scope cl C X.env) fp) { B with Ex := fun _ _ => False, W0 := W0 } := fun s H C cl fp W0 => xok_blk x s H scope _ fp W0
      have he := fun (s : Shared) (H : Hp) (C : Addr) (cl : List (Str × Addr)) (fp : List Addr) => s_n (B := B) fun W0 => (ck_ok e _ false _ _ _ (xb s H C cl fp W0) (kb s H C cl fp W0) h5).pe
      have ht : ∀ (s : Shared) (H : Hp) (C : Addr) (cl : List (Str × Addr)) (fp : List Addr), PTs (X.blk s H scope (compEnvC scope cl C X.env) fp) ifs (tTn B t) := fun s H C cl fp => t_n fun W0 => by
        split at h6
        · split at h6
          · exact ts_nil
          · cases h6
        · exact pts_one (ck_ok t _ true _ _ _ (xb s H C cl fp W0) (kb s H C cl fp W0) h6).pt
        · cases h6
      unfold ckTg at hown
      split at hown
      · rename_i tp' xs htg
        split at hown
        · rename_i hc
          obtain ⟨c1, c2, c3, c4⟩ := hc
          cases hown
          subst c1
          rw [List.all_eq_true] at c4
          have hmap : (xs.zip tg).map (·.2) = tg := by
            rw [List.map_snd_zip]
            omega
          refine ⟨tgE, iter, ifs, _, rfl, hi, ok, hmap, fun s H C cl fp => ?_, ht, he, notSet_fold h3⟩
          refine pg_of (X := X.blk s H scope (compEnvC scope cl C X.env) fp) x.calm x.nd rfl htg c2 c3 fun q hq => ?_
          have c5 := c4 q hq
          simp only [Bool.and_eq_true, decide_eq_true_eq] at c5
          refine ⟨by rw [k.N]; exact c5.1, ?_⟩
          have c6 := c5.2
          split at c6
          · rename_i hl
            have := lookup_relS_keep (sc := X.env.scope) (k := .local) (by simp) hl
            exact ⟨.inl this, .inr this⟩
          · rename_i hl
            have := lookup_relS_keep (sc := X.env.scope) (k := .cell) (by simp) hl
            exact ⟨.inr this, .inl (by show (scope.names.lookup q.1 == some .cell) = true; rw [hl]; rfl)⟩
          · cases c6
        · cases hown
      · cases hown
    · cases h
  · cases h
theorem ckNm_ok {c : Cc} {X : Cx} {B : Bx} (k : CkS c X B) {is : List Nat} {xs : List Str} (h : ckNm c is xs = true) : xs.length = is.length ∧ ∀ p ∈ xs.zip is, c.N[p.2]? = some p.1 ∧ L2.Loc X.env.scope p.1 ∧ (X.fn p.1 = true ∨ X.env.scope.names.lookup p.1 = some .local) := by
  simp only [ckNm, Bool.and_eq_true, decide_eq_true_eq, List.all_eq_true] at h
  exact ⟨h.1, fun p hp => ⟨(h.2 p hp).1, k.toCkOk.loc (h.2 p hp).2, .inl (k.fn _)⟩⟩
theorem go_names : ∀ {ts : List Expr} {xs : List Str}, tgNames.go ts = some xs → ts.length = xs.length ∧ ∀ i : Nat, i < ts.length → ∃ x p, ts[i]? = some (.Name x p) ∧ xs[i]? = some x
  | [], xs, h => by
    simp only [tgNames.go, Option.some.injEq] at h
    subst h
    exact ⟨rfl, fun i hi => by simp at hi⟩
  | t :: ts, xs, h => by
    cases t with
    | Name x p =>
      simp only [tgNames.go] at h
      cases e : tgNames.go ts with
      | none => rw [e] at h; cases h
      | some ys =>
        rw [e] at h; cases h
        obtain ⟨h1, h2⟩ := go_names e
        refine ⟨by simp [h1], fun i hi => ?_⟩
        cases i with
        | zero => exact ⟨x, p, rfl, rfl⟩
        | succ i => simpa using h2 i (by simpa using hi)
    | _ => simp [tgNames.go] at h
theorem par_ok {c : Cc} {X : Cx} {B : Bx} (x : XOk X B) (k : CkS c X B) {is : List Nat} {es : Es} {ts vs : List Expr} {kt k2 : Nat} {pt pt2 pos : Pos} {xs : List Str} (hgo : tgNames.go ts = some xs) (hnm : ckNm c is xs = true) (hes : cks c es vs = true) (hl : ts.length = vs.length) (hlt : is.length < 10) (hnd : is.Nodup)
    (h5 : (vs.all (foldedForSure 8) || !vs.all (constantsAlone 8)) = true) : PS X (.Assign [.Tuple ts kt pt] (.Tuple vs k2 pt2) pos) (tS B (.par is es)) := by
  obtain ⟨hn1, hn2⟩ := ckNm_ok k hnm
  obtain ⟨hg1, hg2⟩ := go_names hgo
  have ha := cks_ok es c vs X B x k.toCkOk hes
  have hA := cks_all es vs hes
  have hel := cks_len hes
  have hs : ∀ l, swapsWithSole [.Tuple ts kt pt] (.Tuple vs k2 pt2) l X.env = pure false := fun l => rfl
  have viaT : swappedStores [.Tuple ts kt pt] (.Tuple vs k2 pt2) X.env = pure none → PS X (.Assign [.Tuple ts kt pt] (.Tuple vs k2 pt2) pos) (tS B (.par is es)) := fun hw => by
    obtain ⟨g1, g2, g3⟩ := pgs_names x.nd k.N hgo hn1 hn2
    refine st_parT x (pg_tup x.calm g1 g2 g3) ha (hs _) hw rfl (fun w => ?_) (by omega)
    have : is.length = esLen es := by omega
    rw [this]
    exact esLen_ok x.mono w
  by_cases h1 : (!(ts.length == 2 || ts.length == 3) || vs.length != ts.length || X.env.blockKind != .function) = true
  · exact viaT (sw_eq0 ts vs kt k2 pt pt2 X.env h1)
  · have h1 : (!(ts.length == 2 || ts.length == 3) || vs.length != ts.length || X.env.blockKind != .function) = false := by simpa using h1
    have hw := sw_eq ts vs kt k2 pt pt2 X.env h1 (all_noStar hA) h5
    by_cases hc : ((swN ts X.env).length != ts.length || (swN ts X.env).eraseDups.length != (swN ts X.env).length) = true
    · rw [if_pos hc] at hw
      exact viaT hw
    · rw [if_neg hc] at hw
      by_cases hf : vs.all (foldedForSure 8) = true
      · rw [if_pos hf] at hw
        exact viaT hw
      · rw [if_neg hf] at hw
        have hlen : (swN ts X.env).length = ts.length := by
          simp only [Bool.or_eq_true, bne_iff_ne, ne_eq, not_or, Decidable.not_not] at hc
          exact hc.1
        have h23 : ts.length = 2 ∨ ts.length = 3 := by
          simp only [Bool.or_eq_false_iff, Bool.not_eq_false', Bool.or_eq_true, beq_iff_eq] at h1
          exact h1.1.1
        have kn : ∀ (n : Str) (p : Pos) (rest : List Expr), Expr.Name n p ∈ ts → X.env.scope.names.lookup n = some .local := fun n p rest hm => by
          have hall : ∀ t ∈ ts, (match t with
            | .Name id pos => if X.env.kindOf id == some .local && pos.line == ((ts.head?.map (·.pos.line)).getD 0) then some id else none
            | _ => none : Option Str).isSome = true := by
            exact fun t ht => (List.filterMap_length_eq_length.mp hlen) t ht
          have h := hall _ hm
          dsimp only at h
          split at h
          · rename_i hq
            simp only [Bool.and_eq_true, beq_iff_eq] at hq
            exact hq.1
          · cases h
        have hxl : xs.length = ts.length := hg1.symm
        have hil : is.length = ts.length := by omega
        rcases h23 with h2 | h3
        · match ts, is, vs, h2, hil, hl with
          | [t1, t2], [i, j], [a, b], _, _, _ =>
            obtain ⟨n, px, e1, e1'⟩ := hg2 0 (by simp)
            obtain ⟨m, py, e2, e2'⟩ := hg2 1 (by simp)
            simp only [List.getElem?_cons_zero, List.getElem?_cons_succ, Option.some.injEq] at e1 e2
            subst e1 e2
            have k1 := kn n px [] (by simp)
            have k2 := kn m py [] (by simp)
            have ex : xs = [n, m] := by
              simp only [tgNames.go, Option.map_some, Option.some.injEq] at hgo
              exact hgo.symm
            subst ex
            have esw : swN [.Name n px, .Name m py] X.env = [n, m] := by
              refine swN_all (env := X.env) hgo (fun t ht y p e => ?_) hlen
              subst e
              dsimp only
              split
              · exact .inr rfl
              · exact .inl rfl
            rw [esw] at hw
            have n1 := hn2 (n, i) (by simp)
            have n2 := hn2 (m, j) (by simp)
            refine st_par2 x (by rw [k.N]; exact n1.1) (by rw [k.N]; exact n2.1) (by simpa using hnd) k1 k2 ha hw (hs _) ?_
            cases es with
            | nil => simp [esLen] at hel
            | cons e1 es => cases es with
              | nil => simp [esLen] at hel
              | cons e2 es => cases es with
                | nil => exact ⟨e1, e2, rfl⟩
                | cons _ _ => simp [esLen] at hel
        · match ts, is, vs, h3, hil, hl with
          | [t1, t2, t3], [i, j, l], [a, b, d], _, _, _ =>
            obtain ⟨n, px, e1, e1'⟩ := hg2 0 (by simp)
            obtain ⟨m, py, e2, e2'⟩ := hg2 1 (by simp)
            obtain ⟨o, pz, e3, e3'⟩ := hg2 2 (by simp)
            simp only [List.getElem?_cons_zero, List.getElem?_cons_succ, Option.some.injEq] at e1 e2 e3
            subst e1 e2 e3
            have k1 := kn n px [] (by simp)
            have k2 := kn m py [] (by simp)
            have k3 := kn o pz [] (by simp)
            have ex : xs = [n, m, o] := by
              simp only [tgNames.go, Option.map_some, Option.some.injEq] at hgo
              exact hgo.symm
            subst ex
            have esw : swN [.Name n px, .Name m py, .Name o pz] X.env = [n, m, o] := by
              refine swN_all (env := X.env) hgo (fun t ht y p e => ?_) hlen
              subst e
              dsimp only
              split
              · exact .inr rfl
              · exact .inl rfl
            rw [esw] at hw
            have n1 := hn2 (n, i) (by simp)
            have n2 := hn2 (m, j) (by simp)
            have n3 := hn2 (o, l) (by simp)
            simp only [List.nodup_cons, List.mem_cons, List.not_mem_nil, or_false, not_or] at hnd
            refine st_par3 x (by rw [k.N]; exact n1.1) (by rw [k.N]; exact n2.1) (by rw [k.N]; exact n3.1) hnd.1.1 hnd.1.2 hnd.2.1 k1 k2 k3 ha hw (hs _) ?_
            cases es with
            | nil => simp [esLen] at hel
            | cons e1 es => cases es with
              | nil => simp [esLen] at hel
              | cons e2 es => cases es with
                | nil => simp [esLen] at hel
                | cons e3 es => cases es with
                  | nil => exact ⟨e1, e2, e3, rfl⟩
                  | cons _ _ => simp [esLen] at hel
end Mi

set_option linter.all false
set_option maxRecDepth 100000
set_option maxHeartbeats 4000000
namespace Mi
open PySem PySem.Spec PyProof.Rows L2
theorem sole_sub {o i v : Expr} {p : Pos} {l : Nat} {env : Env} : swapsWithSole [.Subscript o i p] v l env = pure false := sw_sub (v := v) (o := o) (i := i) (p := p) (l := l) (env := env)
theorem asg_sub {o i : Expr} {p : Pos} {env : Env} (h : okA i = true) : ∀ v, assign (.Subscript o i p) env v = (do
      let ov ← holding [v] (eval o env)
      let iv ← holding [v, ov] (eval i env)
      standAt p
      holding [v, ov, iv] (setItem ov iv v)
      release [v, ov, iv] []) := fun v => by
  cases i <;> first | rfl | (simp [okA] at h)
mutual
theorem ckS_ok : ∀ (s : S) (c : Cc) (st : Stmt) (X : Cx) (B : Bx), XOk X B → CkS c X B → ckS c s st = true → PS X st (tS B s)
  | .ex e, c, st, X, B, x, k, h => by
    simp only [ckS] at h
    split at h
    · simp only [Bool.and_eq_true] at h
      exact st_ex x (ck_ok e c false _ X B x k.toCkOk h.1).pe (sw_no h.2)
    · cases h
  | .set i e, c, st, X, B, x, k, h => by
    simp only [ckS] at h
    split at h
    · rename_i n p v q
      simp only [Bool.and_eq_true, decide_eq_true_eq] at h
      obtain ⟨⟨⟨h1, h2⟩, h3⟩, h4⟩ := h
      have hi : X.N[i]? = some n := by rw [k.N]; exact h1
      have hx := k.toCkOk.loc h2
      cases v with
      | ListComp elt gs scope vp =>
        dsimp only at h4
        have plain : swapsWith (.ListComp elt gs scope vp) (some (.Name n p)) q.line X.env = pure false → PS X (.Assign [.Name n p] (.ListComp elt gs scope vp) q) (tS B (.set i e)) := fun hs =>
          st_set x hi hx (ck_ok e c false _ X B x k.toCkOk h3).pe hs (.inl (k.fn _))
        have hsw := sw_lc (X := X) k.kind (elt := elt) (gs := gs) (scope := scope) (p := p) (pos := vp) (y := n) (l := q.line)
        by_cases hb : ((X.env.scope.names.lookup n == some .local) && p.line == vp.line && !(scope.names.any fun (m, k) => m == n && (k == .local || k == .cell))) = true
        · rw [hb] at hsw
          have hl : X.env.scope.names.lookup n = some .local := by
            simp only [Bool.and_eq_true, beq_iff_eq] at hb
            exact hb.1.1
          split at h4
          · obtain ⟨tgE, iter, ifs, own, rfl, g1, g2, g3, g4, g5, g6, g7⟩ := ck_comp x k.toCkOk h3
            exact st_setLc x false hi hl hsw g1 g2 g3 g4 g5 g6 g7
          · simp only [ck, Bool.and_eq_true] at h3
            obtain ⟨tgE, iter, ifs, own, rfl, g1, g2, g3, g4, g5, g6, g7⟩ := ck_comp x k.toCkOk (m := false) (by simp only [ck, Bool.and_eq_true]; exact h3.1.2)
            exact st_setLc x true hi hl hsw g1 g2 g3 g4 g5 g6 g7
          · cases h4
        · rw [Bool.not_eq_true] at hb
          rw [hb] at hsw
          exact plain hsw
      | SetComp _ _ _ _ => simp at h4
      | DictComp _ _ _ _ _ =>
        dsimp only at h4
        split at h4
        · exact ps_no fun Γ Ex σ h K w => by simp only [wpS, wpE] at w
        · cases h4
      | _ => exact st_set x hi hx (ck_ok e c false _ X B x k.toCkOk h3).pe (sw_no rfl) (.inl (k.fn _))
    · cases h
  | .par is es, c, st, X, B, x, k, h => by
    simp only [ckS] at h
    split at h
    · simp only [Bool.and_eq_true, decide_eq_true_eq] at h
      obtain ⟨⟨⟨⟨⟨⟨h1, h2⟩, h3⟩, h4⟩, h5⟩, h6⟩, h7⟩ := h
      split at h1
      · rename_i xs hgo
        exact par_ok x k hgo h1 h2 h3 h5 h6 h7
      · cases h1
    · cases h
  | .sub o a v, c, st, X, B, x, k, h => by
    simp only [ckS] at h
    split at h
    · simp only [Bool.and_eq_true] at h
      obtain ⟨⟨⟨⟨h1, h2⟩, h3⟩, h4⟩, h5⟩ := h
      exact st_sub x (ck_ok o c false _ X B x k.toCkOk h2).pe (ck_ok a c false _ X B x k.toCkOk h3).pe (ck_ok v c false _ X B x k.toCkOk h4).pe (asg_sub h1) sole_sub rfl rfl
    · cases h
  | .fld o f v, c, st, X, B, x, k, h => by
    simp only [ckS] at h
    split at h
    · simp only [Bool.and_eq_true, decide_eq_true_eq] at h
      obtain ⟨⟨⟨h1, h2⟩, h3⟩, h4⟩ := h
      rw [k.T] at h1
      subst h1
      exact st_fldS x (ck_ok o c false _ X B x k.toCkOk h2).pe (ck_ok v c false _ X B x k.toCkOk h3).pe sw_att
    · cases h
  | .aug i o e, c, st, X, B, x, k, h => by
    simp only [ckS] at h
    split at h
    · simp only [Bool.and_eq_true, decide_eq_true_eq] at h
      obtain ⟨⟨⟨⟨h1, h2⟩, h3⟩, h4⟩, h5⟩ := h
      subst h2
      exact st_aug x h1 (by rw [k.N]; exact h3) (k.toCkOk.loc h4) (ck_ok e c false _ X B x k.toCkOk h5).pe (.inl (k.fn _))
    · cases h
  | .augs o a p e, c, st, X, B, x, k, h => by
    simp only [ckS] at h
    split at h
    · simp only [Bool.and_eq_true, decide_eq_true_eq] at h
      obtain ⟨⟨⟨⟨⟨h1, h2⟩, h3⟩, h4⟩, h5⟩, h6⟩ := h
      subst h2
      exact st_augs x h1 (ck_ok o c false _ X B x k.toCkOk h4).pe (ck_ok a c false _ X B x k.toCkOk h5).pe (ck_ok e c false _ X B x k.toCkOk h6).pe (aug_ok h3)
    · cases h
  | .augf o f p e, c, st, X, B, x, k, h => by
    simp only [ckS] at h
    split at h
    · simp only [Bool.and_eq_true, decide_eq_true_eq] at h
      obtain ⟨⟨⟨⟨h1, h2⟩, h3⟩, h4⟩, h5⟩ := h
      subst h2
      rw [k.T] at h3
      subst h3
      exact st_augf x h1 (ck_ok o c false _ X B x k.toCkOk h4).pe (ck_ok e c false _ X B x k.toCkOk h5).pe
    · cases h
  | .ite t a b, c, st, X, B, x, k, h => by
    simp only [ckS] at h
    split at h
    · simp only [Bool.and_eq_true] at h
      exact st_ite x (ck_ok t c true _ X B x k.toCkOk h.1.1).pt (ckSs_ok a c _ X B x k h.1.2) (ckSs_ok b c _ X B x k h.2)
    · cases h
  | .for tp tg it b, c, st, X, B, x, k, h => by
    simp only [ckS] at h
    split at h
    · rename_i t iter body q
      simp only [Bool.and_eq_true] at h
      obtain ⟨⟨⟨⟨h1, h2⟩, h3⟩, h4⟩, h5⟩ := h
      split at h1
      · rename_i tp' xs htg
        simp only [Bool.and_eq_true, decide_eq_true_eq] at h1
        obtain ⟨⟨e1, e2⟩, e3⟩ := h1
        subst e1
        obtain ⟨n1, n2⟩ := ckNm_ok k e2
        have hi : PI X t iter (tI B it) := (ck_ok it c false _ X B x k.toCkOk h4).2.2 t fun q => by
          rw [q] at h2; simpa using h2
        exact st_for x x.po hi (pg_of x.calm x.nd k.N htg n1 e3 n2) (ckSs_ok b c _ X B x k h5) (notSet_fold h3)
      · cases h1
    · cases h
  | .fork a b d, c, st, X, B, x, k, h => ps_no fun Γ Ex σ h K w => by simp only [wpS] at w
  | .whl t b, c, st, X, B, x, k, h => by
    simp only [ckS] at h
    split at h
    · simp only [Bool.and_eq_true] at h
      exact st_whl x x.po (ck_ok t c true _ X B x k.toCkOk h.1).pt (ckSs_ok b c _ X B x k h.2)
    · cases h
  | .ret e, c, st, X, B, x, k, h => by
    simp only [ckS] at h
    split at h
    · exact st_ret x (ck_ok e c false _ X B x k.toCkOk h).pe
    · split at h
      · exact ps_retN.impW fun σ H D ⟨W, σd, h, e1, hr, w⟩ => by
          subst e1
          simp only [wpS, wpE] at w
          exact w W .non Le.refl hr.hr .non
      · cases h
    · cases h
  | .rai a, c, st, X, B, x, k, h => by
    simp only [ckS] at h
    split at h
    · simp only [Bool.and_eq_true, decide_eq_true_eq] at h
      obtain ⟨⟨h1, h2⟩, h3⟩ := h
      rw [k.T] at h1
      exact st_rai x h1 (k.toCkOk.gl h2) (plainN_ok h3).1
    · cases h
  | .brk, c, st, X, B, x, k, h => by
    simp only [ckS] at h
    split at h
    · exact st_brk
    · cases h
  | .pss, c, st, X, B, x, k, h => by
    simp only [ckS] at h
    split at h
    · exact st_pss
    · cases h
  | .try b, c, st, X, B, x, k, h => by simp [ckS] at h
theorem ckSs_ok : ∀ (ss : Ss) (c : Cc) (sts : List Stmt) (X : Cx) (B : Bx), XOk X B → CkS c X B → ckSs c ss sts = true → PSs X sts (tSs B ss)
  | .nil, c, sts, X, B, x, k, h => by
    simp only [ckSs] at h
    split at h
    · exact ss_nil
    · cases h
  | .cons s ss, c, sts, X, B, x, k, h => by
    simp only [ckSs] at h
    split at h
    · simp only [Bool.and_eq_true] at h
      exact ss_cons x (ckS_ok s c _ X B x k h.1) (ckSs_ok ss c _ X B x k h.2)
    · cases h
end
end Mi

set_option linter.all false
set_option maxRecDepth 100000
set_option maxHeartbeats 4000000
namespace Mi
open PySem PySem.Spec PyProof.Rows L2
/-! ## all defs, by levels -/
/-- the meaning of the defs, calls going at most k deep -/
def Gk (T : Tab) (df : Nat → Df) : Nat → Gam
  | 0 => ⟨fun _ _ _ _ _ => False, T.gl, T.mcls, T.init, T.okf⟩
  | k + 1 => ⟨fun f ds h Q X => wpF (Gk T df k) (df f) ds h Q X, T.gl, T.mcls, T.init, T.okf⟩
theorem dropQ_mono {n : Nat} {Q Q' : PD} (h : ∀ d h, Q d h → Q' d h) : ∀ d h, dropQ n Q d h → dropQ n Q' d h := fun d hh ⟨m, a, b, c, e, q⟩ => ⟨m, a, b, c, e, h _ _ q⟩
theorem dropX_mono {n : Nat} {Q Q' : PX} (h : ∀ d h, Q d h → Q' d h) : ∀ d h, dropX n Q d h → dropX n Q' d h := fun d hh ⟨m, a, b, e, q⟩ => ⟨m, a, b, e, h _ _ q⟩
theorem wpF_mono {Γ : Gam} (hΓ : Γ.Mono) {f : Df} {ds h} {Q Q' : PD} {X X' : PX} (hq : ∀ d h, Q d h → Q' d h) (hx : ∀ c h, X c h → X' c h) (w : wpF Γ f ds h Q X) : wpF Γ f ds h Q' X' :=
  have k : Ks.Le { nx := fun _ h' => dropQ h.length Q .non h', rt := dropQ h.length Q, bk := fun _ _ => False, ct := fun _ _ => False } { nx := fun _ h' => dropQ h.length Q' .non h', rt := dropQ h.length Q', bk := fun _ _ => False, ct := fun _ _ => False } :=
    ⟨fun _ _ q => dropQ_mono hq _ _ q, fun _ _ q => dropQ_mono hq _ _ q, fun _ _ q => q, fun _ _ q => q⟩
  ⟨w.1, wpSs_mono hΓ f.body _ _ _ _ _ _ (dropX_mono hx) k w.2⟩
theorem Gk_mono (T : Tab) (df : Nat → Df) : ∀ k, (Gk T df k).Mono
  | 0 => fun _ _ _ _ _ _ _ _ _ w => w
  | k + 1 => fun f ds h Q Q' X X' hq hx w => wpF_mono (Gk_mono T df k) hq hx w
/-- nested deeper, no less -/
theorem Gk_up (T : Tab) (df : Nat → Df) : True := trivial
section
variable {R : Wr} {W : Wo}
mutual
theorem VR.cut {n : Nat} : ∀ {d v}, VR R W d v → below n d = true → VR R { W with m := W.m.take n } d v
  | _, _, .non, _ => .non
  | _, _, .bl b, _ => .bl b
  | _, _, .int i, _ => .int i
  | _, _, .str s, _ => .str s
  | _, _, .tup t r, h => by
    simp only [below] at h
    exact .tup (t.elim (fun q => .inl ⟨fun hm => q.1 (List.mem_of_mem_take hm), q.2⟩) .inr) (VRs.cut r h)
  | _, _, .lst q r, h => by
    simp only [below] at h
    exact .lst ⟨fun hm => q.1 (List.mem_of_mem_take hm), q.2⟩ (VRs.cut r h)
  | _, _, .loc e, h => by
    simp only [below, decide_eq_true_eq] at h
    exact .loc (by show (W.m.take n)[_]? = _; rw [List.getElem?_take_of_lt h]; exact e)
  | _, _, .fn f q, _ => .fn f q
  | _, _, .scr s, _ => .scr (s.elim (fun ⟨o, q⟩ => .inl ⟨o, fun hm => q.1 (List.mem_of_mem_take hm), q.2⟩) .inr)
theorem VRs.cut {n : Nat} : ∀ {d v}, VRs R W d v → belows n d = true → VRs R { W with m := W.m.take n } d v
  | _, _, .nil, _ => .nil
  | _, _, .cons a b, h => by
    simp only [belows, Bool.and_eq_true] at h
    exact .cons (VR.cut a h.1) (VRs.cut b h.2)
end
theorem Paired.impM {α β : Type} {F G : α → β → Prop} : ∀ {l₁ : List α} {l₂ : List β}, Paired F l₁ l₂ → (∀ a b, a ∈ l₁ → F a b → G a b) → Paired G l₁ l₂
  | _, _, .nil, _ => .nil
  | _, _, .cons r t, f => .cons (f _ _ List.mem_cons_self r) (Paired.impM t fun a b h => f a b (List.mem_cons_of_mem _ h))
theorem OR.cut {n : Nat} {a : Addr} {o : MO} {ho : HO} (r : OR R W a o ho) (h : belowO n o = true) : OR R { W with m := W.m.take n } a o ho := by
  cases o with
  | lst ds =>
    simp only [belowO] at h
    obtain ⟨xs, e, r⟩ := r
    exact ⟨xs, e, r.cut h⟩
  | sd kvs =>
    simp only [belowO, List.all_eq_true] at h
    obtain ⟨ks, e, r, nd⟩ := r
    exact ⟨ks, e, Paired.impM r fun p _ hp x => ⟨x.1, x.2.cut (h p hp)⟩, nd⟩
  | kd kvs =>
    simp only [belowO, List.all_eq_true, Bool.and_eq_true] at h
    obtain ⟨es, e, r⟩ := r
    exact ⟨es, e, Paired.impM r fun p _ hp x => ⟨x.1, x.2.1, x.2.2.1.cut (h p hp).1, let ⟨v, a, b⟩ := x.2.2.2; ⟨v, a, b.cut (h p hp).2⟩⟩⟩
  | ins c fs =>
    simp only [belowO, List.all_eq_true] at h
    obtain ⟨dx, gs, e, r, nd⟩ := r
    exact ⟨dx, gs, e, Paired.impM r fun p _ hp x => ⟨x.1, x.2.cut (h p hp)⟩, nd⟩
  | frz kvs =>
    simp only [belowO, List.all_eq_true, Bool.and_eq_true] at h
    obtain ⟨ob, es, e, r⟩ := r
    exact ⟨ob, es, e, Paired.impM r fun p _ hp x => ⟨x.1, x.2.1, x.2.2.1.cut (h p hp).1, let ⟨v, a, b⟩ := x.2.2.2; ⟨v, a, b.cut (h p hp).2⟩⟩⟩
theorem HR.cut {h : Hm} {n : Nat} (r : HR R W h) (hn : n ≤ h.length) (hb : ∀ o ∈ h.take n, belowO n o = true) : HR R { W with m := W.m.take n } (h.take n) := by
  refine ⟨by show (W.m.take n).length = _; rw [List.length_take, List.length_take, r.len], r.nd.sublist (List.take_sublist _ _), fun a ha => ⟨(r.xs a ha).1, fun hm => (r.xs a ha).2 (List.mem_of_mem_take hm)⟩, fun i o a e1 e2 => ?_⟩
  have hi : i < n := by
    have := (List.getElem?_eq_some_iff.mp e1).1
    rw [List.length_take] at this; omega
  have ho : o ∈ h.take n := List.mem_of_getElem? e1
  rw [List.getElem?_take_of_lt hi] at e1
  have e2 : (W.m.take n)[i]? = some a := e2
  rw [List.getElem?_take_of_lt hi] at e2
  obtain ⟨u, e, y⟩ := r.at_ i o a e1 e2
  exact ⟨u, e, y.cut (hb o ho)⟩
end
/-- a def stands, and its body is told by its mini body -/
structure DefOk (R : Wr) (df : Nat → Df) (f : Nat) : Prop where
  ex : ∃ (x qual : Str) (params : Arguments) (body : List Stmt) (scope : Scope) (N : List Str), FunD R.K x qual params body scope [] [] (R.fna f) (R.fd f) ∧ FnScope N (R.T.ps f) scope ∧ (R.T.ps f).length = (df f).np ∧ N.length = (df f).ns ∧
    ∀ (X : Cx) (B : Bx), XOk X B → CkS ⟨R.T, N, scope⟩ X B → B.R = R → (X.stack = X.env :: X.outer ∧ X.env.frame = some X.env.locals) → PSs X body (tSs B (df f).body)
theorem SR_start {R : Wr} {W : Wo} {N : List Str} {ds : List D} {vs : List V} {n : Nat} (rs : VRs R W ds vs) (hn : N.length = n) (hl : ds.length ≤ n) : SR R W (Mi.start n ds) (L2.start N vs) := by
  have e := rs.length
  refine ⟨?_, fun i d h => ?_⟩
  · unfold Mi.start L2.start
    simp only [List.length_append, List.length_map, List.length_replicate]
    omega
  · unfold Mi.start at h
    by_cases hi : i < ds.length
    · rw [List.getElem?_append_left (by simpa using hi), List.getElem?_map] at h
      cases hd : ds[i]? with
      | none => rw [hd] at h; cases h
      | some d' =>
        rw [hd] at h
        cases h
        obtain ⟨v, h1, h2⟩ := rs.get hd
        refine ⟨v, ?_, h2⟩
        unfold L2.start
        rw [List.getElem?_append_left (by simp; omega), List.getElem?_map, h1]
        rfl
    · rw [List.getElem?_append_right (by simpa using hi), List.getElem?_replicate] at h
      split at h <;> cases h
theorem ck_body {R : Wr} {N : List Str} {scope : Scope} {ss : Ss} {body : List Stmt} (h : ckSs ⟨R.T, N, scope⟩ ss body = true) : ∀ (X : Cx) (B : Bx), XOk X B → CkS ⟨R.T, N, scope⟩ X B → B.R = R → (X.stack = X.env :: X.outer ∧ X.env.frame = some X.env.locals) → PSs X body (tSs B ss) :=
  fun X B x k _ _ => ckSs_ok ss _ body X B x k h
theorem all_ok {R : Wr} {df : Nat → Df} (ok : R.Ok) (hd : ∀ f, f < R.T.nf → DefOk R df f) : ∀ k f, f < R.T.nf → FnOk R.P R.w R.K R.mg R.base (L2.CX R.P R.w) (2 * k) (R.fna f) (R.fd f) (R.T.ps f) (spM R (Gk R.T df k) f)
  | 0, f, hf => ⟨fun vs H Q E ⟨W, h, ds, _, _, _, w⟩ => w.elim, fun A outer s H args us vs Q E _ _ _ _ ⟨W, h, ds, _, _, _, w⟩ => w.elim⟩
  | k + 1, f, hf => by
    obtain ⟨x, qual, params, body, scope, N, F, S, hp, hN, hb⟩ := (hd f hf).ex
    show FnOk _ _ _ _ _ _ (2 * k + 1 + 1) _ _ _ _
    refine F.ok S (fun vs H Q E ⟨W, h, ds, _, _, rs, w⟩ => ?_) fun cdv A outer s H vs Q E hr ⟨W, h, ds, eH, hR, rs, w⟩ => ?_
    · rw [← rs.length, hp]
      exact w.1
    · subst eH
      have IH := all_ok ok hd k
      refine ⟨tSs ⟨R, Gk R.T df k, 2 * k, dropX h.length fun c h' => ∀ W', Le W W' → HR R W' h' → E (.ref (R.exa c)) none W'.H, W⟩ (df f).body, ?_, ?_⟩
      · refine hb _ _ ?_ ⟨⟨rfl, rfl, rfl⟩, S.kind, fun _ => rfl⟩ rfl ⟨rfl, rfl⟩
        have tk : Takes (cxOf (L2.CX R.P R.w) R.P R.w R.K R.mg R.base N qual scope (R.fna f) cdv A outer s W.H E) (fun cls d _ H => E cls d H) := takes_of rfl rfl rfl rfl
        exact {
          P := rfl, w := rfl, K := rfl, mg := rfl, base := rfl, calm := rfl, nd := S.nd, mono := Gk_mono _ _ _, room := hr.mono (by omega), roomL := hr, wr := ok, gm := by cases k <;> rfl, gi := by cases k <;> rfl, go := by cases k <;> rfl, gg := by cases k <;> rfl
          tk := tk.imp fun cls d σ H ⟨c, W', h', e1, e2, e3, l, r, n, hn1, hn2, hn3, q⟩ => by
            subst e1 e2 e3
            exact q { W' with m := W'.m.take n } (l.take (by rw [hR.len]; exact hn1)) (r.cut hn2 hn3)
          po := passes_of rfl
          fn := IH }
      · obtain ⟨w1, w2⟩ := w
        have hle : ds.length ≤ (df f).ns := by
          have := congrArg List.length S.pre
          rw [List.length_take] at this
          omega
        refine ⟨W, Mi.start (df f).ns ds, h, rfl, ⟨Le.refl, hR, SR_start rs hN hle⟩, wpSs_mono (Gk_mono _ _ _) _ _ _ _ _ _ _ (fun _ _ z => z) ?_ w2⟩
        refine ⟨fun σd h' hq W' σ' l r => ?_, fun d h' hq W' v l r rv => ?_, fun _ _ (z : False) => z.elim, fun _ _ (z : False) => z.elim⟩
        · obtain ⟨n, n1, n2, n3, n4, q⟩ := hq
          exact q { W' with m := W'.m.take n } .non (l.take (by rw [hR.len]; exact n1)) (r.hr.cut n2 n4) .non
        · obtain ⟨n, n1, n2, n3, n4, q⟩ := hq
          exact q { W' with m := W'.m.take n } v (l.take (by rw [hR.len]; exact n1)) (r.cut n2 n4) (rv.cut n3)
end Mi

set_option linter.all false
set_option maxRecDepth 100000
set_option maxHeartbeats 4000000
namespace Mi
open PySem PySem.Spec PyProof.Rows L2
/-! ## the head: from a law's tables to the facts of the written part -/
namespace Tb
variable (t : Tb)
def wr (P : Program) (w : World) (K : PySem.W.Frag) (mg : Str → Option Value) (base : Heap) (fd : Nat → FuncData) : Wr :=
  { T := t.tab, P := P, w := w, K := K, mg := mg, base := base, cls := fun c => He.ga K (t.tab.cnm c), fna := fun f => He.fAd K (t.plc f), exa := fun k => He.ga K (t.exn.getD k ""), fd := fd }
variable {t} {P : Program} {w : World} {K : PySem.W.Frag} {mg : Str → Option Value} {base hp : Heap} {fd : Nat → FuncData}
theorem wr_ok (h : t.okT = true) (X : K.In hp) (G : hp.Ns mainGlobals mg) (c : ∀ f ∈ t.fa, He.Fa.ok K f = true) (kp : ∀ f, f < t.df.length → PySem.W.keepIn K (.ref (He.fAd K (t.plc f))) = true) (bnd : ∀ f, f < t.df.length → Binds K (fd f) (t.tab.ps f) [])
    (sta : t.sta = true → ∃ (a : Addr) (o : Obj) (es : Array DictEntry) (n : Nat), mg "STARTS" = some (.ref a) ∧ K.lookup a = some ⟨.type "dict", none, .dict es n, #[]⟩ ∧ PySem.W.KeysLit w.params es.toList ∧ (a == sysModules) = false ∧
      ∀ k : List Nat, ∃ r, PySem.W.nsIn K a (tx k) = some r ∧ ((r = none ∧ startsOf k = .str []) ∨ ∃ u v, r = some u ∧ RelV v u ∧ ∀ W, VR (t.wr P w K mg base fd) W (startsOf k) v)) : (t.wr P w K mg base fd).Ok := by
  simp only [okT, Bool.and_eq_true] at h
  obtain ⟨h1, h2, h3⟩ := h
  have c1 := fun f (hf : f ∈ _) => c f (List.mem_append_left _ hf)
  have c' := fun f (hf : f ∈ _) => c f (List.mem_append_right _ hf)
  have c2 := fun f (hf : f ∈ _) => c' f (List.mem_append_left _ hf)
  have c'' := fun f (hf : f ∈ _) => c' f (List.mem_append_right _ hf)
  have c3 := fun f (hf : f ∈ _) => c'' f (List.mem_append_left _ hf)
  have c3' := fun f (hf : f ∈ _) => c'' f (List.mem_append_right _ hf)
  have c4 := fun f (hf : f ∈ _) => c3' f (List.mem_append_left _ hf)
  have c4' := fun f (hf : f ∈ _) => c3' f (List.mem_append_right _ hf)
  have c5 := fun f (hf : f ∈ _) => c4' f (List.mem_append_left _ hf)
  have c6 := fun f (hf : f ∈ _) => c4' f (List.mem_append_right _ hf)
  exact {
    cls := fun cc f e => by
      have e : (decide (f < t.fnm.length) && decide (t.fcl.getD f 0 = cc)) = true := e
      simp only [Bool.and_eq_true, decide_eq_true_eq] at e
      obtain ⟨e1, rfl⟩ := e
      exact ⟨He.cls_ok (c3 (.cls _) (List.mem_flatMap.mpr ⟨f, List.mem_range.mpr e1, .head _⟩)), He.noat_ok (c3 (.noat _ _) (List.mem_flatMap.mpr ⟨f, List.mem_range.mpr e1, .tail _ (.head _)⟩))⟩
    inj := fun cc f g e e' n => by
      have e : (decide (f < t.fnm.length) && decide (t.fcl.getD f 0 = cc)) = true := e
      have e' : (decide (g < t.fnm.length) && decide (t.fcl.getD g 0 = cc)) = true := e'
      simp only [Bool.and_eq_true, decide_eq_true_eq] at e e'
      have q := List.all_eq_true.mp (List.all_eq_true.mp h2 f (List.mem_range.mpr e.1)) g (List.mem_range.mpr e'.1)
      have n : t.tab.fnm f = t.tab.fnm g := n
      rw [e.2, e'.2, n] at q
      simpa using q
    kp := kp
    bnd := bnd
    glo := fun f e => by
      have e : (decide (f < t.df.length) && (t.cof.getD f none).isNone) = true := e
      simp only [Bool.and_eq_true, decide_eq_true_eq, Option.isNone_iff_eq_none] at e
      have r := He.glo_ok X G (c1 (.glo (t.tab.fnn f)) (List.mem_flatMap.mpr ⟨f, List.mem_range.mpr e.1, by rw [e.2]; simp⟩))
      show mg (t.tab.fnn f) = some (.ref (He.fAd K (t.plc f)))
      rw [r]
      unfold plc
      rw [e.2]
      rfl
    met := fun m e => by
      have e : (decide (m < t.df.length) && (t.cof.getD m none).isSome) = true := e
      simp only [Bool.and_eq_true, decide_eq_true_eq] at e
      obtain ⟨cc, ec⟩ := Option.isSome_iff_exists.mp e.2
      have r1 := He.cls_ok (c1 (.cls (t.tab.cnm cc)) (List.mem_flatMap.mpr ⟨m, List.mem_range.mpr e.1, by rw [ec]; simp⟩))
      have r2 := He.meth_ok (c1 (.meth (t.tab.cnm cc) (t.tab.fnn m)) (List.mem_flatMap.mpr ⟨m, List.mem_range.mpr e.1, by rw [ec]; simp⟩))
      have em : t.tab.mcls m = cc := by show (t.cof.getD m none).getD 0 = cc; rw [ec]; rfl
      have ep : t.plc m = (t.tab.cnm cc, some (t.tab.fnn m)) := by unfold plc; rw [ec]
      show Cls K (He.ga K (t.tab.cnm (t.tab.mcls m))) ∧ Meth K (He.ga K (t.tab.cnm (t.tab.mcls m))) (t.tab.fnn m) (He.fAd K (t.plc m))
      rw [em, ep]
      exact ⟨r1, r2⟩
    mak := fun cc e => by
      have e : cc < t.cnm.length := of_decide_eq_true e
      have q : t.plc (t.tab.init cc) = (t.tab.cnm cc, some ("__init__" : Str)) := of_decide_eq_true (List.all_eq_true.mp h1 cc (List.mem_range.mpr e))
      have r1 := He.cls_ok (c2 (.cls (t.tab.cnm cc)) (List.mem_flatMap.mpr ⟨cc, List.mem_range.mpr e, .tail _ (.head _)⟩))
      have r2 := He.mkr_ok (c2 (.mkr (t.tab.cnm cc)) (List.mem_flatMap.mpr ⟨cc, List.mem_range.mpr e, .tail _ (.tail _ (.head _))⟩))
      have r3 := He.glo_ok X G (c2 (.glo (t.tab.cnm cc)) (List.mem_flatMap.mpr ⟨cc, List.mem_range.mpr e, .head _⟩))
      show Cls K _ ∧ Mk K _ (He.fAd K (t.plc (t.tab.init cc))) ∧ _
      rw [q]
      exact ⟨r1, r2, r3⟩
    fre := fun n hn => He.free_ok X G (c4 (.free n) (List.mem_map.mpr ⟨n, hn, rfl⟩))
    exc := fun k n e => by
      have e : t.exn[k]? = some n := e
      have hm := List.mem_of_getElem? e
      have r1 := He.glo_ok X G (c6 (.glo n) (List.mem_flatMap.mpr ⟨n, hm, by simp⟩))
      have r2 := He.exc_ok (c6 (.exc n) (List.mem_flatMap.mpr ⟨n, hm, by simp⟩))
      have en : t.exn.getD k "" = n := by rw [List.getD_eq_getElem?_getD, e]; rfl
      have key : ∀ a, a = He.ga K n → mg n = some (.ref a) ∧ PySem.W.excIn K a He.veBase "ValueError.__new__" = true ∧ PySem.W.keepIn K (.ref a) = true ∧ PySem.W.subIn K (.ref a) (.type "BaseException") = some true ∧ PySem.W.typeIn K (.ref a) = some (.type "type") := fun a ea => ea ▸ ⟨r1, r2⟩
      exact key (He.ga K (t.exn.getD k "")) (by rw [en])
    sta := sta
    con := fun g d e => by
      have e : t.gl[g]? = some d := e
      have hg : g < t.gl.length := (List.getElem?_eq_some_iff.mp e).1
      have ed : t.gl.getD g .non = d := by rw [List.getD_eq_getElem?_getD, e]; rfl
      have q := List.all_eq_true.mp h3 d (List.mem_of_getElem? e)
      cases d with
      | int i =>
        obtain ⟨tk, r⟩ := He.int_ok X G (c5 (.int (t.tab.gln g) i) (List.mem_flatMap.mpr ⟨g, List.mem_range.mpr hg, by rw [ed]; simp⟩))
        exact ⟨.int i, _, r, ⟨tk, rfl⟩, fun W => .int i⟩
      | str s =>
        obtain ⟨tk, r⟩ := He.str_ok X G (c5 (.str (t.tab.gln g) (tx s)) (List.mem_flatMap.mpr ⟨g, List.mem_range.mpr hg, by rw [ed]; simp⟩))
        exact ⟨.str (tx s), _, r, ⟨tk, rfl⟩, fun W => .str s⟩
      | _ => cases q }
end Tb
end Mi

set_option linter.all false
set_option maxRecDepth 100000
set_option maxHeartbeats 4000000
namespace Mi
open PySem PySem.Spec PyProof.Rows L2
/-! ## the head's Hook: defs, facts, the written dict STARTS -/
section
variable {sta : Bool} {ex : List Str} {fa : List He.Fa} {fn : List He.DefD} {w : World} {K : PySem.W.Frag}
theorem SaysS.d (c : SaysS sta ex fa fn w K) : He.SaysD fa fn K := He.SaysT.d (ts := tabsS sta) (congrArg (fun z : AlS => z.1) c)
theorem SaysS.wh (c : SaysS sta ex fa fn w K) (h : ex.isEmpty = false) : whB K ex = true := by
  have c2 : ((!sta || staB K (He.ga K "STARTS")) && (ex.isEmpty || whB K ex)) = true := congrArg (fun z : AlS => z.2) c
  rw [h] at c2
  exact (Bool.and_eq_true_iff.mp c2).2
theorem atB_ok {a : Addr} {k : Str} {f : Value → Bool} (h : atB K a k f = true) : ∃ v, PySem.W.nsIn K a k = some (some v) ∧ f v = true := by
  unfold atB at h
  split at h
  · next v q => exact ⟨v, q, h⟩
  · cases h
theorem zeroB_ok {v : Value} (h : zeroB v = true) : ∃ t, v = .int 0 t := by
  cases v <;> simp only [zeroB, decide_eq_true_eq, Bool.false_eq_true] at h
  subst h
  exact ⟨_, rfl⟩
theorem tupB_ok {v : Value} {f : List Value → Bool} (h : tupB K v f = true) : ∃ (b : Addr) (o : Obj) (its : Array Value) (n : Nat), v = .ref b ∧ K.lookup b = some o ∧ o.cls = .type "tuple" ∧ o.data = .seq its n ∧ its.size ≤ sizeLine ∧ f its.toList = true := by
  unfold tupB at h
  split at h
  · next b =>
    split at h
    · next c d its n sl q =>
      simp only [Bool.and_eq_true, decide_eq_true_eq] at h
      obtain ⟨h1, h2, h3⟩ := h
      subst h1
      exact ⟨b, _, its, n, rfl, q, rfl, rfl, h2, h3⟩
    · cases h
  · cases h
theorem keyOf_find : ∀ {l : List DictEntry} {P : Params} {ks : List Str} {k : Str}, l.map He.keyOf = He.keysIn P ks → k ∉ ks → l.find? (·.key.isStr k) = none
  | [], _, _, _, _, _ => rfl
  | e :: r, P, [], k, h, _ => by cases h
  | e :: r, P, y :: ks, k, h, hk => by
    have h1 : He.keyOf e :: r.map He.keyOf = some (y, PyData.keyHash P y) :: He.keysIn P ks := h
    injection h1 with h2 h3
    rw [List.find?_cons]
    have q : e.key.isStr k = false := by
      unfold He.keyOf at h2
      split at h2
      · rename_i x t q
        have h4 := Option.some.inj h2
        obtain ⟨h5, h6⟩ := Prod.mk.inj h4
        subst h5
        rw [q]
        cases z : (Value.str x t).isStr k with
        | false => rfl
        | true =>
          have e2 : (x == k) = true := z
          exact absurd (by rw [← beq_iff_eq.mp e2]; exact .head _) hk
      · cases h2
    rw [q]
    exact keyOf_find h3 fun z => hk (.tail _ z)
theorem starts_of {t : Tb} {P : Program} {mg : Str → Option Value} {base hp : Heap} {fd : Nat → FuncData} (c : SaysS sta ex fa fn w K) (X : K.In hp) (G : hp.Ns mainGlobals mg) (hs : sta = true) (hg : (He.Fa.glo "STARTS").ok K = true) :
    ∃ (a : Addr) (o : Obj) (es : Array DictEntry) (n : Nat), mg "STARTS" = some (.ref a) ∧ K.lookup a = some ⟨.type "dict", none, .dict es n, #[]⟩ ∧ PySem.W.KeysLit w.params es.toList ∧ (a == sysModules) = false ∧
      ∀ k : List Nat, ∃ r, PySem.W.nsIn K a (tx k) = some r ∧ ((r = none ∧ startsOf k = .str []) ∨ ∃ u v, r = some u ∧ RelV v u ∧ ∀ W, VR (t.wr P w K mg base fd) W (startsOf k) v) := by
  subst hs
  have c1 : He.SaysT fa fn [stT] w K := congrArg (fun z : AlS => z.1) c
  have c2 : ((!true || staB K (He.ga K "STARTS")) && (ex.isEmpty || whB K ex)) = true := congrArg (fun z : AlS => z.2) c
  have c2 : staB K (He.ga K "STARTS") = true := (Bool.and_eq_true_iff.mp c2).1
  have ed : He.dicW K (He.ga K "STARTS") = some (He.keysIn w.params stK) := by
    have e : [stT].map (fun t => He.dicW K (t.1 K)) = [stT].map fun t => some (He.keysIn w.params t.2) := congrArg (fun z : He.AlT => z.2) c1
    exact (List.cons.inj e).1
  obtain ⟨es, n, D⟩ := c1.tab 0 (t := stT)
  have D : KDict K w (He.ga K "STARTS") es n := D
  have hg := He.glo_ok X G hg
  generalize He.ga K "STARTS" = a at *
  have ek : es.toList.map He.keyOf = He.keysIn w.params stK := by
    unfold He.dicW at ed
    rw [D.at_] at ed
    have ed : (match decide (("dict" : Str) = "dict") && ((#[] : Array (Option Value)).isEmpty && !(a == sysModules)) with
      | true => some (es.toList.map He.keyOf)
      | false => none) = some (He.keysIn w.params stK) := ed
    rw [D.low] at ed
    exact Option.some.inj ed
  simp only [staB, Bool.and_eq_true] at c2
  obtain ⟨c1, c2, c3, c4, c5, c6, c7⟩ := c2
  refine ⟨a, ⟨.none, none, .seq #[] 0, #[]⟩, es, n, hg, D.at_, D.lit, D.low, fun k => ?_⟩
  have zz : ∀ (x : List Nat) (z : Str), tx x = z → atB K a z zeroB = true → startsOf x = .int 0 → ∃ r, PySem.W.nsIn K a (tx x) = some r ∧ ((r = none ∧ startsOf x = .str []) ∨ ∃ u v, r = some u ∧ RelV v u ∧ ∀ W, VR (t.wr P w K mg base fd) W (startsOf x) v) := fun x z e h e2 => by
    obtain ⟨v, q1, q2⟩ := atB_ok h
    obtain ⟨tk, rfl⟩ := zeroB_ok q2
    rw [e, e2]
    exact ⟨_, q1, .inr ⟨_, .int 0, rfl, ⟨tk, rfl⟩, fun W => .int 0⟩⟩
  have pp : ∀ (x : List Nat) (z : Str), tx x = z → atB K a z (tupB K · pairB) = true → startsOf x = .tup [.str [], .int 0] → ∃ r, PySem.W.nsIn K a (tx x) = some r ∧ ((r = none ∧ startsOf x = .str []) ∨ ∃ u v, r = some u ∧ RelV v u ∧ ∀ W, VR (t.wr P w K mg base fd) W (startsOf x) v) := fun x z e h e2 => by
    obtain ⟨v, q1, q2⟩ := atB_ok h
    obtain ⟨b, o, its, m, rfl, l1, l2, l3, l4, l5⟩ := tupB_ok q2
    rw [e, e2]
    refine ⟨_, q1, .inr ⟨_, .ref b, rfl, rfl, fun W => .tup (xs := [.str (tx []), .int 0]) (.inr ⟨o, its, m, l1, l2, l3, l4, ?_⟩) (.cons (.str _) (.cons (.int 0) .nil))⟩⟩
    unfold pairB at l5
    split at l5
    · next z1 t1 i1 t2 q =>
      simp only [Bool.and_eq_true, decide_eq_true_eq] at l5
      rw [q, l5.1, l5.2]
      exact .cons ⟨_, rfl⟩ (.cons ⟨_, rfl⟩ .nil)
    · cases l5
  by_cases h1 : k = [115, 105, 122, 101]
  · subst h1; exact zz _ "size" (by decide +kernel) c1 rfl
  by_cases h2 : k = [108, 101, 97, 115, 116]
  · subst h2; exact zz _ "least" (by decide +kernel) c2 rfl
  by_cases h3 : k = [109, 111, 115, 116]
  · subst h3; exact zz _ "most" (by decide +kernel) c3 rfl
  by_cases h4 : k = [107, 105, 110, 100, 115]
  · subst h4
    obtain ⟨v, q1, q2⟩ := atB_ok c4
    obtain ⟨b, o, its, m, rfl, l1, l2, l3, l4, l5⟩ := tupB_ok q2
    have e : tx [107, 105, 110, 100, 115] = "kinds" := by decide +kernel
    rw [e]
    refine ⟨_, q1, .inr ⟨_, .ref b, rfl, rfl, fun W => .tup (xs := []) (.inr ⟨o, its, m, l1, l2, l3, l4, ?_⟩) .nil⟩⟩
    unfold emptB at l5
    split at l5
    · next q => rw [q]; exact .nil
    · cases l5
  by_cases h5 : k = [114, 117, 110]
  · subst h5; exact pp _ "run" (by decide +kernel) c5 rfl
  by_cases h6 : k = [114, 111, 119]
  · subst h6; exact pp _ "row" (by decide +kernel) c6 rfl
  refine ⟨none, ?_, .inl ⟨rfl, by unfold startsOf; rw [if_neg h1, if_neg h2, if_neg h3, if_neg h4, if_neg h5, if_neg h6]⟩⟩
  have nk : tx k ∉ stK := fun hm => by
    have e1 : tx [115, 105, 122, 101] = "size" := by decide +kernel
    have e2 : tx [108, 101, 97, 115, 116] = "least" := by decide +kernel
    have e3 : tx [109, 111, 115, 116] = "most" := by decide +kernel
    have e4 : tx [107, 105, 110, 100, 115] = "kinds" := by decide +kernel
    have e5 : tx [114, 117, 110] = "run" := by decide +kernel
    have e6 : tx [114, 111, 119] = "row" := by decide +kernel
    unfold stK at hm
    rw [← e1, ← e2, ← e3, ← e4, ← e5, ← e6] at hm
    simp only [List.mem_cons, List.not_mem_nil, or_false] at hm
    rcases hm with h | h | h | h | h | h
    · exact h1 (tx_inj h)
    · exact h2 (tx_inj h)
    · exact h3 (tx_inj h)
    · exact h4 (tx_inj h)
    · exact h5 (tx_inj h)
    · exact h6 (tx_inj h)
  unfold PySem.W.nsIn noneB at *
  rw [D.at_] at c7 ⊢
  simp only [keyOf_find ek nk]
  rw [if_neg (by simpa using c7)]
end
end Mi

set_option linter.all false
set_option maxRecDepth 100000
set_option maxHeartbeats 4000000
namespace Mi
open PySem PySem.Spec PyProof.Rows L2
/-! ## a law's end: from the head's facts to the law's promise -/
def FunAll (t : Tb) (K : PySem.W.Frag) (fd : Nat → FuncData) : Prop := ∀ (i : Nat) (d : He.DefD), t.ds[i]? = some d → FunD K d.name d.qual d.params d.body d.scope [] [] (He.fAd K (t.plc i)) (fd i)
def lawSp : Sp := fun vs H Q _ => ∃ (a : Addr) (ns : List Int) (K : PySem.W.Frag), vs = [.ref a] ∧ ns.length ≤ 63 ∧ Only H ∧ SqL K H a (ns.map V.int) ∧ ∀ H', Q (.bl true) H'
/-- the tables stand to one another as they must -/
def Tb.okD (t : Tb) : Bool := decide ((t.ds.map (·.at_)) = (List.range t.df.length).map t.plc) && t.ds.all fun d => d.dfl.isEmpty && d.kwd.isEmpty
theorem funAll {t : Tb} {sta ex fa1 w} {K : PySem.W.Frag} (hd : t.okD = true) (c : SaysS sta ex fa1 t.ds w K) : ∃ fd, FunAll t K fd := by
  simp only [Tb.okD, Bool.and_eq_true, decide_eq_true_eq, List.all_eq_true] at hd
  obtain ⟨h1, h2⟩ := hd
  have H : ∀ i, ∃ fd : FuncData, ∀ d, t.ds[i]? = some d → FunD K d.name d.qual d.params d.body d.scope [] [] (He.fAd K (t.plc i)) fd := fun i => by
    cases e : t.ds[i]? with
    | none => exact ⟨default, fun d q => nomatch q⟩
    | some d =>
      obtain ⟨fd, F⟩ := c.d.def_ i e
      refine ⟨fd, fun d' q => ?_⟩
      cases q
      have q := h2 d (List.mem_of_getElem? e)
      have ea : d.at_ = t.plc i := by
        have z : (t.ds.map (·.at_))[i]? = ((List.range t.df.length).map t.plc)[i]? := by rw [h1]
        rw [List.getElem?_map, e, List.getElem?_map] at z
        have hi : i < t.df.length := by
          have := congrArg List.length h1
          rw [List.length_map, List.length_map, List.length_range] at this
          rw [← this]
          exact (List.getElem?_eq_some_iff.mp e).1
        rw [List.getElem?_range hi] at z
        exact Option.some.inj z
      have e1 : d.dvs K = [] := by unfold He.DefD.dvs; rw [List.isEmpty_iff.mp q.1]; rfl
      have e2 : d.kws K = [] := by unfold He.DefD.kws; rw [List.isEmpty_iff.mp q.2]; rfl
      rw [e1, e2, ea] at F
      exact F
  exact ⟨fun i => (H i).choose, fun i => (H i).choose_spec⟩
theorem SaysS.fact_mem {sta ex fa1 ds w} {K : PySem.W.Frag} (c : SaysS sta ex fa1 ds w K) {f : He.Fa} (hf : f ∈ fa1) : f.ok K = true := by
  obtain ⟨i, hi⟩ := List.getElem?_of_mem hf
  exact c.d.fact i hi
theorem law_F {t : Tb} {ex : List Str} {fa1 : List He.Fa} {P : Program} {w : World} {K : PySem.W.Frag} {mg : Str → Option Value} {hp : Heap} {fa : Addr} {dfn : Nat → Df} {LAW k : Nat} {x : Str} {d : He.DefD}
    (hfa : ∀ f ∈ t.fa, f ∈ fa1) (hsta : t.sta = true → He.Fa.glo "STARTS" ∈ fa1) (hok : t.okT = true) (hde : t.okD = true)
    (hd : ∀ (base : Heap) (fd : Nat → FuncData), FunAll t K fd → ∀ f, f < t.df.length → DefOk (t.wr P w K mg base fd) dfn f)
    (hb : ∀ fd, FunAll t K fd → ∀ f, f < t.df.length → Binds K (fd f) (t.tab.ps f) [])
    (hl : LAW < t.df.length) (hps : t.tab.ps LAW = [x]) (hpl : t.plc LAW = (("law" : Str), (none : Option Str))) (hdl : t.ds[LAW]? = some d) (hba : ∀ fd, FunD K d.name d.qual d.params d.body d.scope [] [] (He.fAd K (t.plc LAW)) fd → ∀ (s : Shared) (u : Value), BindsTo s fd ⟨[u], []⟩ [(x, u)])
    (hc : t.cof.getD LAW none = none) (hn : t.tab.fnn LAW = ("law" : Str))
    (goal : ∀ ns : List Int, ns.length ≤ 63 → (Gk t.tab dfn k).call LAW [.scr ns] [] (fun d _ => d = .bl true) (fun _ _ => False))
    (X : K.In hp) (G : hp.Ns mainGlobals mg) (c : SaysS t.sta ex fa1 t.ds w K) (hmg : mg "law" = some (.ref fa)) :
    ∃ (K : PySem.W.Frag) (fd : FuncData) (sp : Sp), K.In hp ∧ (∀ (s : Shared) (u : Value), BindsTo s fd ⟨[u], []⟩ [(x, u)]) ∧
        (∀ (H : Hp) (a : Addr) (ns : List Int), ns.length ≤ 63 → Only H → SqL K H a (ns.map V.int) → sp [.ref a] H (fun v _ => v = .bl true) fun _ _ _ => False) ∧
        ∀ base : Heap, K.In base → base.Ns mainGlobals mg → FnOk P w K mg base (L2.CX P w) (2 * k) fa fd [x] sp := by
  obtain ⟨fd, F⟩ := funAll hde c
  have hg : He.Fa.glo "law" ∈ t.fa := List.mem_append_left _ (List.mem_flatMap.mpr ⟨LAW, List.mem_range.mpr hl, by rw [hc, ← hn]; exact .head _⟩)
  have cf : ∀ f ∈ fa1, f.ok K = true := fun f hf => by
    obtain ⟨i, hi⟩ := List.getElem?_of_mem hf
    exact c.d.fact i hi
  have FL := F LAW d hdl
  have ea : fa = He.fAd K (t.plc LAW) := by
    have e := hmg.symm.trans (He.glo_ok X G (cf _ (hfa _ hg)))
    rw [hpl]
    exact Value.ref.inj (Option.some.inj e)
  refine ⟨K, fd LAW, fun vs H Q _ => ∃ (a : Addr) (ns : List Int), vs = [.ref a] ∧ ns.length ≤ 63 ∧ Only H ∧ SqL K H a (ns.map V.int) ∧ ∀ H', Q (.bl true) H', X, hba _ FL, fun H a ns h1 h2 h3 => ⟨a, ns, rfl, h1, h2, h3, fun _ => rfl⟩, fun base _ _ => ?_⟩
  have ok : (t.wr P w K mg base fd).Ok := Tb.wr_ok hok X G (fun f hf => cf f (hfa f hf)) (fun f hf => (by
    have : t.ds.length = t.df.length := by
      simp only [Tb.okD, Bool.and_eq_true, decide_eq_true_eq] at hde
      have := congrArg List.length hde.1
      rwa [List.length_map, List.length_map, List.length_range] at this
    obtain ⟨d', hd'⟩ : ∃ d', t.ds[f]? = some d' := ⟨_, List.getElem?_eq_getElem (by omega)⟩
    exact (F f d' hd').kp)) (hb fd F) fun hs => starts_of c X G hs (cf _ (hsta hs))
  have q := all_ok ok (hd base fd F) k LAW hl
  have q : FnOk P w K mg base (L2.CX P w) (2 * k) (He.fAd K (t.plc LAW)) (fd LAW) (t.tab.ps LAW) (spM (t.wr P w K mg base fd) (Gk t.tab dfn k) LAW) := q
  rw [hps] at q
  rw [ea]
  refine q.imp fun vs H Q E ⟨a, ns, e, h1, h2, h3, hq⟩ => ?_
  subst e
  refine ⟨⟨[], [], H⟩, [], [.scr ns], rfl, ⟨rfl, List.nodup_nil, fun a h => (nomatch h), fun n o a h => (nomatch h)⟩, .cons (.scr (show ScrAt _ _ a (ns.map V.int) from ?_)) .nil, (Gk_mono _ _ _) _ _ _ _ _ _ _ (fun d h' e => ?_) (fun _ _ z => z.elim) (goal ns h1)⟩
  · have im : ∀ ho, H a = some ho → ∃ o xs, ho = .frz o (.lst xs) := fun ho e => by
      rcases h2 a with h | ⟨o, xs, h⟩
      · rw [h] at e; cases e
      · rw [h] at e; cases e; exact ⟨_, _, rfl⟩
    rcases h3 with h3 | h3
    · rcases h3 with h3 | ⟨o, h3⟩
      · obtain ⟨o, xs, e⟩ := im _ h3
        cases e
      · exact .inl ⟨o, fun z => (nomatch z), fun z => (nomatch z), h3⟩
    · exact .inr h3
  · intro W' v _ _ r
    subst e
    cases r
    exact hq _
/-- a law's end, where what flies out is told by the world -/
theorem walk_ofW {l : PySem.W.OpenLaw} {n k : Nat} {q : Program} {loose : List Str} {XP : (Str → Option Value) → Heap → Prop} {YP : World → Heap → Prop} {d : DefRec} {x : Str} (hn : l.most = some n) (hn2 : n ≤ sizeLine) (hdf : d.params.defaults = []) (hr : Room k callerA)
    (F : ∀ (w : World) (mg : Str → Option Value) (fa : Addr) (hp : Heap), YP w hp → hp.Ns mainGlobals mg → mg d.name = some (.ref fa) → ∃ (K : PySem.W.Frag) (fd : FuncData) (sp : Sp), K.In hp ∧ (∀ (s : Shared) (u : Value), BindsTo s fd ⟨[u], []⟩ [(x, u)]) ∧
        (∀ (H : Hp) (a : Addr) (ns : List Int), ns.length ≤ n → Only H → SqL K H a (ns.map V.int) → sp [.ref a] H (fun v _ => v = .bl true) fun _ _ _ => False) ∧
        ∀ base : Heap, K.In base → base.Ns mainGlobals mg → FnOk l.prog w K mg base (L2.CX l.prog w) k fa fd [x] sp) :
    PySem.W.WalkO q loose XP YP l.row.toRowW d [] (fun f vs => PySem.call f vs) := by
  refine Att.attach_call hn hdf fun w s₀ s₁ mg mb fa o pm cd doc a vs ns G Y ho hd hcd hmg hobj hints hlen hg => ?_
  have z := F w mg fa _ Y G.T.g hmg
  obtain ⟨K, fd, sp, KX, hb, hsp, hF⟩ := z
  have hx : ∀ (H : Hp) (e : Value) (s' : Shared), L2.CX l.prog w [] H s₁ (fun _ _ _ => False) e s' → False := fun H e s' ⟨_, _, _, _, _, _, _, _, _, _, _, _, q⟩ => q
  exact law_call KX G.T.g G.T.b G.T.builtins G.T.nolimit hg hobj hints (Nat.le_trans hlen hn2) hr hF hb (fun H hO hS => hsp H a ns hlen hO hS) hx
end Mi

set_option linter.all false
set_option maxRecDepth 100000
set_option maxHeartbeats 4000000
namespace Mi
open PySem PySem.Spec PyProof.Rows L2
/-! ## what is caught: a def that is called in an except suite with the error itself -/
section
variable {P : Program} {w : World} {K : PySem.W.Frag} {mg : Str → Option Value} {base : Heap}
/-- such a def's run, where its body's reading is told of this one error -/
theorem wh_code {f : Addr} {fd : FuncData} {nm ql : Str} {pr : Arguments} {body : List Stmt} {sco : Scope} {N : List Str} {x : Str} {A : Around} {outer : List Env} {s : Shared} {H : Hp} {args : Args} {u : Value} {Q : VK} {E : XK} {p : Addr × Obj}
    (F : FunD K nm ql pr body sco [] [] f fd) (S : FnScope N [x] sco) (room : L2H.RoomH 1 A) (pin : L2H.PinOk outer H s p) (e0 : Env0 P w K mg base A outer s H) (bd : BindsTo s fd args ([x].zip [u])) (ru : RelV (.ref p.1) u)
    (told : ∀ cdv, ∃ t, PSs (L2H.cxH (L2.CX P w) P w K mg base N ql sco f cdv A outer s H E p) body t ∧ t { nx := fun _ H' => Q .non H', rt := Q } (L2.start N [.ref p.1]) H) :
    codeAny (model P w) A (.call (.ref f) args) (CR (L2.CX P w) outer P w H s Q E) s := by
  obtain ⟨oc, od, dV, kV, doc, pm, an, cdv, ct, osl, rfl, look, code, _, _⟩ := F.ex
  have inK : K.In s.heap := e0.mod.kin.keeps fun b o e => (e0.bs b o e).1
  have noLim : s.heap.NoLimit := e0.mod.nolimit.keeps fun b o e => (e0.bs b o e).1
  have kinds : ∀ y ∈ [x].zip [u], sco.names.lookup y.1 = some .local ∨ (sco.names.lookup y.1 = some .cell ∧ ((cellsFrom (s.heap.objs.size + 1) sco.names []).lookup y.1).isSome = true) := fun y hy =>
    (S.par y.1 (List.of_mem_zip (a := y.1) (b := y.2) hy).1).imp (fun z => z) fun z => ⟨z, PySem.W.cellsFrom_some _ _ _ (.inl z)⟩
  refine codeAny_call_function room.depth (inK _ _ look) rfl S.co S.gen rfl (PySem.W.codeRec_of inK code) (bd _ _ _ _ ?_)
  refine wpAny_newFunctionEnv_cells S.kind kinds fun env henv s1 call => ?_
  subst henv
  refine ⟨noLim.keeps call.toInCall.keep, codeAny_func ?_⟩
  obtain ⟨t, ht, hq⟩ := told cdv
  have I0 := L2H.inv_startH (CX := L2.CX P w) (E := E) S pin e0 (show [V.ref p.1].length = [x].length from rfl) (.cons ru .nil) call
  refine wpAny_mono (ht.run [] s1 _ H _ I0 hq) (fun fl s' hs => ?_) fun e s' hs => hs
  cases fl with
  | ret u' =>
    obtain ⟨v, σ', H', J, rv, q⟩ := hs
    exact ⟨v, H', J.os, J.bare, J.base, J.hok, rv, q⟩
  | next =>
    obtain ⟨σ', H', J, q⟩ := hs
    exact ⟨V.non, H', J.os, J.bare, J.base, J.hok, rfl, q⟩
  | brk => obtain ⟨_, _, _, q⟩ := hs; exact q.elim
  | cont => obtain ⟨_, _, _, q⟩ := hs; exact q.elim
end
/-- the call in the suite: n's slot i holds the error -/
theorem wh_call {X : Cx} {a : Addr} {oe : Obj} {pn : List (Addr × Obj)} {f : Addr} {fd : FuncData} {nm ql : Str} {pr : Arguments} {body : List Stmt} {sco : Scope} {N : List Str} {x g n : Str} {i : Nat} {q pos p1 : Pos} {sp : Hp → VK → Prop}
    (F : FunD X.K nm ql pr body sco [] [] f fd) (S : FnScope N [x] sco) (hr : L2H.RoomH 1 X.A) (hg : Gl X g) (hm : X.mg g = some (.ref f)) (hi : X.N[i]? = some n) (hv : Vis X.env.scope n) (hb : Binds X.K fd [x] [])
    (told : ∀ outer s H Q cdv, sp H Q → ∃ t, PSs (L2H.cxH (L2.CX X.prog X.w) X.prog X.w X.K X.mg X.base N ql sco f cdv (X.A.mark (some (.ref a))) outer s H (fun _ _ _ => False) (a, oe)) body t ∧ t { nx := fun _ H' => Q .non H', rt := Q } (L2.start N [.ref a]) H)
    (hdb : (g == ("__debug__" : Str)) = false) (hnd : (n == ("__debug__" : Str)) = false) (hnc : (n == ("__classdict__" : Str)) = false) :
    PE (X.suite a ((a, oe) :: pn)) (.Call (.Name g q) [.Name n p1] [] pos) (fun σ H Q => σ[i]? = some (some (.ref a)) ∧ sp H Q) := by
  refine ⟨fun pins s σ H Q I ⟨e, h⟩ => ?_⟩
  have ha : PA (X.suite a ((a, oe) :: pn)) [.Name n p1] (tCons (tVar i) tNil) := pa_cons (pe_var hi hv hnd hnc) pa_nil
  refine wpAny_Call_Name_kw (ld_glob I hg hm ?_ hdb)
  refine PySem.W.callWith_K (h₀ := X.base) I.ok.mod.kin F.kp (thn (ha.run pos pins s σ H (fun vs H1 => vs = [.ref a] ∧ sp H1 Q) I ⟨.ref a, e, rfl, h⟩) fun us s1 hh => ?_) rfl rfl
  obtain ⟨vs, H1, I1, r, rfl, q1⟩ := hh
  obtain ⟨u, rfl, ru⟩ := r.one
  refine ⟨I1.kIn, ?_⟩
  have b := hb s1 [u] I1.kIn rfl
  rw [List.append_nil] at b
  have pa := I1.pin (a, oe) (List.mem_append_left _ (.head _))
  have pin : L2H.PinOk X.stack H1 s1 (a, oe) := ⟨pa.1, pa.2.1, fun z => (List.mem_cons.mp (I1.stkSub a z)).elim pa.2.2.1 pa.2.2.2.1, pa.2.2.2.2⟩
  refine wpAny_call (codeAny_mono (wh_code (E := fun _ _ _ => False) (Q := Q) (p := (a, oe)) (A := X.A.mark (some (.ref a))) F S ⟨hr.dp, hr.un⟩ pin I1.env0 b ru fun cdv => told _ _ _ _ cdv q1) fun res s' hq => ?_)
  cases res with
  | error e2 =>
    obtain ⟨_, _, _, _, _, _, _, _, _, _, _, _, z⟩ := hq
    exact z.elim
  | ok fl =>
    cases fl with
    | ret u2 => exact I1.after hq
    | next => exact False.elim hq
    | brk => exact False.elim hq
    | cont => exact False.elim hq
/-! ### isinstance of the error there -/
theorem is_err {X : Cx} {a D : Addr} {oe : Obj} (C : ExcC X.K D) (hp : (a, oe) ∈ X.pn) (hz : Zc (.ref D) none oe) (hf : ∃ vs, oe.data = .fields vs) : CallR X (.builtin "isinstance") (rIsE X.K D a) := by
  intro pins s σ H xs us Q I r h
  obtain ⟨c, cv, b, rfl, one, e, q⟩ := h
  obtain ⟨u1, u2, rfl, r1, r2⟩ := r.two
  cases r1
  obtain rfl := one _ r2
  have hget := (I.pin (a, oe) (List.mem_append_left _ hp)).1
  obtain ⟨vs, hv⟩ := hf
  have J : PySem.W.InstAt s.heap a oe D none := by
    obtain ⟨c1, c2, c3, c4⟩ := oe
    obtain ⟨z1, z2⟩ := hz
    dsimp only at z1 z2 hv
    subst z1 z2 hv
    exact ⟨hget, rfl, rfl, trivial⟩
  refine PySem.W.kia_one (PySem.W.handS_kitx_exc C.hg C.hk C.hs C.hd C.ha C.hn C.ht C.hm) I.kIn J e (fun z => nomatch z) fun tk => ?_
  exact ⟨.bl b, H, I.kept (t' := tk) fun _ _ z => z, rfl, q⟩
/-! ### count(True) in a list of booleans -/
def rCntB (K : PySem.W.Frag) : V → List V → Hp → VK → Prop := fun x xs H Q => ∃ (p : Addr) (bs : List Bool), x = .ref p ∧ xs = [.bl true] ∧ SqL K H p (bs.map V.bl) ∧ Q (.int (bs.count true : Nat)) H
theorem bools_vals : ∀ {bs : List Bool} {us : List Value}, Vals (bs.map V.bl) us → us = bs.map Value.bool
  | [], _, .nil => rfl
  | b :: bs, _, .cons r t => by
    have := bools_vals t
    cases r
    rw [this]
    rfl
def eqT (v : Value) : Bool := match v with
  | .bool b => b
  | _ => false
theorem eqT_count : ∀ (bs : List Bool), (bs.map Value.bool).countP eqT = bs.count true
  | [] => rfl
  | b :: bs => by
    rw [List.map_cons, List.countP_cons, List.count_cons, eqT_count bs]
    cases b <;> rfl
theorem eqB_true (b : Bool) : (b == true) = b := by cases b <;> rfl
theorem mt_countB {X : Cx} : MtR X "list.count" (rCntB X.K) := by
  intro pins s σ H x xs v us Q I rx rxs h
  obtain ⟨p, bs, rfl, rfl, hs, q⟩ := h
  cases rx
  obtain ⟨u, rfl, ru⟩ := rxs.one
  cases ru
  obtain ⟨its, rv, ⟨⟨cls, dd, data, sl⟩, n, ho, hc, hdn, hd⟩, hlen⟩ := I.list hs
  dsimp only at hc hd
  subst hc hd
  have hi := bools_vals rv
  refine call_meets PySem.F.slot_list_count ⟨_, ho, rfl⟩ PySem.F.entry_list_count (PySem.F.args_list_count_2 _ _) (SeqAt.list_countAt p its.toArray n dd sl (.bool true) eqT) ⟨ho, fun y hy => ?_, ?_⟩
  · have hy : y ∈ its := by simpa using hy
    rw [hi] at hy
    obtain ⟨b, _, rfl⟩ := List.mem_map.mp hy
    have z := SeqAt.EqAt.bool_bool (A := X.A.in1) (s := s) b true
    rw [eqB_true] at z
    exact z
  have ec : its.toArray.toList.countP eqT = bs.count true := by
    show its.countP eqT = _
    rw [hi, eqT_count]
  refine ⟨.int (bs.count true : Nat), H, I.tok _, ⟨s.toks, ?_⟩, q⟩
  show Value.int ((its.toArray.toList.countP eqT : Nat) : Int) s.toks = Value.int ((bs.count true : Nat) : Int) s.toks
  rw [ec]
end Mi

set_option linter.all false
set_option maxRecDepth 100000
set_option maxHeartbeats 4000000
namespace Mi
open PySem PySem.Spec PyProof.Rows L2
/-! ## which error was caught -/
structure WhF (R : Wr) (pe : Addr) : Prop where
  gpe : R.mg "PassError" = some (.ref pe)
  fve : R.mg "ValueError" = none
  exm : ∀ c, c < 8 → PySem.W.exmOne R.K (.ref (R.exa c)) (.ref pe) = some true
  cls : ∀ c, c < 8 → ExcC R.K (R.exa c)
  ve : ∀ c, c < 8 → PySem.W.kitOne R.K (.ref (R.exa c)) (.type "ValueError") = some true
  kit : ∀ c j, c < 8 → j < 8 → PySem.W.kitOne R.K (.ref (R.exa c)) (.ref (R.exa j)) = some (decide (c = j))
theorem whF_of {t : Tb} {P : Program} {w : World} {K : PySem.W.Frag} {mg : Str → Option Value} {base hp : Heap} {fd : Nat → FuncData} (X : K.In hp) (G : hp.Ns mainGlobals mg) (h : whB K t.exn = true) (hp : (He.Fa.glo "PassError").ok K = true) (hv : (He.Fa.free "ValueError").ok K = true) : WhF (t.wr P w K mg base fd) (He.ga K "PassError") := by
  have q := fun c (hc : c < 8) => List.all_eq_true.mp h c (List.mem_range.mpr hc)
  simp only [Bool.and_eq_true, decide_eq_true_eq, List.all_eq_true, List.mem_range] at q
  exact ⟨He.glo_ok X G hp, He.free_ok X G hv, fun c hc => (q c hc).1, fun c hc => excCB_ok (q c hc).2.1, fun c hc => (q c hc).2.2.1, fun c j hc hj => (q c hc).2.2.2 j hj⟩
def Keeps (H H' : Hp) : Prop := ∀ b o, H b = some o → H' b = some o
theorem Keeps.fresh {H H1 : Hp} {p : Addr} {o : HO} (k : Keeps H H1) (hp : H1 p = none) : Keeps H (upd H1 p o) := fun b o' e => by
  rw [upd_ne (fun z => by rw [z] at e; rw [k _ _ e] at hp; cases hp)]
  exact k _ _ e
theorem Keeps.le {R : Wr} {W : Wo} {h : Hm} {H : Hp} (r : HR R W h) (k : Keeps W.H H) : Le W (W.at_ H) :=
  ⟨⟨rfl, ⟨[], by simp, by simp⟩, fun a o q => k _ _ q.2.2, fun a ha => by
    cases e : W.H a with
    | none => exact absurd e ha
    | some o => show H a ≠ none; rw [k _ _ e]; simp⟩, fun a ha => by
    cases e : W.H a with
    | none => exact absurd e (r.xs a ha).1
    | some o => exact k _ _ e⟩
theorem Keeps.hr {R : Wr} {W : Wo} {h : Hm} {H : Hp} (r : HR R W h) (k : Keeps W.H H) : HR R (W.at_ H) h := r.same (k.le r).toLw fun a ha => by
  cases e : W.H a with
  | none => exact absurd e (r.mem ha)
  | some o => exact k _ _ e
/-- what the def gives back: ("raised", c), a new tuple -/
def spW (c : Nat) (H : Hp) (Q : VK) : Prop := ∀ H', Keeps H H' → ∀ p, H' p = none → Q (.ref p) (upd H' p (.tup [.str (tx raisedT), .int c]))
/-! ### the def's reading -/
section
variable (K : PySem.W.Frag) (D a : Addr) (e : Nat → Addr)
def tIsi (v : V) : TE := tCB (rIsE K D a) (tCons (tVar 0) (tCons (tC v) tNil))
def tOne (i : Nat) : TA := tCons (tIsi K D a (.ref (e i))) tNil
def tTwo (i j : Nat) : TA := tCons (tIsi K D a (.ref (e i))) (tCons (tIsi K D a (.ref (e j))) tNil)
def tExt (t : TA) : TS := tDrop (tBM K "list" rExtend (tVar 1) (tCons (tLst t) tNil))
def tOdd : TT := tOr (tTest (tOp rNe (tBM K "list" (rCntB K) (tVar 1) (tCons (tC (.bl true)) tNil)) (tC (.int 1)))) (tNot (tB (tIsi K D a (.ty "ValueError"))))
def tIx : TE := tTup (tCons (tC (.str (tx raisedT))) (tCons (tBM K "list" (rIndex K) (tVar 1) (tCons (tC (.bl true)) tNil)) tNil))
def tBad : TS := tRet (tTup (tCons (tC (.str (tx raisedT))) (tCons (tUn (rU fun i => .int (-i)) (tC (.int 1))) tNil)))
def tWh : TS := tSeq (tAsg (tLst (tTwo K D a e 0 1)) (gName 1)) (tSeq (tExt K (tOne K D a e 2)) (tSeq (tExt K (tTwo K D a e 3 4)) (tSeq (tExt K (tOne K D a e 5)) (tSeq (tExt K (tTwo K D a e 6 7)) (tSeq (tIfS (tOdd K D a) tBad tNext) (tRet (tIx K)))))))
end
section
variable {K : PySem.W.Frag} {D a q : Addr} {e : Nat → Addr} {σ : L2.St} {H H' : Hp}
theorem tIsi_ok {v : V} {cv : Value} {b : Bool} {Q : VK} (h0 : σ[0]? = some (some (.ref a))) (hv : ∀ u, RelV v u → u = cv) (k : PySem.W.kitOne K (.ref D) cv = some b) (z : Q (.bl b) H) : tIsi K D a v σ H Q :=
  ⟨.ref a, h0, v, cv, b, rfl, hv, k, z⟩
def Iv (H : Hp) (q : Addr) (xs : List V) (H' : Hp) : Prop := H q = none ∧ Keeps H H' ∧ H' q = some (.lst xs)
theorem Iv.ty {xs : List V} (iv : Iv H q xs H') : tyV K "list" (.ref q) H' := .inl ⟨rfl, xs, .inl (.inl iv.2.2)⟩
theorem tExt_ok {t : TA} {D' : Ends} {xs : List V} (zs : List V) (ht : ∀ H' (Q : List V → Hp → Prop), Q zs H' → t σ H' Q) (h1 : σ[1]? = some (some (.ref q))) (iv : Iv H q xs H') (hl : xs.length + zs.length ≤ sizeLine) (k : ∀ H'', Iv H q (xs ++ zs) H'' → D'.nx σ H'') : tExt K t D' σ H' := by
  refine ⟨.ref q, h1, iv.ty, ht _ _ ⟨by omega, fun p hp => ⟨q, p, xs, zs, rfl, rfl, ?_, upd_same, hl, k _ ⟨iv.1, ?_, upd_same⟩⟩⟩⟩
  · rw [upd_ne (fun z => by rw [← z, iv.2.2] at hp; cases hp)]
    exact iv.2.2
  · intro b o eb
    rw [upd_ne (fun z => by rw [z, iv.1] at eb; cases eb)]
    exact iv.2.1.fresh hp _ _ eb
theorem tOne_ok {i : Nat} {b : Bool} (h0 : σ[0]? = some (some (.ref a))) (k : PySem.W.kitOne K (.ref D) (.ref (e i)) = some b) (H' : Hp) (Q : List V → Hp → Prop) (z : Q [.bl b] H') : tOne K D a e i σ H' Q :=
  tIsi_ok h0 (fun u r => r) k z
theorem tTwo_ok {i j : Nat} {b c : Bool} (h0 : σ[0]? = some (some (.ref a))) (k : PySem.W.kitOne K (.ref D) (.ref (e i)) = some b) (k2 : PySem.W.kitOne K (.ref D) (.ref (e j)) = some c) (H' : Hp) (Q : List V → Hp → Prop) (z : Q [.bl b, .bl c] H') : tTwo K D a e i j σ H' Q :=
  tIsi_ok h0 (fun u r => r) k (tIsi_ok h0 (fun u r => r) k2 z)
def bsOf (c : Nat) : List Bool := [decide (c = 0), decide (c = 1), decide (c = 2), decide (c = 3), decide (c = 4), decide (c = 5), decide (c = 6), decide (c = 7)]
theorem bs_count : ∀ c, c < 8 → (bsOf c).count true = 1 := by decide
theorem bs_at : ∀ c, c < 8 → (bsOf c)[c]? = some true ∧ ∀ m, m < c → (bsOf c)[m]? = some false := by
  intro c hc
  have : ∀ c : Fin 8, (bsOf c)[c.1]? = some true ∧ ∀ m : Fin 8, m < c → (bsOf c)[m.1]? = some false := by decide
  exact ⟨(this ⟨c, hc⟩).1, fun m hm => (this ⟨c, hc⟩).2 ⟨m, by omega⟩ hm⟩
theorem tWh_ok {c : Nat} {Q : VK} {nx : L2.St → Hp → Prop} (hc : c < 8) (kit : ∀ j, j < 8 → PySem.W.kitOne K (.ref D) (.ref (e j)) = some (decide (c = j))) (ve : PySem.W.kitOne K (.ref D) (.type "ValueError") = some true) (hs : spW c H Q) :
    tWh K D a e { nx := nx, rt := Q } [some (.ref a), none] H := by
  unfold tWh tSeq tAsg tLst
  refine tTwo_ok (σ := [some (.ref a), none]) rfl (kit 0 (by omega)) (kit 1 (by omega)) H _ ⟨by rw [sizeLine_eq]; simp, fun q hq => ?_⟩
  have iv : Iv H q [.bl (decide (c = 0)), .bl (decide (c = 1))] (upd H q (.lst [.bl (decide (c = 0)), .bl (decide (c = 1))])) := ⟨hq, Keeps.fresh (fun _ _ z => z) hq, upd_same⟩
  generalize upd H q _ = H1 at iv
  refine tExt_ok (σ := [some (.ref a), some (.ref q)]) _ (fun H' Q z => tOne_ok rfl (kit 2 (by omega)) H' Q z) rfl iv (by rw [sizeLine_eq]; simp) fun H2 iv => ?_
  refine tExt_ok (σ := [some (.ref a), some (.ref q)]) _ (fun H' Q z => tTwo_ok rfl (kit 3 (by omega)) (kit 4 (by omega)) H' Q z) rfl iv (by rw [sizeLine_eq]; simp) fun H2 iv => ?_
  refine tExt_ok (σ := [some (.ref a), some (.ref q)]) _ (fun H' Q z => tOne_ok rfl (kit 5 (by omega)) H' Q z) rfl iv (by rw [sizeLine_eq]; simp) fun H2 iv => ?_
  refine tExt_ok (σ := [some (.ref a), some (.ref q)]) _ (fun H' Q z => tTwo_ok rfl (kit 6 (by omega)) (kit 7 (by omega)) H' Q z) rfl iv (by rw [sizeLine_eq]; simp) fun H2 iv => ?_
  have iv : Iv H q ((bsOf c).map V.bl) H2 := iv
  have sq : SqL K H2 q ((bsOf c).map V.bl) := .inl (.inl iv.2.2)
  refine ⟨.ref q, rfl, iv.ty, q, bsOf c, rfl, rfl, sq, rfl, ?_⟩
  rw [bs_count c hc]
  refine ⟨false, by simp, ?_⟩
  refine (show ∀ {p q : Prop}, q → if false = true then p else q from fun h => by simpa using h) ?_
  refine tIsi_ok rfl (fun u r => r) ve ⟨true, rfl, ?_⟩
  show tRet (tIx K) { nx := nx, rt := Q } [some (.ref a), some (.ref q)] H2
  obtain ⟨at1, at2⟩ := bs_at c hc
  refine ⟨.ref q, rfl, iv.ty, q, (bsOf c).map V.bl, .bl true, c, .bl true, rfl, rfl, sq, rfl, by simp [bsOf, flatV], by rw [List.getElem?_map, at1]; rfl, rfl, fun m z' hm e => ?_, ⟨by rw [sizeLine_eq]; simp, fun p hp => hs _ iv.2.1 p hp⟩⟩
  rw [List.getElem?_map, at2 m hm] at e
  cases e
  rfl
end
end Mi

set_option linter.all false
set_option maxRecDepth 100000
set_option maxHeartbeats 4000000
namespace Mi
open PySem PySem.Spec PyProof.Rows L2
/-! ## try .. except PassError as e: return which(e) -/
/-- what the def that tells errors apart does, called in an except suite of X -/
def Told (X : Cx) (R : Wr) (Nw : List Str) (ql : Str) (sco : Scope) (fw : Addr) (wbody : List Stmt) : Prop :=
  ∀ (c : Nat) (a : Addr) (oe : Obj) (A : Around) (outer : List Env) (s : Shared) (H : Hp) (Q : VK) (cdv : Value), c < 8 → Zc (.ref (R.exa c)) none oe → (∃ vs, oe.data = .fields vs) → spW c H Q →
    ∃ t, PSs (L2H.cxH (L2.CX X.prog X.w) X.prog X.w X.K X.mg X.base Nw ql sco fw cdv A outer s H (fun _ _ _ => False) (a, oe)) wbody t ∧ t { nx := fun _ H' => Q .non H', rt := Q } (L2.start Nw [.ref a]) H
theorem st_try {X : Cx} {B : Bx} {c : Cc} (x : XOk X B) (k : CkS c X B) (hs : X.stack = X.env :: X.outer ∧ X.env.frame = some X.env.locals) {b : Ss} {body : List Stmt} (hb : ckSs c b body = true) {pe : Addr} (wf : WhF B.R pe) {i : Nat} {n g nm ql xw : Str} (hi : X.N[i]? = some n) (hl : c.sc.names.lookup n = some .local)
    {pr : Arguments} {wbody : List Stmt} {sco : Scope} {Nw : List Str} {fw : Addr} {fdw : FuncData} {np rp q cp p1 tp hp' : Pos} (F : FunD X.K nm ql pr wbody sco [] [] fw fdw) (S : FnScope Nw [xw] sco) (hg : Gl X g) (hm : X.mg g = some (.ref fw)) (hbW : Binds X.K fdw [xw] []) (hp : Gl X "PassError")
    (told : Told X B.R Nw ql sco fw wbody) (hgd : (g == ("__debug__" : Str)) = false) (hnd : (n == ("__debug__" : Str)) = false) (hnc : (n == ("__classdict__" : Str)) = false) :
    PSs X [.Try body [.ExceptHandler (some (.Name "PassError" np)) (some n) [.Return (some (.Call (.Name g q) [.Name n p1] [] cp)) rp] hp'] [] [] tp] (tSs B (.cons (.try b) .nil)) := by
  have kl : X.env.kindOf n = some .local := by
    show X.env.scope.names.lookup n = _
    rw [k.sc]
    exact hl
  have Z := ps_try_as (X := X) (x := "PassError") (n := n) (c := .ref pe) (i := i) (np := np) (pos := tp) (pos' := hp') (body := body) (b₀ := .Return (some (.Call (.Name g q) [.Name n p1] [] cp)) rp) (suite := []) (Wout := wX B)
    (tb := fun W D σ H => ∃ (Ex : PX) (W0 : Wo), (∀ cls d σ H, wX { B with Ex := Ex, W0 := W0 } cls d σ H → W cls d σ H) ∧ tSs { B with Ex := Ex, W0 := W0 } b D σ H)
    (ts := fun a cls d D σ H => ∃ (c : Nat) (σ0 : L2.St), c < 8 ∧ cls = .ref (B.R.exa c) ∧ d = none ∧ σ = σ0.set i (some (.ref a)) ∧ spW c H D.rt)
    hs.1 hs.2 x.nd hi kl ⟨hp, by decide, .inl (by rw [x.mg]; exact wf.gpe)⟩ x.tk ?hb ?hsu
  case hb =>
    intro W pn xe tk po
    refine ⟨fun pins s σ H D I ⟨Ex, W0, hw, t⟩ => ?_⟩
    have x' : XOk (X.tr pn xe) { B with Ex := Ex, W0 := W0 } := {
      P := x.P, w := x.w, K := x.K, mg := x.mg, base := x.base, calm := x.calm, nd := x.nd, mono := x.mono, room := x.room, roomL := x.roomL, wr := x.wr, gm := x.gm, gi := x.gi, go := x.go, gg := x.gg, tk := tk.imp hw, po := po, fn := x.fn }
    exact (ckSs_ok b c body (X.tr pn xe) { B with Ex := Ex, W0 := W0 } x' ⟨⟨k.T, k.N, k.sc⟩, k.kind, k.fn⟩ hb).run pins s σ H D I t
  case hsu =>
    intro a oe cls d pn hz hf
    refine ⟨fun pins s σ H D I ⟨cc, σ0, hc, e1, e2, e3, hsp⟩ => ?_⟩
    subst e1 e2
    have hlen : σ.length = X.N.length := I.len
    have hσ : σ[i]? = some (some (.ref a)) := by
      rw [e3] at hlen ⊢
      rw [List.length_set] at hlen
      exact List.getElem?_set_self (by rw [hlen]; exact (List.getElem?_eq_some_iff.mp hi).1)
    have r1 : L2H.RoomH 1 X.A := L2H.roomH_of (x.roomL.mono (by omega))
    exact (pss_one (ps_ret (wh_call (sp := spW cc) F S r1 hg hm hi (.inl kl) hbW (fun outer s H Q cdv h => told cc a oe _ outer s H Q cdv hc hz hf h) hgd hnd hnc))).run pins s σ H D I ⟨hσ, hsp⟩
  refine (pss_one Z).impW fun σ H D ⟨W, σd, h, e, hr, w⟩ => ?_
  subst e
  simp only [wpSs, wpS] at w
  refine ⟨fun c h' => c < 8 ∧ (KR B W D).rt (.tup [.str raisedT, .int c]) h', W, fun cls d σ H' ⟨cc, W', h', e1, e2, e3, l, hr', hc, q⟩ => ?_, W, σd, h, rfl, ⟨Le.refl, hr.hr, hr.sr⟩, wpSs_mono x.mono b _ _ _ _ _ _ (fun _ _ z => z) ?_ w⟩
  · subst e1 e2 e3
    refine ⟨true, by rw [x.K]; exact wf.exm cc hc, fun _ a ha => ⟨cc, σ, hc, rfl, rfl, rfl, fun H' kp p hp => ?_⟩, fun z => nomatch z⟩
    have l1 := Keeps.le hr' kp
    have h1 := Keeps.hr hr' kp
    have lf := Le.fresh (o := .tup [.str (tx raisedT), .int cc]) h1 hp
    exact q ((W'.at_ H').at_ (upd H' p (.tup [.str (tx raisedT), .int cc]))) (.ref p) (l.trans (l1.trans lf)) (h1.fresh hp) (.tup (.inl ⟨h1.notin hp, h1.notinx hp, upd_same⟩) (.cons (.str _) (.cons (.int _) .nil)))
  · exact ⟨fun σd h n W' σ l r => n W' σ l ⟨hr.le.trans l, r.hr, r.sr⟩, fun d h z => z, fun σd h n W' σ l r => n W' σ l ⟨hr.le.trans l, r.hr, r.sr⟩, fun σd h n W' σ l r => n W' σ l ⟨hr.le.trans l, r.hr, r.sr⟩⟩
/-- a body that Mini tells nothing of -/
def noB : Ss := .cons (.fork 0 .non .nil) .nil
theorem ss_no {X : Cx} {B : Bx} {body : List Stmt} : PSs X body (tSs B noB) := ⟨fun pins s σ H D I ⟨W, σd, h, e, hr, w⟩ => by simp only [noB, wpSs, wpS] at w⟩
def tryB : List Stmt → List Stmt
  | [.Try b _ _ _ _] => b
  | _ => []
def tryS : Ss → Ss
  | .cons (.try b) .nil => b
  | _ => .nil
/-- isinstance(the error, a class) there -/
theorem pe_isi {X : Cx} {a D : Addr} {oe : Obj} {i1 i2 : Str} {q p r pos : Pos} {v : V} (C : ExcC X.K D) (hp : (a, oe) ∈ X.pn) (hz : Zc (.ref D) none oe) (hf : ∃ vs, oe.data = .fields vs) (h0 : PE X (.Name i1 q) (tVar 0)) (hg : Gl X "isinstance") (hm : X.mg "isinstance" = none) (h : PE X (.Name i2 r) (tC v)) :
    PE X (.Call (.Name "isinstance" p) [.Name i1 q, .Name i2 r] [] pos) (tIsi X.K D a v) := pe_callB (is_err C hp hz hf) hg hm boot_isinstance (pa_cons h0 (pa_cons h pa_nil))
end Mi

set_option linter.all false
set_option maxRecDepth 100000
set_option maxHeartbeats 4000000
namespace Mi.G
open PySem PySem.Spec PyProof.Rows L2 Mi
theorem fs0 : FnScope N0 ps0 (defScope s0) := ⟨rfl, rfl, rfl, by decide +kernel, rfl, by decide +kernel, by decide +kernel⟩
theorem bd0 {K : PySem.W.Frag} {f : Addr} {fd : FuncData} (F : FunD K D0.name D0.qual D0.params D0.body D0.scope [] [] f fd) : Binds K fd ps0 [] := F.bindsN fun _ _ _ _ _ _ us hl => match us, hl with | [_, _, _], _ => rfl
set_option pp.maxSteps 40 in theorem k0 : ckSs ⟨tb.tab, N0, defScope s0⟩ d0.body (defBody s0) = true := by decide +kernel
theorem fs1 : FnScope N1 ps1 (defScope s1) := ⟨rfl, rfl, rfl, by decide +kernel, rfl, by decide +kernel, by decide +kernel⟩
theorem bd1 {K : PySem.W.Frag} {f : Addr} {fd : FuncData} (F : FunD K D1.name D1.qual D1.params D1.body D1.scope [] [] f fd) : Binds K fd ps1 [] := F.bindsN fun _ _ _ _ _ _ us hl => match us, hl with | [_, _, _, _], _ => rfl
set_option pp.maxSteps 40 in theorem k1 : ckSs ⟨tb.tab, N1, defScope s1⟩ d1.body (defBody s1) = true := by decide +kernel
theorem fs2 : FnScope N2 ps2 (defScope s2) := ⟨rfl, rfl, rfl, by decide +kernel, rfl, by decide +kernel, by decide +kernel⟩
theorem bd2 {K : PySem.W.Frag} {f : Addr} {fd : FuncData} (F : FunD K D2.name D2.qual D2.params D2.body D2.scope [] [] f fd) : Binds K fd ps2 [] := F.bindsN fun _ _ _ _ _ _ us hl => match us, hl with | [_], _ => rfl
set_option pp.maxSteps 40 in theorem k2 : ckSs ⟨tb.tab, N2, defScope s2⟩ d2.body (defBody s2) = true := by decide +kernel
theorem fs3 : FnScope N3 ps3 (defScope s3) := ⟨rfl, rfl, rfl, by decide +kernel, rfl, by decide +kernel, by decide +kernel⟩
theorem bd3 {K : PySem.W.Frag} {f : Addr} {fd : FuncData} (F : FunD K D3.name D3.qual D3.params D3.body D3.scope [] [] f fd) : Binds K fd ps3 [] := F.bindsN fun _ _ _ _ _ _ us hl => match us, hl with | [_, _, _], _ => rfl
set_option pp.maxSteps 40 in theorem k3 : ckSs ⟨tb.tab, N3, defScope s3⟩ d3.body (defBody s3) = true := by decide +kernel
theorem fs4 : FnScope N4 ps4 (defScope s4) := ⟨rfl, rfl, rfl, by decide +kernel, rfl, by decide +kernel, by decide +kernel⟩
theorem bd4 {K : PySem.W.Frag} {f : Addr} {fd : FuncData} (F : FunD K D4.name D4.qual D4.params D4.body D4.scope [] [] f fd) : Binds K fd ps4 [] := F.bindsN fun _ _ _ _ _ _ us hl => match us, hl with | [_, _], _ => rfl
set_option pp.maxSteps 40 in theorem k4 : ckSs ⟨tb.tab, N4, defScope s4⟩ d4.body (defBody s4) = true := by decide +kernel
theorem fs5 : FnScope N5 ps5 (defScope s5) := ⟨rfl, rfl, rfl, by decide +kernel, rfl, by decide +kernel, by decide +kernel⟩
theorem bd5 {K : PySem.W.Frag} {f : Addr} {fd : FuncData} (F : FunD K D5.name D5.qual D5.params D5.body D5.scope [] [] f fd) : Binds K fd ps5 [] := F.bindsN fun _ _ _ _ _ _ us hl => match us, hl with | [_], _ => rfl
set_option pp.maxSteps 40 in theorem k5 : ckSs ⟨tb.tab, N5, defScope s5⟩ d5.body (defBody s5) = true := by decide +kernel
theorem fs6 : FnScope N6 ps6 (defScope s6) := ⟨rfl, rfl, rfl, by decide +kernel, rfl, by decide +kernel, by decide +kernel⟩
theorem bd6 {K : PySem.W.Frag} {f : Addr} {fd : FuncData} (F : FunD K D6.name D6.qual D6.params D6.body D6.scope [] [] f fd) : Binds K fd ps6 [] := F.bindsN fun _ _ _ _ _ _ us hl => match us, hl with | [_], _ => rfl
set_option pp.maxSteps 40 in theorem k6 : ckSs ⟨tb.tab, N6, defScope s6⟩ d6.body (defBody s6) = true := by decide +kernel
theorem fs7 : FnScope N7 ps7 (defScope s7) := ⟨rfl, rfl, rfl, by decide +kernel, rfl, by decide +kernel, by decide +kernel⟩
theorem bd7 {K : PySem.W.Frag} {f : Addr} {fd : FuncData} (F : FunD K D7.name D7.qual D7.params D7.body D7.scope [] [] f fd) : Binds K fd ps7 [] := F.bindsN fun _ _ _ _ _ _ us hl => match us, hl with | [_], _ => rfl
set_option pp.maxSteps 40 in theorem k7 : ckSs ⟨tb.tab, N7, defScope s7⟩ d7.body (defBody s7) = true := by decide +kernel
theorem fs8 : FnScope N8 ps8 (defScope s8) := ⟨rfl, rfl, rfl, by decide +kernel, rfl, by decide +kernel, by decide +kernel⟩
theorem bd8 {K : PySem.W.Frag} {f : Addr} {fd : FuncData} (F : FunD K D8.name D8.qual D8.params D8.body D8.scope [] [] f fd) : Binds K fd ps8 [] := F.bindsN fun _ _ _ _ _ _ us hl => match us, hl with | [_, _], _ => rfl
set_option pp.maxSteps 40 in theorem k8 : ckSs ⟨tb.tab, N8, defScope s8⟩ d8.body (defBody s8) = true := by decide +kernel
theorem fs9 : FnScope N9 ps9 (defScope s9) := ⟨rfl, rfl, rfl, by decide +kernel, rfl, by decide +kernel, by decide +kernel⟩
theorem bd9 {K : PySem.W.Frag} {f : Addr} {fd : FuncData} (F : FunD K D9.name D9.qual D9.params D9.body D9.scope [] [] f fd) : Binds K fd ps9 [] := F.bindsN fun _ _ _ _ _ _ us hl => match us, hl with | [_], _ => rfl
set_option pp.maxSteps 40 in theorem k9 : ckSs ⟨tb.tab, N9, defScope s9⟩ d9.body (defBody s9) = true := by decide +kernel
theorem fs10 : FnScope N10 ps10 (defScope s10) := ⟨rfl, rfl, rfl, by decide +kernel, rfl, by decide +kernel, by decide +kernel⟩
theorem bd10 {K : PySem.W.Frag} {f : Addr} {fd : FuncData} (F : FunD K D10.name D10.qual D10.params D10.body D10.scope [] [] f fd) : Binds K fd ps10 [] := F.bindsN fun _ _ _ _ _ _ us hl => match us, hl with | [_, _], _ => rfl
set_option pp.maxSteps 40 in theorem k10 : ckSs ⟨tb.tab, N10, defScope s10⟩ d10.body (defBody s10) = true := by decide +kernel
theorem fs11 : FnScope N11 ps11 (defScope s11) := ⟨rfl, rfl, rfl, by decide +kernel, rfl, by decide +kernel, by decide +kernel⟩
theorem bd11 {K : PySem.W.Frag} {f : Addr} {fd : FuncData} (F : FunD K D11.name D11.qual D11.params D11.body D11.scope [] [] f fd) : Binds K fd ps11 [] := F.bindsN fun _ _ _ _ _ _ us hl => match us, hl with | [_, _, _], _ => rfl
set_option pp.maxSteps 40 in theorem k11 : ckSs ⟨tb.tab, N11, defScope s11⟩ d11.body (defBody s11) = true := by decide +kernel
theorem fs12 : FnScope N12 ps12 (defScope s12) := ⟨rfl, rfl, rfl, by decide +kernel, rfl, by decide +kernel, by decide +kernel⟩
theorem bd12 {K : PySem.W.Frag} {f : Addr} {fd : FuncData} (F : FunD K D12.name D12.qual D12.params D12.body D12.scope [] [] f fd) : Binds K fd ps12 [] := F.bindsN fun _ _ _ _ _ _ us hl => match us, hl with | [_, _, _, _], _ => rfl
set_option pp.maxSteps 40 in theorem k12 : ckSs ⟨tb.tab, N12, defScope s12⟩ d12.body (defBody s12) = true := by decide +kernel
theorem fs13 : FnScope N13 ps13 (defScope s13) := ⟨rfl, rfl, rfl, by decide +kernel, rfl, by decide +kernel, by decide +kernel⟩
theorem bd13 {K : PySem.W.Frag} {f : Addr} {fd : FuncData} (F : FunD K D13.name D13.qual D13.params D13.body D13.scope [] [] f fd) : Binds K fd ps13 [] := F.bindsN fun _ _ _ _ _ _ us hl => match us, hl with | [_, _, _, _], _ => rfl
set_option pp.maxSteps 40 in theorem k13 : ckSs ⟨tb.tab, N13, defScope s13⟩ d13.body (defBody s13) = true := by decide +kernel
theorem fs14 : FnScope N14 ps14 (defScope s14) := ⟨rfl, rfl, rfl, by decide +kernel, rfl, by decide +kernel, by decide +kernel⟩
theorem bd14 {K : PySem.W.Frag} {f : Addr} {fd : FuncData} (F : FunD K D14.name D14.qual D14.params D14.body D14.scope [] [] f fd) : Binds K fd ps14 [] := F.bindsN fun _ _ _ _ _ _ us hl => match us, hl with | [_, _, _], _ => rfl
set_option pp.maxSteps 40 in theorem k14 : ckSs ⟨tb.tab, N14, defScope s14⟩ d14.body (defBody s14) = true := by decide +kernel
theorem fs15 : FnScope N15 ps15 (defScope s15) := ⟨rfl, rfl, rfl, by decide +kernel, rfl, by decide +kernel, by decide +kernel⟩
theorem bd15 {K : PySem.W.Frag} {f : Addr} {fd : FuncData} (F : FunD K D15.name D15.qual D15.params D15.body D15.scope [] [] f fd) : Binds K fd ps15 [] := F.bindsN fun _ _ _ _ _ _ us hl => match us, hl with | [_, _, _], _ => rfl
set_option pp.maxSteps 40 in theorem k15 : ckSs ⟨tb.tab, N15, defScope s15⟩ d15.body (defBody s15) = true := by decide +kernel
theorem fs16 : FnScope N16 ps16 (defScope s16) := ⟨rfl, rfl, rfl, by decide +kernel, rfl, by decide +kernel, by decide +kernel⟩
theorem bd16 {K : PySem.W.Frag} {f : Addr} {fd : FuncData} (F : FunD K D16.name D16.qual D16.params D16.body D16.scope [] [] f fd) : Binds K fd ps16 [] := F.bindsN fun _ _ _ _ _ _ us hl => match us, hl with | [_, _], _ => rfl
set_option pp.maxSteps 40 in theorem k16 : ckSs ⟨tb.tab, N16, defScope s16⟩ d16.body (defBody s16) = true := by decide +kernel
theorem fs17 : FnScope N17 ps17 (defScope s17) := ⟨rfl, rfl, rfl, by decide +kernel, rfl, by decide +kernel, by decide +kernel⟩
theorem bd17 {K : PySem.W.Frag} {f : Addr} {fd : FuncData} (F : FunD K D17.name D17.qual D17.params D17.body D17.scope [] [] f fd) : Binds K fd ps17 [] := F.bindsN fun _ _ _ _ _ _ us hl => match us, hl with | [_, _], _ => rfl
set_option pp.maxSteps 40 in theorem k17 : ckSs ⟨tb.tab, N17, defScope s17⟩ d17.body (defBody s17) = true := by decide +kernel
theorem fs18 : FnScope N18 ps18 (defScope s18) := ⟨rfl, rfl, rfl, by decide +kernel, rfl, by decide +kernel, by decide +kernel⟩
theorem bd18 {K : PySem.W.Frag} {f : Addr} {fd : FuncData} (F : FunD K D18.name D18.qual D18.params D18.body D18.scope [] [] f fd) : Binds K fd ps18 [] := F.bindsN fun _ _ _ _ _ _ us hl => match us, hl with | [_, _], _ => rfl
set_option pp.maxSteps 40 in theorem k18 : ckSs ⟨tb.tab, N18, defScope s18⟩ d18.body (defBody s18) = true := by decide +kernel
theorem fs19 : FnScope N19 ps19 (defScope s19) := ⟨rfl, rfl, rfl, by decide +kernel, rfl, by decide +kernel, by decide +kernel⟩
theorem bd19 {K : PySem.W.Frag} {f : Addr} {fd : FuncData} (F : FunD K D19.name D19.qual D19.params D19.body D19.scope [] [] f fd) : Binds K fd ps19 [] := F.bindsN fun _ _ _ _ _ _ us hl => match us, hl with | [_, _], _ => rfl
set_option pp.maxSteps 40 in theorem k19 : ckSs ⟨tb.tab, N19, defScope s19⟩ d19.body (defBody s19) = true := by decide +kernel
theorem fs20 : FnScope N20 ps20 (defScope s20) := ⟨rfl, rfl, rfl, by decide +kernel, rfl, by decide +kernel, by decide +kernel⟩
theorem bd20 {K : PySem.W.Frag} {f : Addr} {fd : FuncData} (F : FunD K D20.name D20.qual D20.params D20.body D20.scope [] [] f fd) : Binds K fd ps20 [] := F.bindsN fun _ _ _ _ _ _ us hl => match us, hl with | [_, _], _ => rfl
set_option pp.maxSteps 40 in theorem k20 : ckSs ⟨tb.tab, N20, defScope s20⟩ d20.body (defBody s20) = true := by decide +kernel
theorem fs21 : FnScope N21 ps21 (defScope s21) := ⟨rfl, rfl, rfl, by decide +kernel, rfl, by decide +kernel, by decide +kernel⟩
theorem bd21 {K : PySem.W.Frag} {f : Addr} {fd : FuncData} (F : FunD K D21.name D21.qual D21.params D21.body D21.scope [] [] f fd) : Binds K fd ps21 [] := F.bindsN fun _ _ _ _ _ _ us hl => match us, hl with | [_, _, _, _], _ => rfl
set_option pp.maxSteps 40 in theorem k21 : ckSs ⟨tb.tab, N21, defScope s21⟩ d21.body (defBody s21) = true := by decide +kernel
theorem fs22 : FnScope N22 ps22 (defScope s22) := ⟨rfl, rfl, rfl, by decide +kernel, rfl, by decide +kernel, by decide +kernel⟩
theorem bd22 {K : PySem.W.Frag} {f : Addr} {fd : FuncData} (F : FunD K D22.name D22.qual D22.params D22.body D22.scope [] [] f fd) : Binds K fd ps22 [] := F.bindsN fun _ _ _ _ _ _ us hl => match us, hl with | [_, _], _ => rfl
set_option pp.maxSteps 40 in theorem k22 : ckSs ⟨tb.tab, N22, defScope s22⟩ d22.body (defBody s22) = true := by decide +kernel
theorem fs23 : FnScope N23 ps23 (defScope s23) := ⟨rfl, rfl, rfl, by decide +kernel, rfl, by decide +kernel, by decide +kernel⟩
theorem bd23 {K : PySem.W.Frag} {f : Addr} {fd : FuncData} (F : FunD K D23.name D23.qual D23.params D23.body D23.scope [] [] f fd) : Binds K fd ps23 [] := F.bindsN fun _ _ _ _ _ _ us hl => match us, hl with | [_, _, _], _ => rfl
set_option pp.maxSteps 40 in theorem k23 : ckSs ⟨tb.tab, N23, defScope s23⟩ d23.body (defBody s23) = true := by decide +kernel
theorem fs24 : FnScope N24 ps24 (defScope s24) := ⟨rfl, rfl, rfl, by decide +kernel, rfl, by decide +kernel, by decide +kernel⟩
theorem bd24 {K : PySem.W.Frag} {f : Addr} {fd : FuncData} (F : FunD K D24.name D24.qual D24.params D24.body D24.scope [] [] f fd) : Binds K fd ps24 [] := F.bindsN fun _ _ _ _ _ _ us hl => match us, hl with | [_, _], _ => rfl
set_option pp.maxSteps 40 in theorem k24 : ckSs ⟨tb.tab, N24, defScope s24⟩ d24.body (defBody s24) = true := by decide +kernel
theorem fs25 : FnScope N25 ps25 (defScope s25) := ⟨rfl, rfl, rfl, by decide +kernel, rfl, by decide +kernel, by decide +kernel⟩
theorem bd25 {K : PySem.W.Frag} {f : Addr} {fd : FuncData} (F : FunD K D25.name D25.qual D25.params D25.body D25.scope [] [] f fd) : Binds K fd ps25 [] := F.bindsN fun _ _ _ _ _ _ us hl => match us, hl with | [_, _], _ => rfl
set_option pp.maxSteps 40 in theorem k25 : ckSs ⟨tb.tab, N25, defScope s25⟩ d25.body (defBody s25) = true := by decide +kernel
theorem fs26 : FnScope N26 ps26 (defScope s26) := ⟨rfl, rfl, rfl, by decide +kernel, rfl, by decide +kernel, by decide +kernel⟩
theorem bd26 {K : PySem.W.Frag} {f : Addr} {fd : FuncData} (F : FunD K D26.name D26.qual D26.params D26.body D26.scope [] [] f fd) : Binds K fd ps26 [] := F.bindsN fun _ _ _ _ _ _ us hl => match us, hl with | [_, _], _ => rfl
set_option pp.maxSteps 40 in theorem k26 : ckSs ⟨tb.tab, N26, defScope s26⟩ d26.body (defBody s26) = true := by decide +kernel
theorem fs27 : FnScope N27 ps27 (defScope s27) := ⟨rfl, rfl, rfl, by decide +kernel, rfl, by decide +kernel, by decide +kernel⟩
theorem bd27 {K : PySem.W.Frag} {f : Addr} {fd : FuncData} (F : FunD K D27.name D27.qual D27.params D27.body D27.scope [] [] f fd) : Binds K fd ps27 [] := F.bindsN fun _ _ _ _ _ _ us hl => match us, hl with | [_, _], _ => rfl
set_option pp.maxSteps 40 in theorem k27 : ckSs ⟨tb.tab, N27, defScope s27⟩ d27.body (defBody s27) = true := by decide +kernel
theorem fs28 : FnScope N28 ps28 (defScope s28) := ⟨rfl, rfl, rfl, by decide +kernel, rfl, by decide +kernel, by decide +kernel⟩
theorem bd28 {K : PySem.W.Frag} {f : Addr} {fd : FuncData} (F : FunD K D28.name D28.qual D28.params D28.body D28.scope [] [] f fd) : Binds K fd ps28 [] := F.bindsN fun _ _ _ _ _ _ us hl => match us, hl with | [_, _, _, _], _ => rfl
set_option pp.maxSteps 40 in theorem k28 : ckSs ⟨tb.tab, N28, defScope s28⟩ d28.body (defBody s28) = true := by decide +kernel
theorem fs29 : FnScope N29 ps29 (defScope s29) := ⟨rfl, rfl, rfl, by decide +kernel, rfl, by decide +kernel, by decide +kernel⟩
theorem bd29 {K : PySem.W.Frag} {f : Addr} {fd : FuncData} (F : FunD K D29.name D29.qual D29.params D29.body D29.scope [] [] f fd) : Binds K fd ps29 [] := F.bindsN fun _ _ _ _ _ _ us hl => match us, hl with | [_], _ => rfl
set_option pp.maxSteps 40 in theorem k29 : ckSs ⟨tb.tab, N29, defScope s29⟩ d29.body (defBody s29) = true := by decide +kernel
theorem fs30 : FnScope N30 ps30 (defScope s30) := ⟨rfl, rfl, rfl, by decide +kernel, rfl, by decide +kernel, by decide +kernel⟩
theorem bd30 {K : PySem.W.Frag} {f : Addr} {fd : FuncData} (F : FunD K D30.name D30.qual D30.params D30.body D30.scope [] [] f fd) : Binds K fd ps30 [] := F.bindsN fun _ _ _ _ _ _ us hl => match us, hl with | [_, _], _ => rfl
set_option pp.maxSteps 40 in theorem k30 : ckSs ⟨tb.tab, N30, defScope s30⟩ d30.body (defBody s30) = true := by decide +kernel
theorem fs31 : FnScope N31 ps31 (defScope s31) := ⟨rfl, rfl, rfl, by decide +kernel, rfl, by decide +kernel, by decide +kernel⟩
theorem bd31 {K : PySem.W.Frag} {f : Addr} {fd : FuncData} (F : FunD K D31.name D31.qual D31.params D31.body D31.scope [] [] f fd) : Binds K fd ps31 [] := F.bindsN fun _ _ _ _ _ _ us hl => match us, hl with | [_], _ => rfl
set_option pp.maxSteps 40 in theorem k31 : ckSs ⟨tb.tab, N31, defScope s31⟩ d31.body (defBody s31) = true := by decide +kernel
theorem fs32 : FnScope N32 ps32 (defScope s32) := ⟨rfl, rfl, rfl, by decide +kernel, rfl, by decide +kernel, by decide +kernel⟩
theorem bd32 {K : PySem.W.Frag} {f : Addr} {fd : FuncData} (F : FunD K D32.name D32.qual D32.params D32.body D32.scope [] [] f fd) : Binds K fd ps32 [] := F.bindsN fun _ _ _ _ _ _ us hl => match us, hl with | [_, _], _ => rfl
set_option pp.maxSteps 40 in theorem k32 : ckSs ⟨tb.tab, N32, defScope s32⟩ d32.body (defBody s32) = true := by decide +kernel
theorem fs33 : FnScope N33 ps33 (defScope s33) := ⟨rfl, rfl, rfl, by decide +kernel, rfl, by decide +kernel, by decide +kernel⟩
theorem bd33 {K : PySem.W.Frag} {f : Addr} {fd : FuncData} (F : FunD K D33.name D33.qual D33.params D33.body D33.scope [] [] f fd) : Binds K fd ps33 [] := F.bindsN fun _ _ _ _ _ _ us hl => match us, hl with | [_], _ => rfl
set_option pp.maxSteps 40 in theorem k33 : ckSs ⟨tb.tab, N33, defScope s33⟩ d33.body (defBody s33) = true := by decide +kernel
theorem fs34 : FnScope N34 ps34 (defScope s34) := ⟨rfl, rfl, rfl, by decide +kernel, rfl, by decide +kernel, by decide +kernel⟩
theorem bd34 {K : PySem.W.Frag} {f : Addr} {fd : FuncData} (F : FunD K D34.name D34.qual D34.params D34.body D34.scope [] [] f fd) : Binds K fd ps34 [] := F.bindsN fun _ _ _ _ _ _ us hl => match us, hl with | [_, _], _ => rfl
set_option pp.maxSteps 40 in theorem k34 : ckSs ⟨tb.tab, N34, defScope s34⟩ d34.body (defBody s34) = true := by decide +kernel
theorem fs35 : FnScope N35 ps35 (defScope s35) := ⟨rfl, rfl, rfl, by decide +kernel, rfl, by decide +kernel, by decide +kernel⟩
theorem bd35 {K : PySem.W.Frag} {f : Addr} {fd : FuncData} (F : FunD K D35.name D35.qual D35.params D35.body D35.scope [] [] f fd) : Binds K fd ps35 [] := F.bindsN fun _ _ _ _ _ _ us hl => match us, hl with | [_, _, _], _ => rfl
set_option pp.maxSteps 40 in theorem k35 : ckSs ⟨tb.tab, N35, defScope s35⟩ d35.body (defBody s35) = true := by decide +kernel
theorem fs36 : FnScope N36 ps36 (defScope s36) := ⟨rfl, rfl, rfl, by decide +kernel, rfl, by decide +kernel, by decide +kernel⟩
theorem bd36 {K : PySem.W.Frag} {f : Addr} {fd : FuncData} (F : FunD K D36.name D36.qual D36.params D36.body D36.scope [] [] f fd) : Binds K fd ps36 [] := F.bindsN fun _ _ _ _ _ _ us hl => match us, hl with | [_, _], _ => rfl
set_option pp.maxSteps 40 in theorem k36 : ckSs ⟨tb.tab, N36, defScope s36⟩ d36.body (defBody s36) = true := by decide +kernel
theorem fs37 : FnScope N37 ps37 (defScope s37) := ⟨rfl, rfl, rfl, by decide +kernel, rfl, by decide +kernel, by decide +kernel⟩
theorem bd37 {K : PySem.W.Frag} {f : Addr} {fd : FuncData} (F : FunD K D37.name D37.qual D37.params D37.body D37.scope [] [] f fd) : Binds K fd ps37 [] := F.bindsN fun _ _ _ _ _ _ us hl => match us, hl with | [_], _ => rfl
set_option pp.maxSteps 40 in theorem k37 : ckSs ⟨tb.tab, N37, defScope s37⟩ d37.body (defBody s37) = true := by decide +kernel
theorem fs38 : FnScope N38 ps38 (defScope s38) := ⟨rfl, rfl, rfl, by decide +kernel, rfl, by decide +kernel, by decide +kernel⟩
theorem bd38 {K : PySem.W.Frag} {f : Addr} {fd : FuncData} (F : FunD K D38.name D38.qual D38.params D38.body D38.scope [] [] f fd) : Binds K fd ps38 [] := F.bindsN fun _ _ _ _ _ _ us hl => match us, hl with | [_], _ => rfl
set_option pp.maxSteps 40 in theorem k38 : ckSs ⟨tb.tab, N38, defScope s38⟩ d38.body (defBody s38) = true := by decide +kernel
theorem fs39 : FnScope N39 ps39 (defScope s39) := ⟨rfl, rfl, rfl, by decide +kernel, rfl, by decide +kernel, by decide +kernel⟩
theorem bd39 {K : PySem.W.Frag} {f : Addr} {fd : FuncData} (F : FunD K D39.name D39.qual D39.params D39.body D39.scope [] [] f fd) : Binds K fd ps39 [] := F.bindsN fun _ _ _ _ _ _ us hl => match us, hl with | [_, _], _ => rfl
set_option pp.maxSteps 40 in theorem k39 : ckSs ⟨tb.tab, N39, defScope s39⟩ d39.body (defBody s39) = true := by decide +kernel
theorem fs40 : FnScope N40 ps40 (defScope s40) := ⟨rfl, rfl, rfl, by decide +kernel, rfl, by decide +kernel, by decide +kernel⟩
theorem bd40 {K : PySem.W.Frag} {f : Addr} {fd : FuncData} (F : FunD K D40.name D40.qual D40.params D40.body D40.scope [] [] f fd) : Binds K fd ps40 [] := F.bindsN fun _ _ _ _ _ _ us hl => match us, hl with | [_], _ => rfl
set_option pp.maxSteps 40 in theorem k40 : ckSs ⟨tb.tab, N40, defScope s40⟩ d40.body (defBody s40) = true := by decide +kernel
theorem fs41 : FnScope N41 ps41 (defScope s41) := ⟨rfl, rfl, rfl, by decide +kernel, rfl, by decide +kernel, by decide +kernel⟩
theorem bd41 {K : PySem.W.Frag} {f : Addr} {fd : FuncData} (F : FunD K D41.name D41.qual D41.params D41.body D41.scope [] [] f fd) : Binds K fd ps41 [] := F.bindsN fun _ _ _ _ _ _ us hl => match us, hl with | [_, _, _], _ => rfl
set_option pp.maxSteps 40 in theorem k41 : ckSs ⟨tb.tab, N41, defScope s41⟩ d41.body (defBody s41) = true := by decide +kernel
theorem fs42 : FnScope N42 ps42 (defScope s42) := ⟨rfl, rfl, rfl, by decide +kernel, rfl, by decide +kernel, by decide +kernel⟩
theorem bd42 {K : PySem.W.Frag} {f : Addr} {fd : FuncData} (F : FunD K D42.name D42.qual D42.params D42.body D42.scope [] [] f fd) : Binds K fd ps42 [] := F.bindsN fun _ _ _ _ _ _ us hl => match us, hl with | [_], _ => rfl
set_option pp.maxSteps 40 in theorem k42 : ckSs ⟨tb.tab, N42, defScope s42⟩ d42.body (defBody s42) = true := by decide +kernel
theorem fs43 : FnScope N43 ps43 (defScope s43) := ⟨rfl, rfl, rfl, by decide +kernel, rfl, by decide +kernel, by decide +kernel⟩
theorem bd43 {K : PySem.W.Frag} {f : Addr} {fd : FuncData} (F : FunD K D43.name D43.qual D43.params D43.body D43.scope [] [] f fd) : Binds K fd ps43 [] := F.bindsN fun _ _ _ _ _ _ us hl => match us, hl with | [_, _], _ => rfl
set_option pp.maxSteps 40 in theorem k43 : ckSs ⟨tb.tab, N43, defScope s43⟩ d43.body (defBody s43) = true := by decide +kernel
theorem fs44 : FnScope N44 ps44 (defScope s44) := ⟨rfl, rfl, rfl, by decide +kernel, rfl, by decide +kernel, by decide +kernel⟩
theorem bd44 {K : PySem.W.Frag} {f : Addr} {fd : FuncData} (F : FunD K D44.name D44.qual D44.params D44.body D44.scope [] [] f fd) : Binds K fd ps44 [] := F.bindsN fun _ _ _ _ _ _ us hl => match us, hl with | [_], _ => rfl
set_option pp.maxSteps 40 in theorem k44 : ckSs ⟨tb.tab, N44, defScope s44⟩ d44.body (defBody s44) = true := by decide +kernel
theorem fs45 : FnScope N45 ps45 (defScope s45) := ⟨rfl, rfl, rfl, by decide +kernel, rfl, by decide +kernel, by decide +kernel⟩
theorem bd45 {K : PySem.W.Frag} {f : Addr} {fd : FuncData} (F : FunD K D45.name D45.qual D45.params D45.body D45.scope [] [] f fd) : Binds K fd ps45 [] := F.bindsN fun _ _ _ _ _ _ us hl => match us, hl with | [_, _, _], _ => rfl
set_option pp.maxSteps 40 in theorem k45 : ckSs ⟨tb.tab, N45, defScope s45⟩ d45.body (defBody s45) = true := by decide +kernel
theorem fs46 : FnScope N46 ps46 (defScope s46) := ⟨rfl, rfl, rfl, by decide +kernel, rfl, by decide +kernel, by decide +kernel⟩
theorem bd46 {K : PySem.W.Frag} {f : Addr} {fd : FuncData} (F : FunD K D46.name D46.qual D46.params D46.body D46.scope [] [] f fd) : Binds K fd ps46 [] := F.bindsN fun _ _ _ _ _ _ us hl => match us, hl with | [_, _, _], _ => rfl
set_option pp.maxSteps 40 in theorem k46 : ckSs ⟨tb.tab, N46, defScope s46⟩ d46.body (defBody s46) = true := by decide +kernel
theorem fs47 : FnScope N47 ps47 (defScope s47) := ⟨rfl, rfl, rfl, by decide +kernel, rfl, by decide +kernel, by decide +kernel⟩
theorem bd47 {K : PySem.W.Frag} {f : Addr} {fd : FuncData} (F : FunD K D47.name D47.qual D47.params D47.body D47.scope [] [] f fd) : Binds K fd ps47 [] := F.bindsN fun _ _ _ _ _ _ us hl => match us, hl with | [_, _], _ => rfl
set_option pp.maxSteps 40 in theorem k47 : ckSs ⟨tb.tab, N47, defScope s47⟩ d47.body (defBody s47) = true := by decide +kernel
theorem fs48 : FnScope N48 ps48 (defScope s48) := ⟨rfl, rfl, rfl, by decide +kernel, rfl, by decide +kernel, by decide +kernel⟩
theorem bd48 {K : PySem.W.Frag} {f : Addr} {fd : FuncData} (F : FunD K D48.name D48.qual D48.params D48.body D48.scope [] [] f fd) : Binds K fd ps48 [] := F.bindsN fun _ _ _ _ _ _ us hl => match us, hl with | [_, _, _], _ => rfl
set_option pp.maxSteps 40 in theorem k48 : ckSs ⟨tb.tab, N48, defScope s48⟩ d48.body (defBody s48) = true := by decide +kernel
theorem fs49 : FnScope N49 ps49 (defScope s49) := ⟨rfl, rfl, rfl, by decide +kernel, rfl, by decide +kernel, by decide +kernel⟩
theorem bd49 {K : PySem.W.Frag} {f : Addr} {fd : FuncData} (F : FunD K D49.name D49.qual D49.params D49.body D49.scope [] [] f fd) : Binds K fd ps49 [] := F.bindsN fun _ _ _ _ _ _ us hl => match us, hl with | [_, _, _, _], _ => rfl
set_option pp.maxSteps 40 in theorem k49 : ckSs ⟨tb.tab, N49, defScope s49⟩ d49.body (defBody s49) = true := by decide +kernel
theorem fs50 : FnScope N50 ps50 (defScope s50) := ⟨rfl, rfl, rfl, by decide +kernel, rfl, by decide +kernel, by decide +kernel⟩
theorem bd50 {K : PySem.W.Frag} {f : Addr} {fd : FuncData} (F : FunD K D50.name D50.qual D50.params D50.body D50.scope [] [] f fd) : Binds K fd ps50 [] := F.bindsN fun _ _ _ _ _ _ us hl => match us, hl with | [_], _ => rfl
theorem fs51 : FnScope N51 ps51 (defScope s51) := ⟨rfl, rfl, rfl, by decide +kernel, rfl, by decide +kernel, by decide +kernel⟩
theorem bd51 {K : PySem.W.Frag} {f : Addr} {fd : FuncData} (F : FunD K D51.name D51.qual D51.params D51.body D51.scope [] [] f fd) : Binds K fd ps51 [] := F.bindsN fun _ _ _ _ _ _ us hl => match us, hl with | [_, _, _, _], _ => rfl
theorem k51 : ckSs ⟨tb.tab, N51, defScope s51⟩ (tryS d51.body) (tryB (defBody s51)) = true := by decide +kernel
theorem fs52 : FnScope N52 ps52 (defScope s52) := ⟨rfl, rfl, rfl, by decide +kernel, rfl, by decide +kernel, by decide +kernel⟩
theorem bd52 {K : PySem.W.Frag} {f : Addr} {fd : FuncData} (F : FunD K D52.name D52.qual D52.params D52.body D52.scope [] [] f fd) : Binds K fd ps52 [] := F.bindsN fun _ _ _ _ _ _ us hl => match us, hl with | [_, _, _, _, _], _ => rfl
set_option pp.maxSteps 40 in theorem k52 : ckSs ⟨tb.tab, N52, defScope s52⟩ d52.body (defBody s52) = true := by decide +kernel
theorem fs53 : FnScope N53 ps53 (defScope s53) := ⟨rfl, rfl, rfl, by decide +kernel, rfl, by decide +kernel, by decide +kernel⟩
theorem bd53 {K : PySem.W.Frag} {f : Addr} {fd : FuncData} (F : FunD K D53.name D53.qual D53.params D53.body D53.scope [] [] f fd) : Binds K fd ps53 [] := F.bindsN fun _ _ _ _ _ _ us hl => match us, hl with | [], _ => rfl
set_option pp.maxSteps 40 in theorem k53 : ckSs ⟨tb.tab, N53, defScope s53⟩ d53.body (defBody s53) = true := by decide +kernel
theorem fs54 : FnScope N54 ps54 (defScope s54) := ⟨rfl, rfl, rfl, by decide +kernel, rfl, by decide +kernel, by decide +kernel⟩
theorem bd54 {K : PySem.W.Frag} {f : Addr} {fd : FuncData} (F : FunD K D54.name D54.qual D54.params D54.body D54.scope [] [] f fd) : Binds K fd ps54 [] := F.bindsN fun _ _ _ _ _ _ us hl => match us, hl with | [], _ => rfl
set_option pp.maxSteps 40 in theorem k54 : ckSs ⟨tb.tab, N54, defScope s54⟩ d54.body (defBody s54) = true := by decide +kernel
theorem fs55 : FnScope N55 ps55 (defScope s55) := ⟨rfl, rfl, rfl, by decide +kernel, rfl, by decide +kernel, by decide +kernel⟩
theorem bd55 {K : PySem.W.Frag} {f : Addr} {fd : FuncData} (F : FunD K D55.name D55.qual D55.params D55.body D55.scope [] [] f fd) : Binds K fd ps55 [] := F.bindsN fun _ _ _ _ _ _ us hl => match us, hl with | [_], _ => rfl
set_option pp.maxSteps 40 in theorem k55 : ckSs ⟨tb.tab, N55, defScope s55⟩ d55.body (defBody s55) = true := by decide +kernel
def dfn (f : Nat) : Df := tb.df.getD f ⟨0, 0, .nil⟩
variable {P : Program} {w : World} {K : PySem.W.Frag} {mg : Str → Option Value} {base : Heap} {fd : Nat → FuncData}
theorem ok0 (F : FunD K D0.name D0.qual D0.params D0.body D0.scope [] [] (He.fAd K (tb.plc 0)) (fd 0)) : DefOk (tb.wr P w K mg base fd) dfn 0 := ⟨⟨_, _, _, _, _, N0, F, fs0, rfl, rfl, ck_body k0⟩⟩
theorem ok1 (F : FunD K D1.name D1.qual D1.params D1.body D1.scope [] [] (He.fAd K (tb.plc 1)) (fd 1)) : DefOk (tb.wr P w K mg base fd) dfn 1 := ⟨⟨_, _, _, _, _, N1, F, fs1, rfl, rfl, ck_body k1⟩⟩
theorem ok2 (F : FunD K D2.name D2.qual D2.params D2.body D2.scope [] [] (He.fAd K (tb.plc 2)) (fd 2)) : DefOk (tb.wr P w K mg base fd) dfn 2 := ⟨⟨_, _, _, _, _, N2, F, fs2, rfl, rfl, ck_body k2⟩⟩
theorem ok3 (F : FunD K D3.name D3.qual D3.params D3.body D3.scope [] [] (He.fAd K (tb.plc 3)) (fd 3)) : DefOk (tb.wr P w K mg base fd) dfn 3 := ⟨⟨_, _, _, _, _, N3, F, fs3, rfl, rfl, ck_body k3⟩⟩
theorem ok4 (F : FunD K D4.name D4.qual D4.params D4.body D4.scope [] [] (He.fAd K (tb.plc 4)) (fd 4)) : DefOk (tb.wr P w K mg base fd) dfn 4 := ⟨⟨_, _, _, _, _, N4, F, fs4, rfl, rfl, ck_body k4⟩⟩
theorem ok5 (F : FunD K D5.name D5.qual D5.params D5.body D5.scope [] [] (He.fAd K (tb.plc 5)) (fd 5)) : DefOk (tb.wr P w K mg base fd) dfn 5 := ⟨⟨_, _, _, _, _, N5, F, fs5, rfl, rfl, ck_body k5⟩⟩
theorem ok6 (F : FunD K D6.name D6.qual D6.params D6.body D6.scope [] [] (He.fAd K (tb.plc 6)) (fd 6)) : DefOk (tb.wr P w K mg base fd) dfn 6 := ⟨⟨_, _, _, _, _, N6, F, fs6, rfl, rfl, ck_body k6⟩⟩
theorem ok7 (F : FunD K D7.name D7.qual D7.params D7.body D7.scope [] [] (He.fAd K (tb.plc 7)) (fd 7)) : DefOk (tb.wr P w K mg base fd) dfn 7 := ⟨⟨_, _, _, _, _, N7, F, fs7, rfl, rfl, ck_body k7⟩⟩
theorem ok8 (F : FunD K D8.name D8.qual D8.params D8.body D8.scope [] [] (He.fAd K (tb.plc 8)) (fd 8)) : DefOk (tb.wr P w K mg base fd) dfn 8 := ⟨⟨_, _, _, _, _, N8, F, fs8, rfl, rfl, ck_body k8⟩⟩
theorem ok9 (F : FunD K D9.name D9.qual D9.params D9.body D9.scope [] [] (He.fAd K (tb.plc 9)) (fd 9)) : DefOk (tb.wr P w K mg base fd) dfn 9 := ⟨⟨_, _, _, _, _, N9, F, fs9, rfl, rfl, ck_body k9⟩⟩
theorem ok10 (F : FunD K D10.name D10.qual D10.params D10.body D10.scope [] [] (He.fAd K (tb.plc 10)) (fd 10)) : DefOk (tb.wr P w K mg base fd) dfn 10 := ⟨⟨_, _, _, _, _, N10, F, fs10, rfl, rfl, ck_body k10⟩⟩
theorem ok11 (F : FunD K D11.name D11.qual D11.params D11.body D11.scope [] [] (He.fAd K (tb.plc 11)) (fd 11)) : DefOk (tb.wr P w K mg base fd) dfn 11 := ⟨⟨_, _, _, _, _, N11, F, fs11, rfl, rfl, ck_body k11⟩⟩
theorem ok12 (F : FunD K D12.name D12.qual D12.params D12.body D12.scope [] [] (He.fAd K (tb.plc 12)) (fd 12)) : DefOk (tb.wr P w K mg base fd) dfn 12 := ⟨⟨_, _, _, _, _, N12, F, fs12, rfl, rfl, ck_body k12⟩⟩
theorem ok13 (F : FunD K D13.name D13.qual D13.params D13.body D13.scope [] [] (He.fAd K (tb.plc 13)) (fd 13)) : DefOk (tb.wr P w K mg base fd) dfn 13 := ⟨⟨_, _, _, _, _, N13, F, fs13, rfl, rfl, ck_body k13⟩⟩
theorem ok14 (F : FunD K D14.name D14.qual D14.params D14.body D14.scope [] [] (He.fAd K (tb.plc 14)) (fd 14)) : DefOk (tb.wr P w K mg base fd) dfn 14 := ⟨⟨_, _, _, _, _, N14, F, fs14, rfl, rfl, ck_body k14⟩⟩
theorem ok15 (F : FunD K D15.name D15.qual D15.params D15.body D15.scope [] [] (He.fAd K (tb.plc 15)) (fd 15)) : DefOk (tb.wr P w K mg base fd) dfn 15 := ⟨⟨_, _, _, _, _, N15, F, fs15, rfl, rfl, ck_body k15⟩⟩
theorem ok16 (F : FunD K D16.name D16.qual D16.params D16.body D16.scope [] [] (He.fAd K (tb.plc 16)) (fd 16)) : DefOk (tb.wr P w K mg base fd) dfn 16 := ⟨⟨_, _, _, _, _, N16, F, fs16, rfl, rfl, ck_body k16⟩⟩
theorem ok17 (F : FunD K D17.name D17.qual D17.params D17.body D17.scope [] [] (He.fAd K (tb.plc 17)) (fd 17)) : DefOk (tb.wr P w K mg base fd) dfn 17 := ⟨⟨_, _, _, _, _, N17, F, fs17, rfl, rfl, ck_body k17⟩⟩
theorem ok18 (F : FunD K D18.name D18.qual D18.params D18.body D18.scope [] [] (He.fAd K (tb.plc 18)) (fd 18)) : DefOk (tb.wr P w K mg base fd) dfn 18 := ⟨⟨_, _, _, _, _, N18, F, fs18, rfl, rfl, ck_body k18⟩⟩
theorem ok19 (F : FunD K D19.name D19.qual D19.params D19.body D19.scope [] [] (He.fAd K (tb.plc 19)) (fd 19)) : DefOk (tb.wr P w K mg base fd) dfn 19 := ⟨⟨_, _, _, _, _, N19, F, fs19, rfl, rfl, ck_body k19⟩⟩
theorem ok20 (F : FunD K D20.name D20.qual D20.params D20.body D20.scope [] [] (He.fAd K (tb.plc 20)) (fd 20)) : DefOk (tb.wr P w K mg base fd) dfn 20 := ⟨⟨_, _, _, _, _, N20, F, fs20, rfl, rfl, ck_body k20⟩⟩
theorem ok21 (F : FunD K D21.name D21.qual D21.params D21.body D21.scope [] [] (He.fAd K (tb.plc 21)) (fd 21)) : DefOk (tb.wr P w K mg base fd) dfn 21 := ⟨⟨_, _, _, _, _, N21, F, fs21, rfl, rfl, ck_body k21⟩⟩
theorem ok22 (F : FunD K D22.name D22.qual D22.params D22.body D22.scope [] [] (He.fAd K (tb.plc 22)) (fd 22)) : DefOk (tb.wr P w K mg base fd) dfn 22 := ⟨⟨_, _, _, _, _, N22, F, fs22, rfl, rfl, ck_body k22⟩⟩
theorem ok23 (F : FunD K D23.name D23.qual D23.params D23.body D23.scope [] [] (He.fAd K (tb.plc 23)) (fd 23)) : DefOk (tb.wr P w K mg base fd) dfn 23 := ⟨⟨_, _, _, _, _, N23, F, fs23, rfl, rfl, ck_body k23⟩⟩
theorem ok24 (F : FunD K D24.name D24.qual D24.params D24.body D24.scope [] [] (He.fAd K (tb.plc 24)) (fd 24)) : DefOk (tb.wr P w K mg base fd) dfn 24 := ⟨⟨_, _, _, _, _, N24, F, fs24, rfl, rfl, ck_body k24⟩⟩
theorem ok25 (F : FunD K D25.name D25.qual D25.params D25.body D25.scope [] [] (He.fAd K (tb.plc 25)) (fd 25)) : DefOk (tb.wr P w K mg base fd) dfn 25 := ⟨⟨_, _, _, _, _, N25, F, fs25, rfl, rfl, ck_body k25⟩⟩
theorem ok26 (F : FunD K D26.name D26.qual D26.params D26.body D26.scope [] [] (He.fAd K (tb.plc 26)) (fd 26)) : DefOk (tb.wr P w K mg base fd) dfn 26 := ⟨⟨_, _, _, _, _, N26, F, fs26, rfl, rfl, ck_body k26⟩⟩
theorem ok27 (F : FunD K D27.name D27.qual D27.params D27.body D27.scope [] [] (He.fAd K (tb.plc 27)) (fd 27)) : DefOk (tb.wr P w K mg base fd) dfn 27 := ⟨⟨_, _, _, _, _, N27, F, fs27, rfl, rfl, ck_body k27⟩⟩
theorem ok28 (F : FunD K D28.name D28.qual D28.params D28.body D28.scope [] [] (He.fAd K (tb.plc 28)) (fd 28)) : DefOk (tb.wr P w K mg base fd) dfn 28 := ⟨⟨_, _, _, _, _, N28, F, fs28, rfl, rfl, ck_body k28⟩⟩
theorem ok29 (F : FunD K D29.name D29.qual D29.params D29.body D29.scope [] [] (He.fAd K (tb.plc 29)) (fd 29)) : DefOk (tb.wr P w K mg base fd) dfn 29 := ⟨⟨_, _, _, _, _, N29, F, fs29, rfl, rfl, ck_body k29⟩⟩
theorem ok30 (F : FunD K D30.name D30.qual D30.params D30.body D30.scope [] [] (He.fAd K (tb.plc 30)) (fd 30)) : DefOk (tb.wr P w K mg base fd) dfn 30 := ⟨⟨_, _, _, _, _, N30, F, fs30, rfl, rfl, ck_body k30⟩⟩
theorem ok31 (F : FunD K D31.name D31.qual D31.params D31.body D31.scope [] [] (He.fAd K (tb.plc 31)) (fd 31)) : DefOk (tb.wr P w K mg base fd) dfn 31 := ⟨⟨_, _, _, _, _, N31, F, fs31, rfl, rfl, ck_body k31⟩⟩
theorem ok32 (F : FunD K D32.name D32.qual D32.params D32.body D32.scope [] [] (He.fAd K (tb.plc 32)) (fd 32)) : DefOk (tb.wr P w K mg base fd) dfn 32 := ⟨⟨_, _, _, _, _, N32, F, fs32, rfl, rfl, ck_body k32⟩⟩
theorem ok33 (F : FunD K D33.name D33.qual D33.params D33.body D33.scope [] [] (He.fAd K (tb.plc 33)) (fd 33)) : DefOk (tb.wr P w K mg base fd) dfn 33 := ⟨⟨_, _, _, _, _, N33, F, fs33, rfl, rfl, ck_body k33⟩⟩
theorem ok34 (F : FunD K D34.name D34.qual D34.params D34.body D34.scope [] [] (He.fAd K (tb.plc 34)) (fd 34)) : DefOk (tb.wr P w K mg base fd) dfn 34 := ⟨⟨_, _, _, _, _, N34, F, fs34, rfl, rfl, ck_body k34⟩⟩
theorem ok35 (F : FunD K D35.name D35.qual D35.params D35.body D35.scope [] [] (He.fAd K (tb.plc 35)) (fd 35)) : DefOk (tb.wr P w K mg base fd) dfn 35 := ⟨⟨_, _, _, _, _, N35, F, fs35, rfl, rfl, ck_body k35⟩⟩
theorem ok36 (F : FunD K D36.name D36.qual D36.params D36.body D36.scope [] [] (He.fAd K (tb.plc 36)) (fd 36)) : DefOk (tb.wr P w K mg base fd) dfn 36 := ⟨⟨_, _, _, _, _, N36, F, fs36, rfl, rfl, ck_body k36⟩⟩
theorem ok37 (F : FunD K D37.name D37.qual D37.params D37.body D37.scope [] [] (He.fAd K (tb.plc 37)) (fd 37)) : DefOk (tb.wr P w K mg base fd) dfn 37 := ⟨⟨_, _, _, _, _, N37, F, fs37, rfl, rfl, ck_body k37⟩⟩
theorem ok38 (F : FunD K D38.name D38.qual D38.params D38.body D38.scope [] [] (He.fAd K (tb.plc 38)) (fd 38)) : DefOk (tb.wr P w K mg base fd) dfn 38 := ⟨⟨_, _, _, _, _, N38, F, fs38, rfl, rfl, ck_body k38⟩⟩
theorem ok39 (F : FunD K D39.name D39.qual D39.params D39.body D39.scope [] [] (He.fAd K (tb.plc 39)) (fd 39)) : DefOk (tb.wr P w K mg base fd) dfn 39 := ⟨⟨_, _, _, _, _, N39, F, fs39, rfl, rfl, ck_body k39⟩⟩
theorem ok40 (F : FunD K D40.name D40.qual D40.params D40.body D40.scope [] [] (He.fAd K (tb.plc 40)) (fd 40)) : DefOk (tb.wr P w K mg base fd) dfn 40 := ⟨⟨_, _, _, _, _, N40, F, fs40, rfl, rfl, ck_body k40⟩⟩
theorem ok41 (F : FunD K D41.name D41.qual D41.params D41.body D41.scope [] [] (He.fAd K (tb.plc 41)) (fd 41)) : DefOk (tb.wr P w K mg base fd) dfn 41 := ⟨⟨_, _, _, _, _, N41, F, fs41, rfl, rfl, ck_body k41⟩⟩
theorem ok42 (F : FunD K D42.name D42.qual D42.params D42.body D42.scope [] [] (He.fAd K (tb.plc 42)) (fd 42)) : DefOk (tb.wr P w K mg base fd) dfn 42 := ⟨⟨_, _, _, _, _, N42, F, fs42, rfl, rfl, ck_body k42⟩⟩
theorem ok43 (F : FunD K D43.name D43.qual D43.params D43.body D43.scope [] [] (He.fAd K (tb.plc 43)) (fd 43)) : DefOk (tb.wr P w K mg base fd) dfn 43 := ⟨⟨_, _, _, _, _, N43, F, fs43, rfl, rfl, ck_body k43⟩⟩
theorem ok44 (F : FunD K D44.name D44.qual D44.params D44.body D44.scope [] [] (He.fAd K (tb.plc 44)) (fd 44)) : DefOk (tb.wr P w K mg base fd) dfn 44 := ⟨⟨_, _, _, _, _, N44, F, fs44, rfl, rfl, ck_body k44⟩⟩
theorem ok45 (F : FunD K D45.name D45.qual D45.params D45.body D45.scope [] [] (He.fAd K (tb.plc 45)) (fd 45)) : DefOk (tb.wr P w K mg base fd) dfn 45 := ⟨⟨_, _, _, _, _, N45, F, fs45, rfl, rfl, ck_body k45⟩⟩
theorem ok46 (F : FunD K D46.name D46.qual D46.params D46.body D46.scope [] [] (He.fAd K (tb.plc 46)) (fd 46)) : DefOk (tb.wr P w K mg base fd) dfn 46 := ⟨⟨_, _, _, _, _, N46, F, fs46, rfl, rfl, ck_body k46⟩⟩
theorem ok47 (F : FunD K D47.name D47.qual D47.params D47.body D47.scope [] [] (He.fAd K (tb.plc 47)) (fd 47)) : DefOk (tb.wr P w K mg base fd) dfn 47 := ⟨⟨_, _, _, _, _, N47, F, fs47, rfl, rfl, ck_body k47⟩⟩
theorem ok48 (F : FunD K D48.name D48.qual D48.params D48.body D48.scope [] [] (He.fAd K (tb.plc 48)) (fd 48)) : DefOk (tb.wr P w K mg base fd) dfn 48 := ⟨⟨_, _, _, _, _, N48, F, fs48, rfl, rfl, ck_body k48⟩⟩
theorem ok49 (F : FunD K D49.name D49.qual D49.params D49.body D49.scope [] [] (He.fAd K (tb.plc 49)) (fd 49)) : DefOk (tb.wr P w K mg base fd) dfn 49 := ⟨⟨_, _, _, _, _, N49, F, fs49, rfl, rfl, ck_body k49⟩⟩
theorem ok50 (F : FunD K D50.name D50.qual D50.params D50.body D50.scope [] [] (He.fAd K (tb.plc 50)) (fd 50)) : DefOk (tb.wr P w K mg base fd) dfn 50 := ⟨⟨_, _, _, _, _, N50, F, fs50, rfl, rfl, fun X B x k e hs => ss_no⟩⟩
theorem told {X : Cx} {B : Bx} (x : XOk X B) (wf : WhF B.R (He.ga K "PassError")) (eR : B.R = tb.wr P w K mg base fd := by rfl) : Told X B.R N50 D50.qual D50.scope (He.fAd K (tb.plc 50)) D50.body := by
  obtain ⟨R0, Γ, lev, Ex, W0⟩ := B
  cases eR
  intro c a oe A outer s H Q cdv hc hz hf hsp
  obtain ⟨xp, xw, xk, xm, xb, _, _, _, _, _, wr, _, _, _, _, _, _, _⟩ := x
  have C := wf.cls c hc
  have hK : X.K = K := xk
  have hM : X.mg = mg := xm
  refine ⟨tWh K (He.ga K (tb.exn.getD c "")) a (fun k => He.ga K (tb.exn.getD k "")), ?_, tWh_ok hc (fun j hj => wf.kit c j hc hj) (wf.ve c hc) hsp⟩
  have hm : X.mg "isinstance" = none := by rw [hM]; exact wr.fre _ (by decide +kernel)
  have hv : X.mg "ValueError" = none := by rw [hM]; exact wf.fve
  have g0 : X.mg "InvalidPolicy" = some (.ref (He.ga K (tb.exn.getD 0 ""))) := by rw [hM]; exact (wr.exc 0 _ rfl).1
  have g1 : X.mg "InvalidString" = some (.ref (He.ga K (tb.exn.getD 1 ""))) := by rw [hM]; exact (wr.exc 1 _ rfl).1
  have g2 : X.mg "InvalidNumber" = some (.ref (He.ga K (tb.exn.getD 2 ""))) := by rw [hM]; exact (wr.exc 2 _ rfl).1
  have g3 : X.mg "NotAllowed" = some (.ref (He.ga K (tb.exn.getD 3 ""))) := by rw [hM]; exact (wr.exc 3 _ rfl).1
  have g4 : X.mg "NotComparable" = some (.ref (He.ga K (tb.exn.getD 4 ""))) := by rw [hM]; exact (wr.exc 4 _ rfl).1
  have g5 : X.mg "InvalidCharacter" = some (.ref (He.ga K (tb.exn.getD 5 ""))) := by rw [hM]; exact (wr.exc 5 _ rfl).1
  have g6 : X.mg "NothingTyped" = some (.ref (He.ga K (tb.exn.getD 6 ""))) := by rw [hM]; exact (wr.exc 6 _ rfl).1
  have g7 : X.mg "InvalidFormat" = some (.ref (He.ga K (tb.exn.getD 7 ""))) := by rw [hM]; exact (wr.exc 7 _ rfl).1
  rw [hK] at *
  have I : ∀ (v : V) (nm : Str) (q p r pos : Pos), PE (L2H.cxH (L2.CX X.prog X.w) X.prog X.w K X.mg X.base N50 D50.qual D50.scope (He.fAd K (tb.plc 50)) cdv A outer s H (fun _ _ _ => False) (a, oe)) (.Name nm r) (tC v) →
      PE (L2H.cxH (L2.CX X.prog X.w) X.prog X.w K X.mg X.base N50 D50.qual D50.scope (He.fAd K (tb.plc 50)) cdv A outer s H (fun _ _ _ => False) (a, oe)) (.Call (.Name "isinstance" p) [.Name "_law_error" q, .Name nm r] [] pos) (tIsi K (He.ga K (tb.exn.getD c "")) a v) :=
    fun v nm q p r pos h => pe_isi C (.head _) hz hf (pv 0) rfl hm h
  exact pss_cons (ps_set (i := 1) fs50.nd rfl (.inl rfl) (pe_lst (pa_cons (I _ "InvalidPolicy" _ _ _ _ (pe_glob rfl g0 rfl)) (pa_cons (I _ "InvalidString" _ _ _ _ (pe_glob rfl g1 rfl)) pa_nil))))
    (pss_cons (ps_expr (pe_bm PySem.F.plainAttrs_list PySem.F.slot_list_extend PySem.F.type_list_extend mt_extend (pv 1) (pa_cons (pe_lst (pa_cons (I _ "InvalidNumber" _ _ _ _ (pe_glob rfl g2 rfl)) pa_nil)) pa_nil)))
    (pss_cons (ps_expr (pe_bm PySem.F.plainAttrs_list PySem.F.slot_list_extend PySem.F.type_list_extend mt_extend (pv 1) (pa_cons (pe_lst (pa_cons (I _ "NotAllowed" _ _ _ _ (pe_glob rfl g3 rfl)) (pa_cons (I _ "NotComparable" _ _ _ _ (pe_glob rfl g4 rfl)) pa_nil))) pa_nil)))
    (pss_cons (ps_expr (pe_bm PySem.F.plainAttrs_list PySem.F.slot_list_extend PySem.F.type_list_extend mt_extend (pv 1) (pa_cons (pe_lst (pa_cons (I _ "InvalidCharacter" _ _ _ _ (pe_glob rfl g5 rfl)) pa_nil)) pa_nil)))
    (pss_cons (ps_expr (pe_bm PySem.F.plainAttrs_list PySem.F.slot_list_extend PySem.F.type_list_extend mt_extend (pv 1) (pa_cons (pe_lst (pa_cons (I _ "NothingTyped" _ _ _ _ (pe_glob rfl g6 rfl)) (pa_cons (I _ "InvalidFormat" _ _ _ _ (pe_glob rfl g7 rfl)) pa_nil))) pa_nil)))
    (pss_cons (by
      refine ps_if (L2.PW.pt ?_) ?_ pss_nil
      · refine pw_or (pt_cmpR op_ne ?_ pe_int rfl) (pw_or1 (pt_not (pt_val ?_)))
        · exact pe_bm PySem.F.plainAttrs_list PySem.F.slot_list_count PySem.F.type_list_count mt_countB (pv 1) (pa_cons pe_bl pa_nil)
        · exact I _ "ValueError" _ _ _ _ (pe_bltn (v := .ty "ValueError") (u := .type "ValueError") rfl hv (by decide +kernel) rfl)
      · exact pss_one (ps_ret (pe_tup (pa_cons pe_str (pa_cons (pe_un un_neg pe_int) pa_nil)))))
    (pss_one (ps_ret (pe_tup (pa_cons pe_str (pa_cons (pe_bm PySem.F.plainAttrs_list PySem.F.slot_list_index PySem.F.type_list_index mt_index (pv 1) (pa_cons pe_bl pa_nil)) pa_nil))))))))))
theorem lk51 : (defScope s51).names.lookup ("_law_error" : Str) = some .local := by decide +kernel
theorem gw51 : glB ⟨tb.tab, N51, defScope s51⟩ "_law_which" = true := by decide +kernel
theorem gp51 : glB ⟨tb.tab, N51, defScope s51⟩ "PassError" = true := by decide +kernel
theorem ok51 (F : FunD K D51.name D51.qual D51.params D51.body D51.scope [] [] (He.fAd K (tb.plc 51)) (fd 51))
    (Fw : FunD K D50.name D50.qual D50.params D50.body D50.scope [] [] (He.fAd K (tb.plc 50)) (fd 50)) (wf : WhF (tb.wr P w K mg base fd) (He.ga K "PassError")) (hpe : (He.Fa.glo "PassError").ok K = true) : DefOk (tb.wr P w K mg base fd) dfn 51 := by
  refine ⟨⟨_, _, _, _, _, N51, F, fs51, rfl, rfl, fun X B x k e hs => ?_⟩⟩
  obtain ⟨R0, Γ, lev, Ex, W0⟩ := B
  cases e
  exact st_try (i := 4) (Nw := N50) (xw := "_law_error") x k hs k51 wf (by rw [k.N]; rfl) lk51 (by rw [x.K]; exact Fw) fs50 (k.gl gw51) (by rw [x.mg]; exact x.wr.glo 50 rfl) (by rw [x.K]; exact bd50 Fw) (k.gl gp51) (told x wf) rfl rfl rfl
theorem ok52 (F : FunD K D52.name D52.qual D52.params D52.body D52.scope [] [] (He.fAd K (tb.plc 52)) (fd 52)) : DefOk (tb.wr P w K mg base fd) dfn 52 := ⟨⟨_, _, _, _, _, N52, F, fs52, rfl, rfl, ck_body k52⟩⟩
theorem ok53 (F : FunD K D53.name D53.qual D53.params D53.body D53.scope [] [] (He.fAd K (tb.plc 53)) (fd 53)) : DefOk (tb.wr P w K mg base fd) dfn 53 := ⟨⟨_, _, _, _, _, N53, F, fs53, rfl, rfl, ck_body k53⟩⟩
theorem ok54 (F : FunD K D54.name D54.qual D54.params D54.body D54.scope [] [] (He.fAd K (tb.plc 54)) (fd 54)) : DefOk (tb.wr P w K mg base fd) dfn 54 := ⟨⟨_, _, _, _, _, N54, F, fs54, rfl, rfl, ck_body k54⟩⟩
theorem ok55 (F : FunD K D55.name D55.qual D55.params D55.body D55.scope [] [] (He.fAd K (tb.plc 55)) (fd 55)) : DefOk (tb.wr P w K mg base fd) dfn 55 := ⟨⟨_, _, _, _, _, N55, F, fs55, rfl, rfl, ck_body k55⟩⟩
end Mi.G

set_option linter.all false
set_option maxRecDepth 100000
set_option maxHeartbeats 0
namespace Mi.G
open PySem PySem.Spec PyProof.Rows L2 Mi
section
variable {P : Program} {w : World} {K : PySem.W.Frag} {mg : Str → Option Value} {base : Heap} {fd : Nat → FuncData}
theorem ad (F : FunAll tb K fd) (wf : WhF (tb.wr P w K mg base fd) (He.ga K "PassError")) (hpe : (He.Fa.glo "PassError").ok K = true) : ∀ f, f < tb.df.length → DefOk (tb.wr P w K mg base fd) dfn f
  | 0, _ => ok0 (F 0 D0 rfl)
  | 1, _ => ok1 (F 1 D1 rfl)
  | 2, _ => ok2 (F 2 D2 rfl)
  | 3, _ => ok3 (F 3 D3 rfl)
  | 4, _ => ok4 (F 4 D4 rfl)
  | 5, _ => ok5 (F 5 D5 rfl)
  | 6, _ => ok6 (F 6 D6 rfl)
  | 7, _ => ok7 (F 7 D7 rfl)
  | 8, _ => ok8 (F 8 D8 rfl)
  | 9, _ => ok9 (F 9 D9 rfl)
  | 10, _ => ok10 (F 10 D10 rfl)
  | 11, _ => ok11 (F 11 D11 rfl)
  | 12, _ => ok12 (F 12 D12 rfl)
  | 13, _ => ok13 (F 13 D13 rfl)
  | 14, _ => ok14 (F 14 D14 rfl)
  | 15, _ => ok15 (F 15 D15 rfl)
  | 16, _ => ok16 (F 16 D16 rfl)
  | 17, _ => ok17 (F 17 D17 rfl)
  | 18, _ => ok18 (F 18 D18 rfl)
  | 19, _ => ok19 (F 19 D19 rfl)
  | 20, _ => ok20 (F 20 D20 rfl)
  | 21, _ => ok21 (F 21 D21 rfl)
  | 22, _ => ok22 (F 22 D22 rfl)
  | 23, _ => ok23 (F 23 D23 rfl)
  | 24, _ => ok24 (F 24 D24 rfl)
  | 25, _ => ok25 (F 25 D25 rfl)
  | 26, _ => ok26 (F 26 D26 rfl)
  | 27, _ => ok27 (F 27 D27 rfl)
  | 28, _ => ok28 (F 28 D28 rfl)
  | 29, _ => ok29 (F 29 D29 rfl)
  | 30, _ => ok30 (F 30 D30 rfl)
  | 31, _ => ok31 (F 31 D31 rfl)
  | 32, _ => ok32 (F 32 D32 rfl)
  | 33, _ => ok33 (F 33 D33 rfl)
  | 34, _ => ok34 (F 34 D34 rfl)
  | 35, _ => ok35 (F 35 D35 rfl)
  | 36, _ => ok36 (F 36 D36 rfl)
  | 37, _ => ok37 (F 37 D37 rfl)
  | 38, _ => ok38 (F 38 D38 rfl)
  | 39, _ => ok39 (F 39 D39 rfl)
  | 40, _ => ok40 (F 40 D40 rfl)
  | 41, _ => ok41 (F 41 D41 rfl)
  | 42, _ => ok42 (F 42 D42 rfl)
  | 43, _ => ok43 (F 43 D43 rfl)
  | 44, _ => ok44 (F 44 D44 rfl)
  | 45, _ => ok45 (F 45 D45 rfl)
  | 46, _ => ok46 (F 46 D46 rfl)
  | 47, _ => ok47 (F 47 D47 rfl)
  | 48, _ => ok48 (F 48 D48 rfl)
  | 49, _ => ok49 (F 49 D49 rfl)
  | 50, _ => ok50 (F 50 D50 rfl)
  | 51, _ => ok51 (F 51 D51 rfl) (F 50 D50 rfl) wf hpe
  | 52, _ => ok52 (F 52 D52 rfl)
  | 53, _ => ok53 (F 53 D53 rfl)
  | 54, _ => ok54 (F 54 D54 rfl)
  | 55, _ => ok55 (F 55 D55 rfl)
  | n + 56, h => absurd h (by show ¬ n + 56 < 56; omega)
theorem ab (F : FunAll tb K fd) : ∀ f, f < tb.df.length → Binds K (fd f) (tb.tab.ps f) []
  | 0, _ => bd0 (F 0 D0 rfl)
  | 1, _ => bd1 (F 1 D1 rfl)
  | 2, _ => bd2 (F 2 D2 rfl)
  | 3, _ => bd3 (F 3 D3 rfl)
  | 4, _ => bd4 (F 4 D4 rfl)
  | 5, _ => bd5 (F 5 D5 rfl)
  | 6, _ => bd6 (F 6 D6 rfl)
  | 7, _ => bd7 (F 7 D7 rfl)
  | 8, _ => bd8 (F 8 D8 rfl)
  | 9, _ => bd9 (F 9 D9 rfl)
  | 10, _ => bd10 (F 10 D10 rfl)
  | 11, _ => bd11 (F 11 D11 rfl)
  | 12, _ => bd12 (F 12 D12 rfl)
  | 13, _ => bd13 (F 13 D13 rfl)
  | 14, _ => bd14 (F 14 D14 rfl)
  | 15, _ => bd15 (F 15 D15 rfl)
  | 16, _ => bd16 (F 16 D16 rfl)
  | 17, _ => bd17 (F 17 D17 rfl)
  | 18, _ => bd18 (F 18 D18 rfl)
  | 19, _ => bd19 (F 19 D19 rfl)
  | 20, _ => bd20 (F 20 D20 rfl)
  | 21, _ => bd21 (F 21 D21 rfl)
  | 22, _ => bd22 (F 22 D22 rfl)
  | 23, _ => bd23 (F 23 D23 rfl)
  | 24, _ => bd24 (F 24 D24 rfl)
  | 25, _ => bd25 (F 25 D25 rfl)
  | 26, _ => bd26 (F 26 D26 rfl)
  | 27, _ => bd27 (F 27 D27 rfl)
  | 28, _ => bd28 (F 28 D28 rfl)
  | 29, _ => bd29 (F 29 D29 rfl)
  | 30, _ => bd30 (F 30 D30 rfl)
  | 31, _ => bd31 (F 31 D31 rfl)
  | 32, _ => bd32 (F 32 D32 rfl)
  | 33, _ => bd33 (F 33 D33 rfl)
  | 34, _ => bd34 (F 34 D34 rfl)
  | 35, _ => bd35 (F 35 D35 rfl)
  | 36, _ => bd36 (F 36 D36 rfl)
  | 37, _ => bd37 (F 37 D37 rfl)
  | 38, _ => bd38 (F 38 D38 rfl)
  | 39, _ => bd39 (F 39 D39 rfl)
  | 40, _ => bd40 (F 40 D40 rfl)
  | 41, _ => bd41 (F 41 D41 rfl)
  | 42, _ => bd42 (F 42 D42 rfl)
  | 43, _ => bd43 (F 43 D43 rfl)
  | 44, _ => bd44 (F 44 D44 rfl)
  | 45, _ => bd45 (F 45 D45 rfl)
  | 46, _ => bd46 (F 46 D46 rfl)
  | 47, _ => bd47 (F 47 D47 rfl)
  | 48, _ => bd48 (F 48 D48 rfl)
  | 49, _ => bd49 (F 49 D49 rfl)
  | 50, _ => bd50 (F 50 D50 rfl)
  | 51, _ => bd51 (F 51 D51 rfl)
  | 52, _ => bd52 (F 52 D52 rfl)
  | 53, _ => bd53 (F 53 D53 rfl)
  | 54, _ => bd54 (F 54 D54 rfl)
  | 55, _ => bd55 (F 55 D55 rfl)
  | n + 56, h => absurd h (by show ¬ n + 56 < 56; omega)
theorem ba (fd : FuncData) (F : FunD K D55.name D55.qual D55.params D55.body D55.scope [] [] (He.fAd K (tb.plc 55)) fd) (s : Shared) (u : Value) : BindsTo s fd ⟨[u], []⟩ [("_law_script", u)] :=
  FunD.bindsA (ps := ["_law_script"]) F (fun _ _ _ _ _ _ us hl => match us, hl with | [_], _ => rfl) s [u] rfl
end
theorem okD : tb.okD = true := by decide +kernel
end Mi.G
open PySem PySem.W PySem.Calls PyProof.Rows
theorem fin_k02 {lv : Nat} (goal : ∀ ns : List Int, ns.length ≤ 63 → (Mi.Gk Mi.G.tb.tab Mi.G.dfn lv).call 55 [.scr ns] [] (fun d _ => d = .bl true) (fun _ _ => False)) (hlv : 2 * lv ≤ 150) : PySem.Challenge.rw_passrules_k02_policy_errors.Holds := by
  w_on; o_law
  refine HandSHeadRun.head_any (r := Mi.G.RR) (q := view Mi.G.RR.prog [72]) (H := Mi.G.hk) (ob := Mi.G.ob) (M := 8000) (loose := Mi.G.looseAll) (d := HandSHeadRun.topDef Mi.G.RR.prog 72) (kwd := []) Mi.G.ob_eq
    (by kernel_rfl) (fun s => by kernel_rfl) Mi.G.run (by kernel_rfl) (by kernel_rfl) (by kernel_rfl) (by rfl) (by first | assumption | decide +kernel) (by decide +kernel) ⟨rfl, rfl, rfl, rfl, rfl, by decide +kernel⟩ ?hw ?hc
  case hw => w_witness2
  case hc =>
    refine Mi.walk_ofW (l := PySem.Challenge.rw_passrules_k02_policy_errors) (n := 63) (k := 2 * lv) (x := "_law_script") rfl (by decide) (by kernel_rfl) ⟨rfl, Nat.lt_of_le_of_lt (Nat.add_le_add_right (Nat.add_le_add_left (Nat.mul_le_mul_left 3 hlv) _) 5) (by decide), Nat.lt_of_le_of_lt (Nat.add_le_add_right (Nat.add_le_add_left (Nat.mul_le_mul_left 16 hlv) _) 200) (by decide)⟩ ?F
    intro w mg fa h Y G hmg0
    obtain ⟨K, KX, c⟩ := Y
    have hmg : mg ("law" : PySem.Str) = some (.ref fa) := by
      have e : (HandSHeadRun.topDef Mi.G.RR.prog 72).name = ("law" : PySem.Str) := by kernel_rfl
      rw [← e]
      exact hmg0
    exact Mi.law_F (t := Mi.G.tb) (fa1 := Mi.G.fa1) (LAW := 55) (d := Mi.G.D55) (fun f hf => List.mem_append_left _ hf) (fun _ => List.mem_append_right _ (.head _)) Mi.G.tb_ok Mi.G.okD (fun base fd F => Mi.G.ad F (Mi.whF_of KX G (c.wh (by decide +kernel)) (c.fact_mem (List.mem_append_right _ (.tail _ (.head _)))) (c.fact_mem (List.mem_append_right _ (.tail _ (.tail _ (.head _)))))) (c.fact_mem (List.mem_append_right _ (.tail _ (.head _))))) (fun fd F => Mi.G.ab F)
      (by decide +kernel) rfl rfl rfl Mi.G.ba rfl rfl goal KX G c hmg

set_option linter.all false
namespace Mi
/-! ## the meaning of a law's defs, by levels, and its runs -/
def Tm.gam (t : Tm) (call : Nat → List D → Hm → PD → PX → Prop) : Gam := ⟨call, fun g => t.gl[g]?, fun f => (t.cof.getD f none).getD 0, fun k => t.ini.getD k 0, fun c f => decide (f < t.fcl.length) && decide (t.fcl.getD f 0 = c)⟩
def Gm (t : Tm) : Nat → Gam
  | 0 => t.gam fun _ _ _ _ _ => False
  | k + 1 => t.gam fun f ds h Q X => wpF (Gm t k) (t.df.getD f ⟨0, 0, .nil⟩) ds h Q X
theorem evk_snd (t : Tm) : ∀ k, (evk t k).Snd (Gm t k)
  | 0 => ⟨rfl, rfl, rfl, rfl, fun f ds h r Q X e s => by cases e⟩
  | k + 1 => ⟨rfl, rfl, rfl, rfl, fun f ds h r Q X e s => evF_ok (evk_snd t k) e s⟩
theorem dropQ_iff {h : Hm} {Q : PD} {d : D} (w : WFb h = true) : dropQ h.length Q d h ↔ below h.length d = true ∧ Q d h := by
  constructor
  · intro ⟨n, a, b, c, e, q⟩
    have : n = h.length := by omega
    subst this
    rw [List.take_length] at q
    exact ⟨c, q⟩
  · intro ⟨c, q⟩
    refine ⟨h.length, Nat.le_refl _, Nat.le_refl _, c, ?_, by rwa [List.take_length]⟩
    rw [List.take_length]
    exact fun o ho => List.all_eq_true.mp w o ho
theorem dropX_iff {h : Hm} {X : PX} {c : Nat} (w : WFb h = true) : dropX h.length X c h ↔ X c h := by
  constructor
  · intro ⟨n, a, b, e, q⟩
    have : n = h.length := by omega
    subst this
    rwa [List.take_length] at q
  · intro q
    refine ⟨h.length, Nat.le_refl _, Nat.le_refl _, ?_, by rwa [List.take_length]⟩
    rw [List.take_length]
    exact fun o ho => List.all_eq_true.mp w o ho
theorem onSome_some {α : Type} {a : α} {Q : α → Prop} : onSome (some a) Q ↔ Q a := ⟨fun ⟨b, e, q⟩ => by cases e; exact q, fun q => ⟨a, rfl, q⟩⟩
theorem onSome_none {α : Type} {Q : α → Prop} : onSome (none : Option α) Q ↔ False := ⟨fun ⟨b, e, q⟩ => (nomatch e), False.elim⟩
end Mi

set_option linter.all false
set_option maxRecDepth 100000
set_option maxHeartbeats 4000000
namespace Mi
/-! ## lemmas about Mini's wp: comprehensions, loops, small data -/
theorem compW_map {tp : Bool} {tg : List Nat} {σ : Sl} {src : Src} {T V : Sl → Hm → PD → Prop} {h : Hm} (hT : ∀ σ Q, T σ h Q ↔ Q (.bl true) h) (hs : still src h) (f : D → D) :
    ∀ (xs acc : List D) (Q : List D → Hm → Prop), (∀ x ∈ xs, ∃ σ1, bindT tp tg (wipe σ tg) x = some σ1 ∧ ∀ Q, V σ1 h Q ↔ Q (f x) h) → (compW tp tg σ src T V xs acc h Q ↔ Q (acc ++ xs.map f) h)
  | [], acc, Q, _ => by simp [compW, hs]
  | x :: xs, acc, Q, hV => by
    obtain ⟨σ1, e, v⟩ := hV x (.head _)
    simp only [compW, hs, e, onSome_some, hT, v, true_and, D.bl.injEq, Bool.true_eq_false, false_and, or_false]
    rw [compW_map hT hs f xs (acc ++ [f x]) Q fun y hy => hV y (.tail _ hy)]
    simp
theorem compW_test {tp : Bool} {tg : List Nat} {σ : Sl} {src : Src} {T V : Sl → Hm → PD → Prop} {h : Hm} (hs : still src h) (p : D → Bool) (f : D → D) :
    ∀ (xs acc : List D) (Q : List D → Hm → Prop), (∀ x ∈ xs, ∃ σ1, bindT tp tg (wipe σ tg) x = some σ1 ∧ (∀ Q, T σ1 h Q ↔ Q (.bl (p x)) h) ∧ ∀ Q, V σ1 h Q ↔ Q (f x) h) → (compW tp tg σ src T V xs acc h Q ↔ Q (acc ++ (xs.filter p).map f) h)
  | [], acc, Q, _ => by simp [compW, hs]
  | x :: xs, acc, Q, hV => by
    obtain ⟨σ1, e, t, v⟩ := hV x (.head _)
    simp only [compW, hs, e, onSome_some, t, v, true_and, D.bl.injEq]
    cases hp : p x
    · simp only [Bool.false_eq_true, false_and, true_and, false_or]
      rw [compW_test hs p f xs acc Q fun y hy => hV y (.tail _ hy)]
      simp [hp]
    · simp only [Bool.true_eq_false, false_and, true_and, or_false]
      rw [compW_test hs p f xs (acc ++ [f x]) Q fun y hy => hV y (.tail _ hy)]
      simp [hp]
/-- the sign c stands in s -/
def hasC (s : List Nat) (c : Nat) : Bool := s.any (c == ·)
theorem hasC_iff {s : List Nat} {c : Nat} : hasC s c = true ↔ c ∈ s := by simp [hasC]
theorem infixB_one (c : Nat) : ∀ s : List Nat, infixB [c] s = hasC s c
  | [] => rfl
  | y :: ys => by
    simp only [infixB, List.isPrefixOf, infixB_one c ys, hasC, List.any_cons]
    simp [List.isPrefixOf]
theorem allBl_map {α : Type} (f : α → Bool) : ∀ xs : List α, allBl (xs.map fun x => .bl (f x)) = some (xs.map f)
  | [] => rfl
  | x :: xs => by simp [allBl, allBl_map f xs]
theorem allStr_map : ∀ xs : List (List Nat), allStr (xs.map .str) = some xs
  | [] => rfl
  | x :: xs => by simp [allStr, allStr_map xs]
theorem allInt_map : ∀ xs : List Int, allInt (xs.map .int) = some xs
  | [] => rfl
  | x :: xs => by simp [allInt, allInt_map xs]
theorem joinL_nil : ∀ ss : List (List Nat), joinL [] ss = ss.flatten
  | [] => rfl
  | [x] => by simp [joinL]
  | x :: y :: r => by simp [joinL, joinL_nil (y :: r)]
theorem all_map_id {α : Type} (f : α → Bool) (xs : List α) : (xs.map f).all id = xs.all f := by simp [List.all_map]
theorem bind_one (i : Nat) (σ : Sl) (x : D) : bindT false [i] (wipe σ [i]) x = some ((σ.set i none).set i (some x)) := rfl
theorem set_set_sl (σ : Sl) (i : Nat) (x : D) : (σ.set i none).set i (some x) = σ.set i (some x) := by rw [List.set_set]
theorem belows_all (n : Nat) : ∀ ds : List D, belows n ds = ds.all (below n)
  | [] => rfl
  | d :: ds => by simp [belows, belows_all n ds]
theorem flats_all (n : Nat) : ∀ ds : List D, flats n ds = ds.all (flat n)
  | [] => rfl
  | d :: ds => by simp [flats, flats_all n ds]
theorem hshs_all (n : Nat) : ∀ ds : List D, hshs n ds = ds.all (hsh n)
  | [] => rfl
  | d :: ds => by simp [hshs, hshs_all n ds]
theorem wf_set {h : Hm} {n : Nat} {o : MO} (w : WFb h = true) (ho : belowO h.length o = true) : WFb (h.set n o) = true := by
  unfold WFb at *
  rw [List.length_set, List.all_eq_true] at *
  intro x hx
  rcases List.mem_or_eq_of_mem_set hx with q | q
  · exact w x q
  · rw [q]; exact ho
/-- a def's end, where an object of before was changed -/
theorem dropQ_len {h h' : Hm} {Q : PD} {d : D} (l : h'.length = h.length) (w : WFb h' = true) (b : below h.length d = true) (q : Q d h') : dropQ h.length Q d h' := by
  refine ⟨h.length, Nat.le_refl _, by omega, b, ?_, ?_⟩
  · rw [← l, List.take_length]
    exact fun o ho => List.all_eq_true.mp w o ho
  · rw [← l, List.take_length]
    exact q
theorem take_app {h t : Hm} : (h ++ t).take h.length = h := by simp
/-- .. where new objects are dropped -/
theorem dropQ_app {h t : Hm} {Q : PD} {d : D} (w : WFb h = true) (b : below h.length d = true) (q : Q d h) : dropQ h.length Q d (h ++ t) := by
  refine ⟨h.length, Nat.le_refl _, by simp, b, ?_, ?_⟩
  · rw [take_app]
    exact fun o ho => List.all_eq_true.mp w o ho
  · rw [take_app]; exact q
theorem dropX_app {h t : Hm} {X : PX} {c : Nat} (w : WFb h = true) (q : X c h) : dropX h.length X c (h ++ t) := by
  refine ⟨h.length, Nat.le_refl _, by simp, ?_, ?_⟩
  · rw [take_app]
    exact fun o ho => List.all_eq_true.mp w o ho
  · rw [take_app]; exact q
theorem dedup_le : ∀ ds : List D, (dedup ds).length ≤ ds.length
  | [] => Nat.le_refl _
  | d :: ds => by
    have := dedup_le ds
    simp only [dedup]
    split <;> simp <;> omega
end Mi

set_option linter.all false
set_option maxRecDepth 100000
set_option maxHeartbeats 4000000
namespace Mi.G
open Mi
abbrev Ga : Nat → Gam := Gm tm
theorem call_ {k f : Nat} {ds h Q X} : (Ga (k + 1)).call f ds h Q X = wpF (Ga k) (tm.df.getD f ⟨0, 0, .nil⟩) ds h Q X := rfl
theorem gl_ {k g : Nat} : (Ga k).gl g = tm.gl[g]? := by cases k <;> rfl
/-! ## numbers, texts, names -/
def isCount (v : D) (lo hi : Int) : Bool := match v with
  | .int i => decide (lo ≤ i) && decide (i ≤ hi)
  | _ => false
/-- data that names no object -/
def simpV : D → Bool
  | .loc n => false
  | .fn _ => false
  | .scr _ => false
  | _ => true
theorem x_is_count {k : Nat} {h : Hm} (w : WFb h = true) (v : D) (lo hi : Int) (hv : simpV v = true) {Q X} : (Ga (k + 1)).call f_is_count [v, .int lo, .int hi] h Q X ↔ Q (.bl (isCount v lo hi)) h := by
  rw [call_]
  show wpF (Ga k) b_is_count _ _ _ _ ↔ _
  unfold wpF b_is_count
  simp only [wpSs, wpS, wpE, wpEs, start]
  cases v with
  | int i =>
    simp [isiD, onSome_some, isCount, dropQ_iff w, below]
    by_cases h1 : lo ≤ i
    · simp [h1]; intro _ z; omega
    · simp [h1]; left; omega
  | loc n => cases hv
  | fn n => cases hv
  | scr n => cases hv
  | _ => simp [isiD, onSome_some, isCount, dropQ_iff w, below]
def isOver (v : D) (sg : List Nat) (lo hi : Int) : Bool := match v with
  | .str s => decide (lo ≤ (s.length : Int)) && (decide ((s.length : Int) ≤ hi) && s.all (hasC sg))
  | _ => false
/-- texts that are short enough -/
def okS (s : List Nat) : Bool := decide (s.length ≤ lim) && s.all fun c => decide (c < 1114112)
def okV : D → Bool
  | .str s => okS s
  | v => simpV v
theorem okV_simp {v : D} (h : okV v = true) : simpV v = true := by cases v <;> simp_all [okV, simpV]
theorem x_is_over {k : Nat} {h : Hm} (w : WFb h = true) (v : D) (sg : List Nat) (lo hi : Int) (hv : okV v = true) {Q X} : (Ga (k + 1)).call f_is_over [v, .str sg, .int lo, .int hi] h Q X ↔ Q (.bl (isOver v sg lo hi)) h := by
  rw [call_]
  show wpF (Ga k) b_is_over _ _ _ _ ↔ _
  unfold wpF b_is_over
  simp only [wpSs, wpS, wpE, wpEs, wpI, start]
  cases v with
  | str s =>
    have hl : s.length ≤ lim := by simp [okV, okS] at hv; exact hv.1
    simp [isiD, onSome_some, isOver, dropQ_iff w, below, biD, hl, srcOf]
    have cm : ∀ Q : List D → Hm → Prop, compW false [4] [some (D.str s), some (D.str sg), some (D.int lo), some (D.int hi), none] none (wpE (Ga k) (fun _ _ => False) (E.bl true)) (wpE (Ga k) (fun _ _ => False) (E.cmp Cm.in_ (E.var 4) (E.var 1))) (s.map fun c => D.str [c]) [] h Q ↔ Q (s.map fun c => D.bl (hasC sg c)) h := fun Q => by
      rw [compW_map (fun σ Q => by simp only [wpE]) (show still none h from trivial) (fun x => match x with | .str [c] => .bl (hasC sg c) | _ => .non) _ [] Q]
      · simp [Function.comp_def]
      · intro x hx
        obtain ⟨c, _, rfl⟩ := List.mem_map.mp hx
        exact ⟨_, rfl, fun Q => by simp [wpE, cmB, inD, infixB_one, onSome_some, wipe]⟩
    simp only [cm]
    have ab : allBl (s.map fun c => D.bl (hasC sg c)) = some (s.map (hasC sg)) := allBl_map _ _
    simp only [lstOf, ab, Option.bind_some, Option.map_some, onSome_some]
    have id1 : (s.map (hasC sg)).all id = s.all (hasC sg) := by simp [List.all_map]
    by_cases h1 : lo ≤ (s.length : Int)
    · simp [h1, id1]
      by_cases h2 : (s.length : Int) ≤ hi
      · simp [h2, show ¬ ((s.length : Int) < lo) by omega, ab, onSome_some, dropQ_iff w, below, id1]
        intro z; omega
      · simp [h2, ab, onSome_some, show ¬ ((s.length : Int) < lo) by omega, show hi < (s.length : Int) by omega]
    · simp [h1, id1, show (s.length : Int) < lo by omega]
  | loc n => cases hv
  | fn n => cases hv
  | scr n => cases hv
  | _ => simp [isiD, onSome_some, isOver, dropQ_iff w, below]
def isName (v : D) (nm : List (List Nat)) : Bool := match v with
  | .str s => nm.any (· == s)
  | _ => false
theorem any_str (nm : List (List Nat)) (s : List Nat) : ((nm.map D.str).any fun z => eqD z (.str s)) = nm.any (· == s) := by
  rw [List.any_map]
  rfl
theorem flats_str {n : Nat} {nm : List (List Nat)} (h : nm.all okS = true) : flats n (nm.map D.str) = true := by
  rw [flats_all, List.all_map, List.all_eq_true] at *
  intro s hs
  have := h s hs
  simp [okS] at this
  simp [flat]
  exact this.2
theorem x_is_name {k : Nat} {h : Hm} (w : WFb h = true) (v : D) (nm : List (List Nat)) (hv : okV v = true) (hn : nm.all okS = true) {Q X} : (Ga (k + 1)).call f_is_name [v, .lst (nm.map .str)] h Q X ↔ Q (.bl (isName v nm)) h := by
  rw [call_]
  show wpF (Ga k) b_is_name _ _ _ _ ↔ _
  unfold wpF b_is_name
  simp only [wpSs, wpS, wpE, wpEs, start]
  cases v with
  | str s =>
    have hs : okS s = true := hv
    have hs2 : flat 20 (.str s) = true := by simp [okS] at hs; simp [flat]; exact hs.2
    simp only [isiD, onSome_some, cmB, inD, hs2, flats_str hn, any_str]
    simp [isiD, onSome_some, isName, dropQ_iff w, below, cmB, inD, hs2, flats_str hn]
    rw [show (nm.any ((fun z => eqD z (.str s)) ∘ D.str)) = nm.any (fun x => x == s) from rfl]
  | loc n => cases hv
  | fn n => cases hv
  | scr n => cases hv
  | _ => simp [isiD, onSome_some, isName, dropQ_iff w, below]
/-! ## classes -/
def clsD (cls : List (List (List Nat))) : D := .tup (cls.map fun ss => .tup (ss.map .str))
def sgOf (cls : List (List (List Nat))) : List Nat := (cls.map (·.getD 1 [])).flatten
def nmOf (cls : List (List (List Nat))) : List (List Nat) := cls.map (·.getD 0 [])
theorem getD_str (ss : List (List Nat)) (n : Nat) (h : n < ss.length) : (ss.map D.str)[n]? = some (.str (ss.getD n [])) := by
  rw [List.getElem?_map, List.getElem?_eq_getElem h]
  simp [List.getD, List.getElem?_eq_getElem h]
theorem at_nat {α : Type} (xs : List α) (n : Nat) : at_ xs (n : Int) = xs[n]? := by
  unfold at_ ixN
  by_cases h : n < xs.length
  · simp [h]
  · simp [h]
theorem joinL_len {ss : List (List Nat)} : joinL [] ss = ss.flatten := joinL_nil ss
theorem x_signs_of {k : Nat} {h : Hm} (w : WFb h = true) (cls : List (List (List Nat))) (r : D) (h2 : ∀ ss ∈ cls, 1 < ss.length) (hl : (sgOf cls).length ≤ lim) (hc : cls.length ≤ lim) {Q X} : (Ga (k + 1)).call f_signs_of [.tup [clsD cls, r]] h Q X ↔ Q (.str (sgOf cls)) h := by
  rw [call_]
  show wpF (Ga k) b_signs_of _ _ _ _ ↔ _
  unfold wpF b_signs_of
  simp only [wpSs, wpS, wpE, wpEs, wpI, start]
  have a0 : ixD h (.tup [clsD cls, r]) (.int 0) = some (clsD cls) := rfl
  have a1 : srcOf h (clsD cls) = some (cls.map fun ss => .tup (ss.map .str), none) := rfl
  simp only [List.map_cons, List.map_nil, List.length_cons, List.length_nil, List.cons_append, List.nil_append, List.replicate_succ, List.replicate_zero, List.getElem?_cons_zero, List.getElem?_cons_succ, Option.some.injEq, exists_eq_left', Nat.reduceSub, Nat.zero_add, Nat.reduceAdd, kindB, true_and, a0, a1, onSome_some, List.length_map, hc]
  rw [compW_map (fun σ Q => by simp only [wpE]) (show still none h from trivial) (fun x => match x with | .tup ds => (ds[1]?).getD .non | _ => .non) _ [] _]
  · have e : (List.map (fun x => match x with | .tup ds => (ds[1]?).getD .non | _ => D.non) (List.map (fun ss => D.tup (List.map D.str ss)) cls)) = (cls.map (·.getD 1 [])).map D.str := by
      rw [List.map_map, List.map_map]
      refine List.map_congr_left fun ss hs => ?_
      simp only [Function.comp]
      rw [getD_str ss 1 (h2 ss hs)]
      rfl
    have jl : joinL [] (cls.map (·.getD 1 [])) = sgOf cls := joinL_nil _
    simp only [List.nil_append, e, biD, seqOf, lstOf, Option.bind_some, allStr_map, jl]
    have hl' : (sgOf cls).length ≤ 16000000 := hl
    simp [hl', lim, onSome_some, dropQ_iff w, below]
  · intro x hx
    obtain ⟨ss, hs, rfl⟩ := List.mem_map.mp hx
    refine ⟨_, rfl, fun Q => ?_⟩
    have e1 : at_ (List.map D.str ss) 1 = some (.str (ss.getD 1 [])) := by
      rw [show (1 : Int) = ((1 : Nat) : Int) from rfl, at_nat, getD_str ss 1 (h2 ss hs)]
    simp [wpE, ixD, wipe, e1, onSome_some, getD_str ss 1 (h2 ss hs)]
end Mi.G

set_option linter.all false
set_option maxRecDepth 100000
set_option maxHeartbeats 4000000
namespace Mi
/-! ## evaluation, the heap being left as it is -/
section
variable {Γ : Gam} {σ : Sl} {h : Hm}
def EV (Γ : Gam) (e : E) (σ : Sl) (h : Hm) (d : D) : Prop := ∀ (X : PX) (Q : PD), Q d h → wpE Γ X e σ h Q
def EVs (Γ : Gam) (e : Es) (σ : Sl) (h : Hm) (ds : List D) : Prop := ∀ (X : PX) (Q : List D → Hm → Prop), Q ds h → wpEs Γ X e σ h Q
def EI (Γ : Gam) (e : E) (σ : Sl) (h : Hm) (xs : List D) (s : Src) : Prop := ∀ (X : PX) (Q : List D → Src → Hm → Prop), Q xs s h → wpI Γ X e σ h Q
/-- a def gives d, the heap being left as it is -/
def PV (Γ : Gam) (f : Nat) (ds : List D) (h : Hm) (d : D) : Prop := ∀ (X : PX) (Q : PD), Q d h → Γ.call f ds h Q X
theorem EVs.nil : EVs Γ .nil σ h [] := fun X Q q => by simp only [wpEs]; exact q
theorem EVs.cons {e es d ds} (a : EV Γ e σ h d) (b : EVs Γ es σ h ds) : EVs Γ (.cons e es) σ h (d :: ds) := fun X Q q => by simp only [wpEs]; exact a X _ (b X _ q)
theorem EVs.one {e d} (a : EV Γ e σ h d) : EVs Γ (.cons e .nil) σ h [d] := EVs.cons a EVs.nil
theorem EV.non : EV Γ .non σ h .non := fun X Q q => by simp only [wpE]; exact q
theorem EV.bl {b} : EV Γ (.bl b) σ h (.bl b) := fun X Q q => by simp only [wpE]; exact q
theorem EV.int {b} : EV Γ (.int b) σ h (.int b) := fun X Q q => by simp only [wpE]; exact q
theorem EV.str {b} : EV Γ (.str b) σ h (.str b) := fun X Q q => by simp only [wpE]; exact q
theorem EV.fn {b} : EV Γ (.fn b) σ h (.fn b) := fun X Q q => by simp only [wpE]; exact q
theorem EV.var {i d} (e : σ[i]? = some (some d)) : EV Γ (.var i) σ h d := fun X Q q => by simp only [wpE]; exact ⟨d, e, q⟩
theorem EV.gl {i d} (e : Γ.gl i = some d) : EV Γ (.gl i) σ h d := fun X Q q => by simp only [wpE]; exact ⟨d, e, q⟩
theorem EV.tup {es ds} (a : EVs Γ es σ h ds) (l : ds.length ≤ lim) : EV Γ (.tup es) σ h (.tup ds) := fun X Q q => by simp only [wpE]; exact a X _ ⟨l, q⟩
theorem EV.lst {es ds} (a : EVs Γ es σ h ds) (l : ds.length ≤ lim) : EV Γ (.lst es) σ h (.lst ds) := fun X Q q => by simp only [wpE]; exact a X _ ⟨l, q⟩
theorem EV.ix {a b x y d} (ha : EV Γ a σ h x) (hb : EV Γ b σ h y) (e : ixD h x y = some d) : EV Γ (.ix a b) σ h d := fun X Q q => by simp only [wpE]; exact ha X _ (hb X _ ⟨d, e, q⟩)
theorem EV.sl {a b c x y z d} {l u : Option Int} (ha : EV Γ a σ h x) (hb : EV Γ b σ h y) (hc : EV Γ c σ h z) (e1 : bnd b y = some l) (e2 : bnd c z = some u) (e : slD h x l u = some d) : EV Γ (.sl a b c) σ h d := fun X Q q => by
  simp only [wpE]; exact ha X _ (hb X _ ⟨l, e1, hc X _ ⟨u, e2, d, e, q⟩⟩)
theorem EV.neg {a i} (ha : EV Γ a σ h (.int i)) : EV Γ (.neg a) σ h (.int (-i)) := fun X Q q => by simp only [wpE]; exact ha X _ ⟨i, rfl, q⟩
theorem EV.op {o a b x y d} (ha : EV Γ a σ h x) (hb : EV Γ b σ h y) (e : opD h o x y = some d) : EV Γ (.op o a b) σ h d := fun X Q q => by simp only [wpE]; exact ha X _ (hb X _ ⟨d, e, q⟩)
theorem EV.opl {o a b x y d} (ha : EV Γ a σ h x) (hb : EV Γ b σ h y) (e : opL h o x y = some d) : EV Γ (.opl o a b) σ h (.lst d) := fun X Q q => by simp only [wpE]; exact ha X _ (hb X _ ⟨d, e, q⟩)
theorem EV.cmp {o a b x y d} (ha : EV Γ a σ h x) (hb : EV Γ b σ h y) (e : cmB h o x y = some d) : EV Γ (.cmp o a b) σ h (.bl d) := fun X Q q => by simp only [wpE]; exact ha X _ (hb X _ ⟨d, e, q⟩)
theorem EV.chain {a b c} {i j n : Int} (ha : EV Γ a σ h (.int i)) (hb : EV Γ b σ h (.int j)) (hc : i ≤ j → EV Γ c σ h (.int n)) : EV Γ (.chain a b c) σ h (.bl (decide (i ≤ j) && decide (j ≤ n))) := fun X Q q => by
  simp only [wpE]
  refine ha X _ (hb X _ ⟨i, j, rfl, rfl, fun l => hc l X _ ⟨n, rfl, ?_⟩, fun l => ?_⟩)
  · simpa [l] using q
  · simpa [l] using q
theorem EV.and {a b x y} (ha : EV Γ a σ h (.bl x)) (hb : x = true → EV Γ b σ h (.bl y)) : EV Γ (.and a b) σ h (.bl (x && y)) := fun X Q q => by
  simp only [wpE]
  refine ha X _ ?_
  cases x
  · exact .inr ⟨rfl, q⟩
  · exact .inl ⟨rfl, hb rfl X _ q⟩
theorem EV.or {a b x y} (ha : EV Γ a σ h (.bl x)) (hb : x = false → EV Γ b σ h (.bl y)) : EV Γ (.or a b) σ h (.bl (x || y)) := fun X Q q => by
  simp only [wpE]
  refine ha X _ ?_
  cases x
  · exact .inr ⟨rfl, hb rfl X _ q⟩
  · exact .inl ⟨rfl, q⟩
theorem EV.not {a x} (ha : EV Γ a σ h (.bl x)) : EV Γ (.not a) σ h (.bl !x) := fun X Q q => by simp only [wpE]; exact ha X _ ⟨x, rfl, q⟩
theorem EV.tru {a x b} (ha : EV Γ a σ h x) (e : truD h x = some b) : EV Γ (.tru a) σ h (.bl b) := fun X Q q => by simp only [wpE]; exact ha X _ ⟨b, e, q⟩
theorem EV.ite {t a b x d} (ht : EV Γ t σ h (.bl x)) (ha : x = true → EV Γ a σ h d) (hb : x = false → EV Γ b σ h d) : EV Γ (.ite t a b) σ h d := fun X Q q => by
  simp only [wpE]
  refine ht X _ ?_
  cases x
  · exact .inr ⟨rfl, hb rfl X _ q⟩
  · exact .inl ⟨rfl, ha rfl X _ q⟩
theorem EV.call {f es ds d} (ha : EVs Γ es σ h ds) (c : PV Γ f ds h d) : EV Γ (.call f es) σ h d := fun X Q q => by simp only [wpE]; exact ha X _ (c X _ q)
theorem EV.bi {b es ds d} (ha : EVs Γ es σ h ds) (e : biD h b ds = some (d, h)) : EV Γ (.bi b es) σ h d := fun X Q q => by simp only [wpE]; exact ha X _ ⟨_, e, q⟩
theorem EV.bim {b o es x ds d} (ho : EV Γ o σ h x) (ha : EVs Γ es σ h ds) (kd : kindB h b x = true) (e : biD h b (x :: ds) = some (d, h)) : EV Γ (.bim b o es) σ h d := fun X Q q => by
  simp only [wpE]; exact ho X _ ⟨kd, ha X _ ⟨_, e, q⟩⟩
theorem EV.isi {a t x b} (ha : EV Γ a σ h x) (e : isiD h t x = some b) : EV Γ (.isi a t) σ h (.bl b) := fun X Q q => by simp only [wpE]; exact ha X _ ⟨b, e, q⟩
theorem EV.fld {a f n c fs d} (ha : EV Γ a σ h (.loc n)) (e : h[n]? = some (.ins c fs)) (o : Γ.okf c f = true) (g : fget fs f = some d) : EV Γ (.fld a f) σ h d := fun X Q q => by simp only [wpE]; exact ha X _ ⟨n, c, fs, d, rfl, ⟨e, o⟩, g, q⟩
theorem EV.meth {m o es n fs ds d} (ho : EV Γ o σ h (.loc n)) (e : h[n]? = some (.ins (Γ.mcls m) fs)) (ha : EVs Γ es σ h ds) (c : PV Γ m (.loc n :: ds) h d) : EV Γ (.meth m o es) σ h d := fun X Q q => by
  simp only [wpE]; exact ho X _ ⟨n, fs, rfl, e, ha X _ (c X _ q)⟩
/-- what is walked -/
theorem EI.of {e d xs s} (ha : EV Γ e σ h d) (hs : srcOf h d = some (xs, s)) (hw : ∀ X Q, wpI Γ X e σ h Q = wpE Γ X e σ h fun x h => onSome (srcOf h x) fun u => Q u.1 u.2 h := by intros; simp only [wpI]) : EI Γ e σ h xs s := fun X Q q => by
  rw [hw]; exact ha X _ ⟨_, hs, q⟩
theorem EI.rng {e} {n : Int} (ha : EV Γ e σ h (.int n)) (l1 : -(2 ^ 60) ≤ n) (l2 : n ≤ 2 ^ 60) : EI Γ (.rng e) σ h ((List.range n.toNat).map fun (k : Nat) => .int (0 + (k : Int))) none := fun X Q q => by
  simp only [wpI]; exact ha X _ ⟨n, rfl, l1, l2, q⟩
theorem EI.zip {a b x y u} (ha : EV Γ a σ h x) (hb : EV Γ b σ h y) (e : zipOf x y = some u) : EI Γ (.zip a b) σ h (u.map fun p => .tup [p.1, p.2]) none := fun X Q q => by
  simp only [wpI]; exact ha X _ (hb X _ ⟨u, e, q⟩)
theorem EI.enum {a x u} (ha : EV Γ a σ h x) (e : enumOf x = some u) : EI Γ (.enum a) σ h (u.zipIdx.map fun p => .tup [.int ((p.2 : Nat) : Int), p.1]) none := fun X Q q => by
  simp only [wpI]; exact ha X _ ⟨u, e, q⟩
theorem compW_ev {tp : Bool} {tg : List Nat} {src : Src} {t v : E} {Y : PX} (hs : still src h) (p : D → Bool) (f : D → D) :
    ∀ (xs acc : List D) (Q : List D → Hm → Prop), (∀ x ∈ xs, ∃ σ1, bindT tp tg (wipe σ tg) x = some σ1 ∧ EV Γ t σ1 h (.bl (p x)) ∧ (p x = true → EV Γ v σ1 h (f x))) → Q (acc ++ (xs.filter p).map f) h → compW tp tg σ src (wpE Γ Y t) (wpE Γ Y v) xs acc h Q
  | [], acc, Q, _, q => ⟨hs, by simpa using q⟩
  | x :: xs, acc, Q, hV, q => by
    obtain ⟨σ1, e, t1, v1⟩ := hV x (.head _)
    refine ⟨hs, σ1, e, t1 _ _ ?_⟩
    cases hp : p x
    · exact .inr ⟨rfl, compW_ev hs p f xs acc Q (fun y hy => hV y (.tail _ hy)) (by simpa [hp] using q)⟩
    · exact .inl ⟨rfl, v1 hp _ _ (compW_ev hs p f xs (acc ++ [f x]) Q (fun y hy => hV y (.tail _ hy)) (by simpa [hp] using q))⟩
theorem EV.compF {tp : Bool} {tg : List Nat} {it t v : E} {xs : List D} {s : Src} (p : D → Bool) (f : D → D) (hi : EI Γ it σ h xs s) (hs : still s h) (hl : xs.length ≤ lim)
    (hV : ∀ x ∈ xs, ∃ σ1, bindT tp tg (wipe σ tg) x = some σ1 ∧ EV Γ t σ1 h (.bl (p x)) ∧ (p x = true → EV Γ v σ1 h (f x))) : EV Γ (.comp tp tg it t v) σ h (.lst ((xs.filter p).map f)) := fun X Q q => by
  simp only [wpE]
  exact hi X _ ⟨hl, compW_ev hs p f xs [] _ hV (by simpa using q)⟩
/-- without a test; the items are told by a list of anything -/
theorem EV.comp {α : Type} {tp : Bool} {tg : List Nat} {it v : E} {s : Src} {l : List α} (g : α → D) (f : α → D) (hi : EI Γ it σ h (l.map g) s) (hs : still s h) (hl : l.length ≤ lim)
    (hV : ∀ x ∈ l, ∃ σ1, bindT tp tg (wipe σ tg) (g x) = some σ1 ∧ EV Γ v σ1 h (f x)) : EV Γ (.comp tp tg it (.bl true) v) σ h (.lst (l.map f)) := fun X Q q => by
  simp only [wpE]
  refine hi X _ ⟨by rwa [List.length_map], ?_⟩
  have : ∀ (l : List α) (acc : List D) (Q : List D → Hm → Prop), (∀ x ∈ l, ∃ σ1, bindT tp tg (wipe σ tg) (g x) = some σ1 ∧ EV Γ v σ1 h (f x)) → Q (acc ++ l.map f) h → compW tp tg σ s (wpE Γ (fun _ _ => False) (.bl true)) (wpE Γ (fun _ _ => False) v) (l.map g) acc h Q := fun l => by
    induction l with
    | nil => intro acc Q _ q; exact ⟨hs, by simpa using q⟩
    | cons x l ih =>
      intro acc Q hV q
      obtain ⟨σ1, e, v1⟩ := hV x (.head _)
      exact ⟨hs, σ1, e, EV.bl _ _ (.inl ⟨rfl, v1 _ _ (ih _ _ (fun y hy => hV y (.tail _ hy)) (by simpa using q))⟩)⟩
  exact this l [] _ hV (by simpa using q)
/-! ### statements -/
variable {X : PX} {K : Ks} {rest : Ss}
theorem ws_nil (k : K.nx σ h) : wpSs Γ X .nil σ h K := by simp only [wpSs]; exact k
theorem ws_set {i e d} (a : EV Γ e σ h d) (k : wpSs Γ X rest (σ.set i (some d)) h K) : wpSs Γ X (.cons (.set i e) rest) σ h K := by simp only [wpSs, wpS]; exact a X _ k
theorem ws_par {is es ds} (a : EVs Γ es σ h ds) (k : wpSs Γ X rest (setAll σ is ds) h K) : wpSs Γ X (.cons (.par is es) rest) σ h K := by simp only [wpSs, wpS]; exact a X _ k
theorem ws_ex {e d} (a : EV Γ e σ h d) (k : wpSs Γ X rest σ h K) : wpSs Γ X (.cons (.ex e) rest) σ h K := by simp only [wpSs, wpS]; exact a X _ k
theorem ws_ret {e d} (a : EV Γ e σ h d) (k : K.rt d h) : wpSs Γ X (.cons (.ret e) rest) σ h K := by simp only [wpSs, wpS]; exact a X _ k
theorem ws_rai {c} (k : X c h) : wpSs Γ X (.cons (.rai c) rest) σ h K := by simp only [wpSs, wpS]; exact k
theorem ws_brk (k : K.bk σ h) : wpSs Γ X (.cons .brk rest) σ h K := by simp only [wpSs, wpS]; exact k
theorem ws_aug {i o e x y z} (hx : σ[i]? = some (some x)) (a : EV Γ e σ h y) (hz : augD o x y = some z) (k : wpSs Γ X rest (σ.set i (some z)) h K) : wpSs Γ X (.cons (.aug i o e) rest) σ h K := by
  simp only [wpSs, wpS]; exact ⟨x, hx, a X _ ⟨z, hz, k⟩⟩
theorem ws_sub {o k0 v x y z h'} (hv : EV Γ v σ h z) (ho : EV Γ o σ h x) (hk : EV Γ k0 σ h y) (hs : subD h x y z = some h') (k : wpSs Γ X rest σ h' K) : wpSs Γ X (.cons (.sub o k0 v) rest) σ h K := by
  simp only [wpSs, wpS]; exact hv X _ (ho X _ (hk X _ ⟨h', hs, k⟩))
theorem ws_ite {t a b c} (ht : EV Γ t σ h (.bl c)) (ha : c = true → wpSs Γ X a σ h { K with nx := fun σ h => wpSs Γ X rest σ h K }) (hb : c = false → wpSs Γ X b σ h { K with nx := fun σ h => wpSs Γ X rest σ h K }) : wpSs Γ X (.cons (.ite t a b) rest) σ h K := by
  simp only [wpSs, wpS]
  refine ht X _ ?_
  cases c
  · exact .inr ⟨rfl, hb rfl⟩
  · exact .inl ⟨rfl, ha rfl⟩
/-- an if whose branch leaves -/
theorem ws_if {t a c} (ht : EV Γ t σ h (.bl c)) (ha : c = true → wpSs Γ X a σ h { K with nx := fun σ h => wpSs Γ X rest σ h K }) (hb : c = false → wpSs Γ X rest σ h K) : wpSs Γ X (.cons (.ite t a .nil) rest) σ h K := ws_ite ht ha fun e => ws_nil (hb e)
theorem ws_for {tp tg it b xs s} (hi : EI Γ it σ h xs s) (k : forW tp tg s (wpSs Γ X b) { K with nx := fun σ h => wpSs Γ X rest σ h K } xs σ h) : wpSs Γ X (.cons (.for tp tg it b) rest) σ h K := by
  simp only [wpSs, wpS]; exact hi X _ k
end
mutual
theorem below_mono {n m : Nat} (l : n ≤ m) : ∀ {d : D}, below n d = true → below m d = true
  | .tup ds, h => by simp only [below] at h ⊢; exact belows_mono l h
  | .lst ds, h => by simp only [below] at h ⊢; exact belows_mono l h
  | .loc k, h => by simp only [below, decide_eq_true_eq] at h ⊢; omega
  | .non, _ => rfl
  | .bl _, _ => rfl
  | .int _, _ => rfl
  | .str _, _ => rfl
  | .fn _, _ => rfl
  | .scr _, _ => rfl
theorem belows_mono {n m : Nat} (l : n ≤ m) : ∀ {ds : List D}, belows n ds = true → belows m ds = true
  | [], _ => rfl
  | d :: ds, h => by
    simp only [belows, Bool.and_eq_true] at h ⊢
    exact ⟨below_mono l h.1, belows_mono l h.2⟩
end
theorem belowO_mono {n m : Nat} (l : n ≤ m) {o : MO} (h : belowO n o = true) : belowO m o = true := by
  cases o with
  | lst ds => simp only [belowO] at h ⊢; exact belows_mono l h
  | sd kvs => simp only [belowO, List.all_eq_true] at h ⊢; exact fun p hp => below_mono l (h p hp)
  | kd kvs => simp only [belowO, List.all_eq_true, Bool.and_eq_true] at h ⊢; exact fun p hp => ⟨below_mono l (h p hp).1, below_mono l (h p hp).2⟩
  | ins c fs => simp only [belowO, List.all_eq_true] at h ⊢; exact fun p hp => below_mono l (h p hp)
  | frz kvs => simp only [belowO, List.all_eq_true, Bool.and_eq_true] at h ⊢; exact fun p hp => ⟨below_mono l (h p hp).1, below_mono l (h p hp).2⟩
theorem wf_app {h : Hm} {o : MO} (w : WFb h = true) (ho : belowO (h.length + 1) o = true) : WFb (h ++ [o]) = true := by
  unfold WFb at *
  rw [List.all_eq_true] at *
  intro x hx
  rw [List.length_append, List.length_singleton]
  rcases List.mem_append.mp hx with q | q
  · exact belowO_mono (by omega) (w x q)
  · rw [List.mem_singleton.mp q]; exact ho
theorem belows_str (n : Nat) (ss : List (List Nat)) : belows n (ss.map .str) = true := by
  rw [belows_all, List.all_map]
  simp [below]
section
variable {Γ : Gam} {σ : Sl} {h : Hm} {X : PX} {K : Ks} {rest : Ss}
theorem ws_mk {i e ds} (a : EV Γ e σ h (.lst ds)) (k : wpSs Γ X rest (σ.set i (some (.loc h.length))) (h ++ [.lst ds]) K) : wpSs Γ X (.cons (.set i (.mk e)) rest) σ h K := by
  simp only [wpSs, wpS, wpE]; exact a X _ ⟨ds, rfl, k⟩
theorem ws_ext {i e ds es n} (hi : σ[i]? = some (some (.loc n))) (hn : h[n]? = some (.lst ds)) (a : EV Γ e σ h (.lst es)) (l : ds.length + es.length ≤ lim) (k : wpSs Γ X rest σ (h.set n (.lst (ds ++ es))) K) : wpSs Γ X (.cons (.ex (.bim .extend (.var i) (.cons e .nil))) rest) σ h K := by
  simp only [wpSs, wpS, wpE, wpEs]
  refine ⟨_, hi, ?_, a X _ ⟨(.non, h.set n (.lst (ds ++ es))), ?_, k⟩⟩
  · simp only [kindB, hn]
  · simp only [biD, hn, lstOf, if_pos l]
theorem ws_app {i e ds d n} (hi : σ[i]? = some (some (.loc n))) (hn : h[n]? = some (.lst ds)) (a : EV Γ e σ h d) (l : ds.length < lim) (k : wpSs Γ X rest σ (h.set n (.lst (ds ++ [d]))) K) : wpSs Γ X (.cons (.ex (.bim .append (.var i) (.cons e .nil))) rest) σ h K := by
  simp only [wpSs, wpS, wpE, wpEs]
  refine ⟨_, hi, ?_, a X _ ⟨(.non, h.set n (.lst (ds ++ [d]))), ?_, k⟩⟩
  · simp only [kindB, hn]
  · simp only [biD, hn, if_pos l]
end
/-- a def by its body -/
theorem pv_def {t : Tm} {k f : Nat} {ds : List D} {h : Hm} {d : D} {df : Df} (e : t.df.getD f ⟨0, 0, .nil⟩ = df) (l : ds.length = df.np) (w : WFb h = true) (b : below h.length d = true)
    (body : ∀ (X : PX) (K : Ks), K.rt d h → wpSs (Gm t k) X df.body (start df.ns ds) h K) : PV (Gm t (k + 1)) f ds h d := fun X Q q => by
  show wpF (Gm t k) (t.df.getD f ⟨0, 0, .nil⟩) ds h Q X
  rw [e]
  exact ⟨l, body _ _ ((dropQ_iff w).mpr ⟨b, q⟩)⟩
end Mi

set_option linter.all false
set_option maxRecDepth 100000
set_option maxHeartbeats 4000000
namespace Mi.G
open Mi
/-- a test in wp: which way it goes -/
theorem or_bl {b : Bool} {P R : Prop} : ((D.bl b = .bl true ∧ P) ∨ (D.bl b = .bl false ∧ R)) ↔ if b = true then P else R := by cases b <;> simp
def lowS : List Nat := [97, 98, 99, 100, 101, 102, 103, 104, 105, 106, 107, 108, 109, 110, 111, 112, 113, 114, 115, 116, 117, 118, 119, 120, 121, 122]
def allS : List Nat := lowS ++ [65, 66, 67, 68, 69, 70, 71, 72, 73, 74, 75, 76, 77, 78, 79, 80, 81, 82, 83, 84, 85, 86, 87, 88, 89, 90, 48, 49, 50, 51, 52, 53, 54, 55, 56, 57, 33, 35, 43, 45, 63, 95]
theorem gl0 {k : Nat} : (Ga k).gl 0 = some (.str lowS) := by rw [gl_]; rfl
theorem gl1 {k : Nat} : (Ga k).gl 1 = some (.str allS) := by rw [gl_]; rfl
theorem gl2 {k : Nat} : (Ga k).gl 2 = some (.int 4) := by rw [gl_]; rfl
theorem gl3 {k : Nat} : (Ga k).gl 3 = some (.int 6) := by rw [gl_]; rfl
theorem gl4 {k : Nat} : (Ga k).gl 4 = some (.int 12) := by rw [gl_]; rfl
def pairOk (ss : List (List Nat)) : Bool := isOver (.str (ss.getD 0 [])) lowS 1 6 && isOver (.str (ss.getD 1 [])) allS 1 6
def clsOk (cls : List (List (List Nat))) : Bool :=
  (decide (1 ≤ cls.length) && decide (cls.length ≤ 4)) && (cls.all (fun ss => decide (ss.length = 2)) && (cls.all pairOk &&
  (decide (cls.length = (dedup ((nmOf cls).map .str)).length) && decide ((sgOf cls).length = (dedup ((sgOf cls).map fun c => .str [c])).length))))
theorem chain_iff {i j n : Int} {P : D → Prop} : ((i ≤ j → P (.bl (decide (j ≤ n)))) ∧ (¬ i ≤ j → P (.bl false))) ↔ P (.bl (decide (i ≤ j) && decide (j ≤ n))) := by
  by_cases h : i ≤ j <;> simp [h]
theorem p_is_count {k : Nat} {h : Hm} (w : WFb h = true) (v : D) (lo hi : Int) (hv : simpV v = true) : PV (Ga (k + 1)) f_is_count [v, .int lo, .int hi] h (.bl (isCount v lo hi)) := fun X Q q => (x_is_count w v lo hi hv).mpr q
theorem p_is_over {k : Nat} {h : Hm} (w : WFb h = true) (v : D) (sg : List Nat) (lo hi : Int) (hv : okV v = true) : PV (Ga (k + 1)) f_is_over [v, .str sg, .int lo, .int hi] h (.bl (isOver v sg lo hi)) := fun X Q q => (x_is_over w v sg lo hi hv).mpr q
theorem p_is_name {k : Nat} {h : Hm} (w : WFb h = true) (v : D) (nm : List (List Nat)) (hv : okV v = true) (hn : nm.all okS = true) : PV (Ga (k + 1)) f_is_name [v, .lst (nm.map .str)] h (.bl (isName v nm)) := fun X Q q => (x_is_name w v nm hv hn).mpr q
theorem p_signs_of {k : Nat} {h : Hm} (w : WFb h = true) (cls : List (List (List Nat))) (r : D) (h2 : ∀ ss ∈ cls, 1 < ss.length) (hl : (sgOf cls).length ≤ lim) (hc : cls.length ≤ lim) : PV (Ga (k + 1)) f_signs_of [.tup [clsD cls, r]] h (.str (sgOf cls)) := fun X Q q => (x_signs_of w cls r h2 hl hc).mpr q
theorem eq_int {h : Hm} {i j : Int} : cmB h .eq (.int i) (.int j) = some (decide (i = j)) := by
  simp [cmB, eqQ, deref, flat, eqD]
  by_cases e : i = j <;> simp [e]
theorem ne_int {h : Hm} {i j : Int} : cmB h .ne (.int i) (.int j) = some (!decide (i = j)) := by
  have := @eq_int h i j
  simp only [cmB] at this ⊢
  rw [this]
  rfl
/-- the two texts of a class -/
def one2 (ss : List (List Nat)) : D := .tup (ss.map .str)
theorem ix_str {h : Hm} {ss : List (List Nat)} {n : Nat} (l : n < ss.length) : ixD h (one2 ss) (.int (n : Int)) = some (.str (ss.getD n [])) := by
  show at_ _ _ = _
  rw [at_nat, getD_str ss n l]
theorem okS_getD {ss : List (List Nat)} (h : ss.all okS = true) (n : Nat) : okS (ss.getD n []) = true := by
  rw [List.getD_eq_getElem?_getD]
  cases e : ss[n]? with
  | none => rfl
  | some s => exact List.all_eq_true.mp h s (List.mem_of_getElem? e)
theorem over_len {s sg : List Nat} {lo hi : Int} (h : isOver (.str s) sg lo hi = true) : lo ≤ s.length ∧ (s.length : Int) ≤ hi ∧ ∀ c ∈ s, c ∈ sg := by
  simp only [isOver, Bool.and_eq_true, decide_eq_true_eq, List.all_eq_true, hasC_iff] at h
  exact ⟨h.1, h.2.1, h.2.2⟩
theorem sg_len : ∀ {cls : List (List (List Nat))}, cls.all pairOk = true → (sgOf cls).length ≤ 6 * cls.length
  | [], _ => by simp [sgOf]
  | ss :: cls, h => by
    rw [List.all_cons, Bool.and_eq_true] at h
    have ih := sg_len h.2
    have := (over_len (Bool.and_eq_true_iff.mp h.1).2).2.1
    simp only [sgOf, List.map_cons, List.flatten_cons, List.length_append, List.length_cons] at ih ⊢
    omega
theorem p_are_classes {k : Nat} {h : Hm} (w : WFb h = true) (cls : List (List (List Nat))) (hs : ∀ ss ∈ cls, ss.all okS = true) (hl : cls.length ≤ lim) : PV (Ga (k + 2)) f_are_classes [clsD cls] h (.bl (clsOk cls)) := by
  refine pv_def (df := b_are_classes) rfl rfl w rfl fun X K q => ?_
  have e2 : biD h .len [clsD cls] = some (.int (cls.length : Int), h) := by simp [biD, clsD]
  have a1 : srcOf h (clsD cls) = some (cls.map one2, none) := rfl
  have EC : EI (Gm tm (k + 1)) (.var 0) (Mi.start b_are_classes.ns [clsD cls]) h (cls.map one2) none := EI.of (EV.var rfl) a1
  unfold b_are_classes
  refine ws_if (EV.or (EV.not (EV.isi (EV.var rfl) rfl)) fun _ => EV.not (EV.chain EV.int (EV.bi (EVs.one (EV.var rfl)) e2) fun _ => EV.gl gl2)) (fun hb => ws_ret EV.bl ?_) fun hb => ?_
  · have : clsOk cls = false := by
      unfold clsOk
      have hb : (decide (1 ≤ (cls.length : Int)) && decide ((cls.length : Int) ≤ 4)) = false := by
        cases z : (decide (1 ≤ (cls.length : Int)) && decide ((cls.length : Int) ≤ 4)) with
        | false => rfl
        | true => rw [z] at hb; cases hb
      have : (decide (1 ≤ cls.length) && decide (cls.length ≤ 4)) = false := by
        rw [← hb]; congr 1 <;> exact decide_eq_decide.mpr (by omega)
      rw [this]; rfl
    rw [this] at q; exact q
  have len4 : 1 ≤ cls.length ∧ cls.length ≤ 4 := by simp at hb; omega
  have c1 : (decide (1 ≤ cls.length) && decide (cls.length ≤ 4)) = true := by simp [len4]
  have q2 : EV (Gm tm (k + 1)) (.comp false [3] (.var 0) (.bl true) (.and (.isi (.var 3) .tuple) (.cmp .eq (.bi .len (.cons (.var 3) .nil)) (.int 2)))) (Mi.start b_are_classes.ns [clsD cls]) h (.lst (cls.map fun ss => .bl (decide (ss.length = 2)))) := by
    refine EV.comp one2 _ EC trivial hl fun ss _ => ⟨_, rfl, ?_⟩
    have := EV.and (Γ := Gm tm (k + 1)) (σ := (wipe (Mi.start b_are_classes.ns [clsD cls]) [3]).set 3 (some (one2 ss))) (h := h) (EV.isi (t := .tuple) (EV.var (i := 3) (d := one2 ss) rfl) rfl) fun _ => EV.cmp (o := .eq) (EV.bi (b := .len) (EVs.one (EV.var (i := 3) (d := one2 ss) rfl)) rfl) (EV.int (b := 2)) eq_int
    simpa [one2, show ((ss.length : Int) = 2 ↔ ss.length = 2) by omega] using this
  refine ws_if (EV.not (EV.bi (EVs.one q2) (by simp only [biD, lstOf, Option.bind_some, allBl_map, Option.map_some]; rfl))) (fun hb => ws_ret EV.bl ?_) fun hb => ?_
  · have : clsOk cls = false := by
      have hb : (cls.map fun ss => decide (ss.length = 2)).all id = false := by simpa using hb
      rw [all_map_id] at hb
      unfold clsOk
      rw [hb]; simp
    rw [this] at q; exact q
  have c2 : (cls.all fun ss => decide (ss.length = 2)) = true := by
    rw [← all_map_id]; simpa using hb
  have l2 : ∀ ss ∈ cls, ss.length = 2 := fun ss h => by simpa using List.all_eq_true.mp c2 ss h
  have q3 : EV (Gm tm (k + 1)) (.comp false [3] (.var 0) (.bl true) (.and (.call f_is_over (.cons (.ix (.var 3) (.int 0)) (.cons (.gl 0) (.cons (.int 1) (.cons (.int 6) .nil))))) (.call f_is_over (.cons (.ix (.var 3) (.int 1)) (.cons (.gl 1) (.cons (.int 1) (.cons (.int 6) .nil))))))) (Mi.start b_are_classes.ns [clsD cls]) h (.lst (cls.map fun ss => .bl (pairOk ss))) := by
    refine EV.comp one2 _ EC trivial hl fun ss hm => ⟨_, rfl, EV.and (EV.call (.cons (EV.ix (EV.var rfl) EV.int (ix_str (n := 0) (by rw [l2 ss hm]; omega))) (.cons (EV.gl gl0) (.cons EV.int (.cons EV.int .nil)))) (p_is_over w _ _ _ _ (okS_getD (hs ss hm) 0)))
      fun _ => EV.call (.cons (EV.ix (EV.var rfl) EV.int (ix_str (n := 1) (by rw [l2 ss hm]; omega))) (.cons (EV.gl gl1) (.cons EV.int (.cons EV.int .nil)))) (p_is_over w _ _ _ _ (okS_getD (hs ss hm) 1))⟩
  refine ws_if (EV.not (EV.bi (EVs.one q3) (by simp only [biD, lstOf, Option.bind_some, allBl_map, Option.map_some]; rfl))) (fun hb => ws_ret EV.bl ?_) fun hb => ?_
  · have : clsOk cls = false := by
      have hb : (cls.map pairOk).all id = false := by simpa using hb
      rw [all_map_id] at hb
      unfold clsOk
      rw [hb]; simp
    rw [this] at q; exact q
  have c3 : cls.all pairOk = true := by rw [← all_map_id]; simpa using hb
  have sl := sg_len c3
  have q4 : EV (Gm tm (k + 1)) (.comp false [3] (.var 0) (.bl true) (.ix (.var 3) (.int 0))) (Mi.start b_are_classes.ns [clsD cls]) h (.lst ((nmOf cls).map .str)) := by
    rw [show ((nmOf cls).map D.str) = cls.map fun ss => .str (ss.getD 0 []) by simp [nmOf]]
    exact EV.comp one2 _ EC trivial hl fun ss hm => ⟨_, rfl, EV.ix (EV.var rfl) EV.int (ix_str (n := 0) (by rw [l2 ss hm]; omega))⟩
  have q5 : EV (Gm tm (k + 1)) (.comp false [3] (.var 0) (.bl true) (.ix (.var 3) (.int 1))) (Mi.start b_are_classes.ns [clsD cls]) h (.lst ((cls.map (·.getD 1 [])).map .str)) := by
    rw [show ((cls.map (·.getD 1 [])).map D.str) = cls.map fun ss => .str (ss.getD 1 []) by simp]
    exact EV.comp one2 _ EC trivial hl fun ss hm => ⟨_, rfl, EV.ix (EV.var rfl) EV.int (ix_str (n := 1) (by rw [l2 ss hm]; omega))⟩
  have lm : (sgOf cls).length ≤ 24 := by omega
  have jl : joinL [] (cls.map (·.getD 1 [])) = sgOf cls := joinL_nil _
  refine ws_par (.cons q4 (.cons (EV.bim EV.str (EVs.one q5) rfl (d := .str (sgOf cls)) ?_) .nil)) ?_
  · simp only [biD, seqOf, lstOf, Option.bind_some, allStr_map, jl]
    rw [if_pos ⟨by unfold lim; omega, by simp⟩]
  refine ws_ret (EV.and (EV.cmp (EV.bi (EVs.one (EV.var rfl)) (d := .int (cls.length : Int)) ?_) (EV.bi (EVs.one (EV.var rfl)) (d := .int ((dedup ((nmOf cls).map .str)).length : Int)) ?_) eq_int) fun _ => EV.cmp (EV.bi (EVs.one (EV.var rfl)) (d := .int ((sgOf cls).length : Int)) ?_) (EV.bi (EVs.one (EV.var rfl)) (d := .int ((dedup ((sgOf cls).map fun c => .str [c])).length : Int)) ?_) eq_int) ?_
  · simp [biD, nmOf]
  · have a : (((nmOf cls).map D.str).all isTx) = true := by simp [isTx]
    simp only [biD, seqOf, lstOf, Option.bind_some]
    have dl := dedup_le ((nmOf cls).map D.str)
    rw [if_pos (by
      rw [a]
      have l : (nmOf cls).length = cls.length := by simp [nmOf]
      rw [List.length_map, l] at dl
      have : decide ((dedup ((nmOf cls).map D.str)).length < 60) = true := decide_eq_true (by omega)
      rw [this]; rfl)]
  · simp only [biD]
    rw [if_pos (by unfold lim; omega)]
  · simp only [biD]
    rw [if_pos (by omega)]
  · have e : clsOk cls = (decide ((cls.length : Int) = ((dedup ((nmOf cls).map .str)).length : Int)) && decide (((sgOf cls).length : Int) = ((dedup ((sgOf cls).map fun c => .str [c])).length : Int))) := by
      unfold clsOk
      rw [c1, c2, c3]
      simp only [Bool.true_and]
      congr 1 <;> exact decide_eq_decide.mpr (by omega)
    rw [e] at q
    exact q
end Mi.G

set_option linter.all false
set_option maxRecDepth 100000
set_option maxHeartbeats 4000000
namespace Mi.G
open Mi
/-! ## rules -/
abbrev wSize : List Nat := [115, 105, 122, 101]
abbrev wLeast : List Nat := [108, 101, 97, 115, 116]
abbrev wMost : List Nat := [109, 111, 115, 116]
abbrev wKinds : List Nat := [107, 105, 110, 100, 115]
abbrev wRun : List Nat := [114, 117, 110]
abbrev wRow : List Nat := [114, 111, 119]
abbrev wNot : List Nat := [110, 111, 116]
abbrev wFirst : List Nat := [102, 105, 114, 115, 116]
abbrev wLast : List Nat := [108, 97, 115, 116]
def isNon : D → Bool
  | .non => true
  | _ => false
def loOf : D → Int
  | .int i => i
  | _ => 0
def ruleB (nm : List (List Nat)) (sg : List Nat) : List D → Bool
  | .str w :: rest =>
    if (w == wSize) = true then decide ((rest.length : Int) = 2) && (isCount (rest.getD 0 .non) 0 12 && (isNon (rest.getD 1 .non) || isCount (rest.getD 1 .non) (loOf (rest.getD 0 .non)) 12))
    else if ([wLeast, wMost].any (· == w)) = true then decide ((rest.length : Int) = 2) && (isName (rest.getD 0 .non) nm && isCount (rest.getD 1 .non) (if (w == wLeast) = true then 1 else 0) 4)
    else if ([wKinds, wRun, wRow].any (· == w)) = true then decide ((rest.length : Int) = 1) && isCount (rest.getD 0 .non) 1 4
    else if (w == wNot) = true then decide ((rest.length : Int) = 1) && isOver (rest.getD 0 .non) sg 1 5
    else [wFirst, wLast].any (· == w) && (decide ((rest.length : Int) = 1) && isName (rest.getD 0 .non) nm)
  | _ => false
theorem ruleB_str (nm : List (List Nat)) (sg w : List Nat) (rest : List D) : ruleB nm sg (.str w :: rest) =
    if (w == wSize) = true then decide ((rest.length : Int) = 2) && (isCount (rest.getD 0 .non) 0 12 && (isNon (rest.getD 1 .non) || isCount (rest.getD 1 .non) (loOf (rest.getD 0 .non)) 12))
    else if ([wLeast, wMost].any (· == w)) = true then decide ((rest.length : Int) = 2) && (isName (rest.getD 0 .non) nm && isCount (rest.getD 1 .non) (if (w == wLeast) = true then 1 else 0) 4)
    else if ([wKinds, wRun, wRow].any (· == w)) = true then decide ((rest.length : Int) = 1) && isCount (rest.getD 0 .non) 1 4
    else if (w == wNot) = true then decide ((rest.length : Int) = 1) && isOver (rest.getD 0 .non) sg 1 5
    else [wFirst, wLast].any (· == w) && (decide ((rest.length : Int) = 1) && isName (rest.getD 0 .non) nm) := rfl
theorem okS_flat {s : List Nat} (h : okS s = true) (n : Nat) : flat n (.str s) = true := by
  simp [okS] at h
  cases n <;> simp [flat] <;> exact h.2
theorem eq_str {h : Hm} {a b : List Nat} (ha : okS a = true) (hb : okS b = true) : cmB h .eq (.str a) (.str b) = some (a == b) := by
  simp only [cmB, eqQ, deref, okS_flat ha, okS_flat hb, Bool.and_self, if_true]
  rfl
theorem in_str {h : Hm} {a : List Nat} {bs : List (List Nat)} (ha : okS a = true) (hb : bs.all okS = true) : cmB h .in_ (.str a) (.tup (bs.map .str)) = some (bs.any (· == a)) := by
  simp only [cmB, inD, okS_flat ha, flats_str hb, Bool.and_self, if_true, any_str]
theorem cut_one {α : Type} (x : α) (xs : List α) : cut (x :: xs) (some 1) none = xs := by
  have : sIx (x :: xs).length 0 (some 1) = 1 := by simp [sIx]
  unfold cut
  rw [this]
  simp [sIx]
theorem ix_tup {h : Hm} {ds : List D} {n : Nat} (l : n < ds.length) : ixD h (.tup ds) (.int (n : Int)) = some (ds.getD n .non) := by
  show at_ _ _ = _
  rw [at_nat, List.getElem?_eq_getElem l]
  simp [List.getD, List.getElem?_eq_getElem l]
theorem okV_getD {ds : List D} (h : ds.all okV = true) (n : Nat) : okV (ds.getD n .non) = true := by
  rw [List.getD_eq_getElem?_getD]
  cases e : ds[n]? with
  | none => rfl
  | some s => exact List.all_eq_true.mp h s (List.mem_of_getElem? e)
theorem is_non {h : Hm} {v : D} (hv : simpV v = true) : cmB h .is_ v .non = some (isNon v) := by cases v <;> first | rfl | cases hv
theorem count_int {v : D} {a b : Int} (h : isCount v a b = true) : v = .int (loOf v) := by cases v <;> simp [isCount] at h; rfl
theorem isi_str {h : Hm} {v : D} (hv : simpV v = true) : ∃ b, isiD h .str v = some b ∧ (b = true ↔ ∃ s, v = .str s) := by
  cases v <;> first | (exact ⟨_, rfl, by simp⟩) | cases hv
theorem p_is_rule {k : Nat} {h : Hm} (w : WFb h = true) (ds : List D) (nm : List (List Nat)) (sg : List Nat) (hd : ds.all okV = true) (hn : nm.all okS = true) (hg : okS sg = true) :
    PV (Ga (k + 2)) f_is_rule [.tup ds, .lst (nm.map .str), .str sg] h (.bl (ruleB nm sg ds)) := by
  refine pv_def (df := b_is_rule) rfl rfl w rfl fun X K q => ?_
  unfold b_is_rule
  cases ds with
  | nil =>
    exact ws_if (EV.or (EV.not (EV.isi (EV.var rfl) rfl)) fun _ => EV.or (y := false) (EV.not (EV.tru (EV.var rfl) (b := false) rfl)) fun z => nomatch z) (fun hb => ws_ret EV.bl q) fun hb => nomatch hb
  | cons x rest =>
    have hx : okV x = true ∧ rest.all okV = true := by simpa using hd
    obtain ⟨b, e1, e2⟩ := isi_str (h := h) (okV_simp hx.1)
    have ex : ixD h (.tup (x :: rest)) (.int 0) = some x := by simp [ixD, at_, ixN]
    refine ws_if (EV.or (EV.not (EV.isi (EV.var rfl) rfl)) fun _ => EV.or (EV.not (EV.tru (EV.var rfl) (b := true) rfl)) fun _ => EV.not (EV.isi (EV.ix (EV.var rfl) EV.int ex) e1)) (fun hb => ws_ret EV.bl ?_) fun hb => ?_
    · have : ruleB nm sg (x :: rest) = false := by
        have : b ≠ true := by intro z; rw [z] at hb; cases hb
        cases x <;> first | rfl | (exact absurd (e2.mpr ⟨_, rfl⟩) this)
      rw [this] at q; exact q
    have bt : b = true := by cases b <;> simp_all
    obtain ⟨wd, rfl⟩ := e2.mp bt
    have hw : okS wd = true := hx.1
    refine ws_par (.cons (EV.ix (EV.var rfl) EV.int ex) (.cons (EV.sl (EV.var rfl) EV.int EV.non rfl rfl (d := .tup rest) (by show some (D.tup (cut (D.str wd :: rest) (some 1) none)) = _; rw [cut_one])) .nil)) ?_
    have el : biD h .len [.tup rest] = some (.int (rest.length : Int), h) := rfl
    have o1 := fun n => okV_getD hx.2 n
    refine ws_if (EV.cmp (EV.var rfl) EV.str (eq_str hw (by decide))) (fun hb => ?_) fun hb1 => ?_
    · refine ws_if (EV.or (EV.cmp (EV.bi (EVs.one (EV.var rfl)) el) EV.int ne_int) fun z => EV.not (EV.call (.cons (EV.ix (EV.var rfl) EV.int (ix_tup (n := 0) (by simp at z; omega))) (.cons EV.int (.cons (EV.gl gl4) .nil))) (p_is_count w _ _ _ (okV_simp (o1 0))))) (fun hb2 => ws_ret EV.bl ?_) fun hb2 => ?_
      · have : ruleB nm sg (.str wd :: rest) = false := by
          rw [ruleB_str, if_pos hb]
          cases z1 : decide ((rest.length : Int) = 2) with
          | false => rfl
          | true =>
            rw [z1] at hb2
            cases z2 : isCount (rest.getD 0 .non) 0 12 with
            | false => rfl
            | true => rw [z2] at hb2; cases hb2
        rw [this] at q; exact q
      · cases z1 : decide ((rest.length : Int) = 2) with
        | false => rw [z1] at hb2; cases hb2
        | true =>
          rw [z1] at hb2
          cases z2 : isCount (rest.getD 0 .non) 0 12 with
          | false => rw [z2] at hb2; cases hb2
          | true =>
            have hl : (rest.length : Int) = 2 := of_decide_eq_true z1
            have c0 := count_int z2
            refine ws_ret (EV.or (EV.cmp (EV.ix (EV.var rfl) EV.int (ix_tup (n := 1) (by omega))) EV.non (is_non (okV_simp (o1 1)))) fun _ => EV.call (.cons (EV.ix (EV.var rfl) EV.int (ix_tup (n := 1) (by omega))) (.cons (EV.ix (EV.var rfl) EV.int (ix_tup (n := 0) (by omega) |>.trans (congrArg some c0))) (.cons (EV.gl gl4) .nil))) (p_is_count w _ _ _ (okV_simp (o1 1)))) ?_
            rw [ruleB_str, if_pos hb, z1, z2] at q
            exact q
    refine ws_if (EV.cmp (EV.var rfl) (EV.tup (.cons EV.str (.cons EV.str .nil)) (by unfold lim; simp)) (in_str (bs := [wLeast, wMost]) hw (by decide))) (fun hb => ws_ret (EV.and (EV.cmp (EV.bi (EVs.one (EV.var rfl)) el) EV.int eq_int) fun z => EV.and (EV.call (.cons (EV.ix (EV.var rfl) EV.int (ix_tup (n := 0) (by simp at z; omega))) (.cons (EV.var rfl) .nil)) (p_is_name w _ _ (o1 0) hn))
        fun _ => EV.call (ds := [rest.getD 1 .non, .int (if (wd == wLeast) = true then 1 else 0), .int 4]) (.cons (EV.ix (EV.var rfl) EV.int (ix_tup (n := 1) (by simp at z; omega))) (.cons (EV.ite (EV.cmp (EV.var rfl) EV.str (eq_str hw (by decide))) (fun z => by rw [if_pos z]; exact EV.int) fun z => by rw [if_neg (by rw [z]; exact Bool.false_ne_true)]; exact EV.int) (.cons EV.int .nil))) (p_is_count w _ _ _ (okV_simp (o1 1)))) ?_) fun hb2 => ?_
    · rw [ruleB_str, if_neg (by rw [hb1]; exact Bool.false_ne_true), if_pos hb] at q
      exact q
    refine ws_if (EV.cmp (EV.var rfl) (EV.tup (.cons EV.str (.cons EV.str (.cons EV.str .nil))) (by unfold lim; simp)) (in_str (bs := [wKinds, wRun, wRow]) hw (by decide))) (fun hb => ws_ret (EV.and (EV.cmp (EV.bi (EVs.one (EV.var rfl)) el) EV.int eq_int) fun z =>
      EV.call (.cons (EV.ix (EV.var rfl) EV.int (ix_tup (n := 0) (by simp at z; omega))) (.cons EV.int (.cons EV.int .nil))) (p_is_count w _ _ _ (okV_simp (o1 0)))) ?_) fun hb3 => ?_
    · rw [ruleB_str, if_neg (by rw [hb1]; exact Bool.false_ne_true), if_neg (by rw [hb2]; exact Bool.false_ne_true), if_pos hb] at q
      exact q
    refine ws_if (EV.cmp (EV.var rfl) EV.str (eq_str hw (by decide))) (fun hb => ws_ret (EV.and (EV.cmp (EV.bi (EVs.one (EV.var rfl)) el) EV.int eq_int) fun z =>
      EV.call (.cons (EV.ix (EV.var rfl) EV.int (ix_tup (n := 0) (by simp at z; omega))) (.cons (EV.var rfl) (.cons EV.int (.cons EV.int .nil)))) (p_is_over w _ _ _ _ (o1 0))) ?_) fun hb4 => ?_
    · rw [ruleB_str, if_neg (by rw [hb1]; exact Bool.false_ne_true), if_neg (by rw [hb2]; exact Bool.false_ne_true), if_neg (by rw [hb3]; exact Bool.false_ne_true), if_pos hb] at q
      exact q
    refine ws_ret (EV.and (EV.cmp (EV.var rfl) (EV.tup (.cons EV.str (.cons EV.str .nil)) (by unfold lim; simp)) (in_str (bs := [wFirst, wLast]) hw (by decide))) fun _ => EV.and (EV.cmp (EV.bi (EVs.one (EV.var rfl)) el) EV.int eq_int) fun z =>
      EV.call (.cons (EV.ix (EV.var rfl) EV.int (ix_tup (n := 0) (by simp at z; omega))) (.cons (EV.var rfl) .nil)) (p_is_name w _ _ (o1 0) hn)) ?_
    rw [ruleB_str, if_neg (by rw [hb1]; exact Bool.false_ne_true), if_neg (by rw [hb2]; exact Bool.false_ne_true), if_neg (by rw [hb3]; exact Bool.false_ne_true), if_neg (by rw [hb4]; exact Bool.false_ne_true)] at q
    exact q
end Mi.G

set_option linter.all false
set_option maxRecDepth 100000
set_option maxHeartbeats 4000000
namespace Mi.G
open Mi
/-! ## policies -/
def atomV : D → Bool
  | .str s => okS s
  | .int i => decide (0 ≤ i) && decide (i < 1000000)
  | .non => true
  | _ => false
theorem atom_ok {v : D} (h : atomV v = true) : okV v = true := by cases v <;> simp_all [atomV, okV, simpV]
theorem atom_hsh {v : D} (h : atomV v = true) (n : Nat) : hsh n v = true := by cases v <;> cases n <;> simp_all [atomV, hsh]
theorem atoms_ok {ds : List D} (h : ds.all atomV = true) : ds.all okV = true := List.all_eq_true.mpr fun v hv => atom_ok (List.all_eq_true.mp h v hv)
def polD (cls : List (List (List Nat))) (rules : List (List D)) : D := .tup [clsD cls, .tup (rules.map .tup)]
def polOk (cls : List (List (List Nat))) (rules : List (List D)) : Bool :=
  clsOk cls && (decide (rules.length ≤ 6) && (rules.all (ruleB (nmOf cls) (sgOf cls)) && decide (rules.length = (dedup (rules.map .tup)).length)))
theorem clsOk_two {cls : List (List (List Nat))} (h : clsOk cls = true) : (∀ ss ∈ cls, ss.length = 2) ∧ cls.all pairOk = true ∧ cls.length ≤ 4 ∧ (sgOf cls).length ≤ 24 := by
  simp only [clsOk, Bool.and_eq_true, decide_eq_true_eq, List.all_eq_true] at h
  obtain ⟨⟨h1, h2⟩, h3, h4, h5, h6⟩ := h
  have h4' : cls.all pairOk = true := List.all_eq_true.mpr h4
  have := sg_len h4'
  exact ⟨h3, h4', h2, by omega⟩
theorem sg_okS {cls : List (List (List Nat))} (h : clsOk cls = true) : okS (sgOf cls) = true := by
  obtain ⟨h1, h2, h3, h4⟩ := clsOk_two h
  simp only [okS, Bool.and_eq_true, decide_eq_true_eq, List.all_eq_true]
  refine ⟨by unfold lim; omega, fun c hc => ?_⟩
  simp only [sgOf, List.mem_flatten, List.mem_map] at hc
  obtain ⟨_, ⟨ss, hs, rfl⟩, hc⟩ := hc
  have := (over_len (Bool.and_eq_true_iff.mp (List.all_eq_true.mp h2 ss hs)).2).2.2 c hc
  have q : allS.all (fun c => decide (c < 1114112)) = true := by decide
  exact of_decide_eq_true (List.all_eq_true.mp q c this)
theorem nm_okS {cls : List (List (List Nat))} (hs : ∀ ss ∈ cls, ss.all okS = true) : (nmOf cls).all okS = true := by
  rw [List.all_eq_true]
  intro s h
  obtain ⟨ss, hm, rfl⟩ := List.mem_map.mp h
  exact okS_getD (hs ss hm) 0
theorem p_is_policy {k : Nat} {h : Hm} (w : WFb h = true) (cls : List (List (List Nat))) (rules : List (List D)) (hs : ∀ ss ∈ cls, ss.all okS = true) (hl : cls.length ≤ lim) (hr : ∀ r ∈ rules, r.all atomV = true) (hl2 : rules.length ≤ lim) :
    PV (Ga (k + 3)) f_is_policy [polD cls rules] h (.bl (polOk cls rules)) := by
  refine pv_def (df := b_is_policy) rfl rfl w rfl fun X K q => ?_
  unfold b_is_policy
  have i0 : ixD h (polD cls rules) (.int 0) = some (clsD cls) := rfl
  have i1 : ixD h (polD cls rules) (.int 1) = some (.tup (rules.map .tup)) := rfl
  refine ws_if (EV.or (EV.not (EV.isi (EV.var rfl) rfl)) fun _ => EV.or (EV.cmp (EV.bi (EVs.one (EV.var rfl)) rfl) EV.int ne_int) fun _ => EV.not (EV.call (.cons (EV.ix (EV.var rfl) EV.int i0) .nil) (p_are_classes w cls hs hl))) (fun hb => ws_ret EV.bl ?_) fun hb => ?_
  · have hb : clsOk cls = false := by simpa using hb
    unfold polOk at q
    rw [hb] at q; exact q
  have co : clsOk cls = true := by simpa using hb
  obtain ⟨l2, hp, h4, h24⟩ := clsOk_two co
  have a1 : srcOf h (clsD cls) = some (cls.map one2, none) := rfl
  refine ws_par (ds := [.lst ((nmOf cls).map .str), .tup (rules.map .tup)]) (.cons ?_ (.cons (EV.ix (EV.var rfl) EV.int i1) .nil)) ?_
  · rw [show ((nmOf cls).map D.str) = cls.map fun ss => .str (ss.getD 0 []) by simp [nmOf]]
    exact EV.comp one2 _ (EI.of (EV.ix (EV.var rfl) EV.int i0) a1) trivial hl fun ss hm => ⟨_, rfl, EV.ix (EV.var rfl) EV.int (ix_str (n := 0) (by rw [l2 ss hm]; omega))⟩
  refine ws_if (EV.or (EV.not (EV.isi (EV.var rfl) rfl)) fun _ => EV.cmp (EV.bi (EVs.one (EV.var rfl)) (d := .int (rules.length : Int)) (by simp [biD])) (EV.gl gl3) rfl) (fun hb => ws_ret EV.bl ?_) fun hb => ?_
  · have hb : ¬ rules.length ≤ 6 := by simp at hb; omega
    unfold polOk at q
    rw [decide_eq_false hb] at q
    simpa using q
  have r6 : rules.length ≤ 6 := by simp at hb; omega
  have er : srcOf h (.tup (rules.map .tup)) = some (rules.map .tup, none) := rfl
  have q1 : EV (Gm tm (k + 2)) (.comp false [4] (.var 2) (.bl true) (.call f_is_rule (.cons (.var 4) (.cons (.var 1) (.cons (.call f_signs_of (.cons (.var 0) .nil)) .nil))))) (setAll (Mi.start 5 [polD cls rules]) [1, 2] [.lst ((nmOf cls).map .str), .tup (rules.map .tup)]) h (.lst (rules.map fun r => .bl (ruleB (nmOf cls) (sgOf cls) r))) :=
    EV.comp D.tup _ (EI.of (EV.var rfl) er) trivial hl2 fun r hm => ⟨_, rfl, EV.call (.cons (EV.var rfl) (.cons (EV.var rfl) (.cons (EV.call (.cons (EV.var rfl) .nil) (p_signs_of w cls _ (fun ss hm => by rw [l2 ss hm]; omega) (by unfold lim; omega) hl)) .nil))) (p_is_rule w r _ _ (atoms_ok (hr r hm)) (nm_okS hs) (sg_okS co))⟩
  refine ws_if (EV.not (EV.bi (EVs.one q1) (by simp only [biD, lstOf, Option.bind_some, allBl_map, Option.map_some]; rfl))) (fun hb => ws_ret EV.bl ?_) fun hb => ?_
  · have hb : (rules.map (ruleB (nmOf cls) (sgOf cls))).all id = false := by simpa using hb
    rw [all_map_id] at hb
    unfold polOk at q
    rw [hb] at q
    simpa using q
  have c3 : rules.all (ruleB (nmOf cls) (sgOf cls)) = true := by rw [← all_map_id]; simpa using hb
  refine ws_ret (EV.cmp (EV.bi (EVs.one (EV.var rfl)) (d := .int (rules.length : Int)) (by simp [biD])) (EV.bi (EVs.one (EV.var rfl)) (d := .int ((dedup (rules.map .tup)).length : Int)) ?_) eq_int) ?_
  · have a : ((rules.map D.tup).all isKey) = true := by
      rw [List.all_map, List.all_eq_true]
      intro r hm
      show hshs 6 r = true
      rw [hshs_all]
      exact List.all_eq_true.mpr fun v hv => atom_hsh (List.all_eq_true.mp (hr r hm) v hv) 6
    simp only [biD, seqOf, Option.bind_some]
    rw [if_pos (by rw [a]; simp; omega)]
  · unfold polOk at q
    rw [co, c3, decide_eq_true r6] at q
    simp only [Bool.true_and] at q
    rw [show decide ((rules.length : Int) = ((dedup (rules.map .tup)).length : Int)) = decide (rules.length = (dedup (rules.map .tup)).length) from decide_eq_decide.mpr (by omega)]
    exact q
theorem two_of {ss : List (List Nat)} (h : ss.length = 2) : ∃ a b, ss = [a, b] := by
  match ss, h with
  | [a, b], _ => exact ⟨a, b, rfl⟩
theorem add_str {h : Hm} {a b : List Nat} (l : a.length + b.length ≤ lim) : opD h .add (.str a) (.str b) = some (.str (a ++ b)) := by simp only [opD, if_pos l]
theorem polD_below {cls : List (List (List Nat))} {rules : List (List D)} (hr : ∀ r ∈ rules, r.all atomV = true) (n : Nat) : below n (polD cls rules) = true := by
  show (belows n (cls.map one2) && (belows n (rules.map .tup) && true)) = true
  rw [belows_all, belows_all, List.all_map, List.all_map]
  have e1 : (cls.all (below n ∘ one2)) = true := List.all_eq_true.mpr fun ss _ => belows_str _ _
  have e2 : (rules.all (below n ∘ D.tup)) = true := List.all_eq_true.mpr fun r hr' => by
    show belows n r = true
    rw [belows_all, List.all_eq_true]
    intro v hv
    have := List.all_eq_true.mp (hr r hr') v hv
    cases v <;> simp_all [atomV, below]
  rw [e1, e2]; rfl
theorem ne_str {h : Hm} {a b : List Nat} (ha : flat 20 (.str a) = true) (hb : flat 20 (.str b) = true) : cmB h .ne (.str a) (.str b) = some (!(a == b)) := by
  simp only [cmB, eqQ, deref, ha, hb, Bool.and_self, if_true]
  rfl
/-- a def that gives nothing but may raise: whether it does -/
def PR (Γ : Gam) (f : Nat) (ds : List D) (h : Hm) (ok : Bool) (c : Nat) : Prop := ∀ (X : PX) (Q : PD), (ok = true → Q .non h) → (ok = false → X c h) → Γ.call f ds h Q X
theorem pr_need_policy {k : Nat} {h : Hm} (w : WFb h = true) {v : D} {b : Bool} (p : PV (Ga k) f_is_policy [v] h (.bl b)) : PR (Ga (k + 1)) f_need_policy [v] h b 0 := fun X Q q1 q2 => by
  show wpF (Ga k) b_need_policy [v] h Q X
  refine ⟨rfl, ?_⟩
  unfold b_need_policy
  refine ws_if (EV.not (EV.call (.cons (EV.var rfl) .nil) p)) (fun hb => ws_rai ?_) fun hb => ws_nil ?_
  · exact (dropX_iff w).mpr (q2 (by simpa using hb))
  · exact (dropQ_iff w).mpr ⟨rfl, q1 (by simpa using hb)⟩
end Mi.G

set_option linter.all false
set_option maxRecDepth 100000
set_option maxHeartbeats 4000000
namespace Mi.G
open Mi
/-! ## the machine: its tables -/
theorem find_map {k k' : List Nat} {v : D} : ∀ kvs : List (List Nat × D), sget (kvs.map fun p => if p.1 == k then (p.1, v) else p) k' = if k' = k then (sget kvs k).map (fun _ => v) else sget kvs k'
  | [] => by simp [sget]
  | p :: r => by
    have ih := find_map (k := k) (k' := k') (v := v) r
    unfold sget at *
    simp only [List.map_cons, List.find?_cons]
    by_cases h : p.1 = k
    · subst h
      simp only [beq_self_eq_true, if_true]
      by_cases h2 : k' = p.1
      · subst h2; simp
      · have h3 : (p.1 == k') = false := by simpa using fun e => h2 e.symm
        simp only [h3, h2, if_false] at ih ⊢
        exact ih
    · have h1 : (p.1 == k) = false := by simpa using h
      simp only [h1]
      by_cases h2 : p.1 = k'
      · subst h2
        simp [h]
      · have h3 : (p.1 == k') = false := by simpa using h2
        simp only [h3, Bool.false_eq_true, if_false]
        exact ih
theorem sget_put {k k' : List Nat} {v : D} (kvs : List (List Nat × D)) : sget (sput kvs k v) k' = if k' = k then some v else sget kvs k' := by
  unfold sput
  split
  · next h =>
    rw [find_map]
    obtain ⟨x, hx⟩ := Option.isSome_iff_exists.mp h
    rw [hx]; rfl
  · next h =>
    have h : sget kvs k = none := by simpa using h
    unfold sget at h ⊢
    rw [List.find?_append]
    by_cases e : k' = k
    · subst e
      rw [if_pos rfl]
      have : kvs.find? (fun p => p.1 == k') = none := by simpa using h
      rw [this]; simp
    · rw [if_neg e]
      have h3 : (k == k') = false := by simpa using fun z => e z.symm
      simp [List.find?_cons, h3]
theorem sput_len (kvs : List (List Nat × D)) (k : List Nat) (v : D) : (sput kvs k v).length ≤ kvs.length + 1 := by
  unfold sput
  split <;> simp
def putN (kv : List (List Nat × D)) (p : Nat × List Nat) : List (List Nat × D) := sput kv [p.1] (.str p.2)
def putF (kv : List (List Nat × D)) (p : Nat × Nat) : List (List Nat × D) := sput kv [p.1] (.str [p.2])
def nmP (ss : List (List Nat)) : List (Nat × List Nat) := (ss.getD 1 []).map fun c => (c, ss.getD 0 [])
def foP (ss : List (List Nat)) : List (Nat × Nat) := (ss.getD 1 []).zip ((ss.getD 1 []).drop 1)
def nmK (cls : List (List (List Nat))) : List (List Nat × D) := (cls.flatMap nmP).foldl putN []
def foK (cls : List (List (List Nat))) : List (List Nat × D) := (cls.flatMap foP).foldl putF []
def nameOf (cls : List (List (List Nat))) (c : Nat) : List Nat := match sget (nmK cls) [c] with
  | some (.str s) => s
  | _ => []
def folOf (cls : List (List (List Nat))) (c : Nat) : Option Nat := match sget (foK cls) [c] with
  | some (.str [d]) => some d
  | _ => none
theorem putN_get {c : Nat} : ∀ (l : List (Nat × List Nat)) (kv : List (List Nat × D)), ((∃ s, (c, s) ∈ l) ∨ ∃ s, sget kv [c] = some (.str s)) → ∃ s, sget (l.foldl putN kv) [c] = some (.str s)
  | [], kv, h => by
    rcases h with ⟨s, h⟩ | h
    · cases h
    · exact h
  | p :: l, kv, h => by
    refine putN_get l (putN kv p) ?_
    by_cases e : c = p.1
    · refine .inr ⟨p.2, ?_⟩
      unfold putN
      rw [sget_put, if_pos (by rw [e])]
    · rcases h with ⟨s, h⟩ | ⟨s, h⟩
      · rcases List.mem_cons.mp h with q | q
        · exact absurd (by rw [← q]) e
        · exact .inl ⟨s, q⟩
      · refine .inr ⟨s, ?_⟩
        unfold putN
        rw [sget_put, if_neg (fun z => e (by simpa using z))]
        exact h
theorem name_get {cls : List (List (List Nat))} {c : Nat} (h : c ∈ sgOf cls) : sget (nmK cls) [c] = some (.str (nameOf cls c)) := by
  simp only [sgOf, List.mem_flatten, List.mem_map] at h
  obtain ⟨_, ⟨ss, hs, rfl⟩, hc⟩ := h
  obtain ⟨s, e⟩ := putN_get (c := c) (cls.flatMap nmP) [] (.inl ⟨ss.getD 0 [], List.mem_flatMap.mpr ⟨ss, hs, List.mem_map.mpr ⟨c, hc, rfl⟩⟩⟩)
  unfold nameOf
  have e : sget (nmK cls) [c] = some (.str s) := e
  rw [e]
theorem putF_get {c : Nat} : ∀ (l : List (Nat × Nat)) (kv : List (List Nat × D)), (sget kv [c] = none ∨ ∃ d, sget kv [c] = some (.str [d])) → (sget (l.foldl putF kv) [c] = none ∨ ∃ d, sget (l.foldl putF kv) [c] = some (.str [d]))
  | [], kv, h => h
  | p :: l, kv, h => by
    refine putF_get l (putF kv p) ?_
    unfold putF
    rw [sget_put]
    split
    · exact .inr ⟨_, rfl⟩
    · exact h
def folD (cls : List (List (List Nat))) (c : Nat) : D := match folOf cls c with
  | some d => .str [d]
  | none => .non
theorem fol_get {cls : List (List (List Nat))} {c : Nat} : (sget (foK cls) [c]).getD .non = folD cls c := by
  unfold folD folOf
  rcases putF_get (c := c) (cls.flatMap foP) [] (.inl rfl) with e | ⟨d, e⟩
  · have e : sget (foK cls) [c] = none := e
    rw [e]; rfl
  · have e : sget (foK cls) [c] = some (.str [d]) := e
    rw [e]; rfl
theorem folds_len {α : Type} {f : List (List Nat × D) → α → List (List Nat × D)} (hf : ∀ kv a, (f kv a).length ≤ kv.length + 1) : ∀ (l : List α) kv, (l.foldl f kv).length ≤ kv.length + l.length
  | [], kv => by simp
  | a :: l, kv => by
    have := folds_len hf l (f kv a)
    have := hf kv a
    simp only [List.foldl_cons, List.length_cons]
    omega
theorem sput_below {n : Nat} {kvs : List (List Nat × D)} {k : List Nat} {v : D} (h : (kvs.all fun p => below n p.2) = true) (hv : below n v = true) : ((sput kvs k v).all fun p => below n p.2) = true := by
  rw [List.all_eq_true] at h ⊢
  intro p hp
  unfold sput at hp
  split at hp
  · obtain ⟨q, hq, e⟩ := List.mem_map.mp hp
    split at e
    · rw [← e]; exact hv
    · rw [← e]; exact h q hq
  · rcases List.mem_append.mp hp with q | q
    · exact h p q
    · rw [List.mem_singleton.mp q]; exact hv
/-! ### heaps behind a prefix -/
theorem ap_get {h l : Hm} {k : Nat} : (h ++ l)[h.length + k]? = l[k]? := by
  rw [List.getElem?_append_right (by omega)]
  congr 1
  omega
theorem ap_set {h l : Hm} {k : Nat} {o : MO} : (h ++ l).set (h.length + k) o = h ++ l.set k o := by
  rw [List.set_append_right _ _ (by omega)]
  congr 2
  omega
theorem ap_app {h l m : Hm} : (h ++ l) ++ m = h ++ (l ++ m) := List.append_assoc _ _ _
section
variable {Γ : Gam} {σ : Sl} {h : Hm} {X : PX} {K : Ks} {rest : Ss}
theorem ws_fld {o v : E} {f n c : Nat} {fs : List (Nat × D)} {z : D} (hv : EV Γ v σ h z) (ho : EV Γ o σ h (.loc n)) (e : h[n]? = some (.ins c fs)) (ok : Γ.okf c f = true) (l : fs.length < 100) (k : wpSs Γ X rest σ (h.set n (.ins c (fput fs f z))) K) : wpSs Γ X (.cons (.fld o f v) rest) σ h K := by
  simp only [wpSs, wpS]
  exact hv X _ (ho X _ ⟨n, c, fs, rfl, ⟨e, ok⟩, l, k⟩)
theorem ws_fldd {o : E} {f n c : Nat} {fs : List (Nat × D)} {b : Bool} (ho : EV Γ o σ (h ++ [if b then MO.kd [] else MO.sd []]) (.loc n)) (e : (h ++ [if b then MO.kd [] else MO.sd []])[n]? = some (.ins c fs)) (ok : Γ.okf c f = true) (l : fs.length < 100) (k : wpSs Γ X rest σ ((h ++ [if b then MO.kd [] else MO.sd []]).set n (.ins c (fput fs f (.loc h.length)))) K) : wpSs Γ X (.cons (.fld o f (.dnew b)) rest) σ h K := by
  simp only [wpSs, wpS, wpE]
  exact ho X _ ⟨n, c, fs, rfl, ⟨e, ok⟩, l, k⟩
end
theorem dropQ_all {h h' : Hm} {Q : PD} {d : D} (l : h.length ≤ h'.length) (w : WFb h' = true) (b : below h'.length d = true) (q : Q d h') : dropQ h.length Q d h' := by
  refine ⟨h'.length, l, Nat.le_refl _, b, ?_, ?_⟩
  · rw [List.take_length]; exact fun o ho => List.all_eq_true.mp w o ho
  · rw [List.take_length]; exact q
theorem cut_drop {α : Type} (xs : List α) : cut xs (some 1) none = xs.drop 1 := by
  cases xs with
  | nil => rfl
  | cons x xs => rw [cut_one]; rfl
/-- the state at the start, by the rules' words -/
def startD (rules : List (List D)) : D := .tup (rules.map fun r => match r with | .str w :: _ => startsOf w | _ => .non)
/-- the machine's fields -/
def mFs (cls : List (List (List Nat))) (rules : List (List D)) (n : Nat) : List (Nat × D) := [(0, .tup (rules.map .tup)), (1, .str (sgOf cls)), (2, .loc (n + 1)), (3, .loc (n + 2)), (4, startD rules), (5, .loc (n + 3))]
theorem okf_ {k c f : Nat} : (Ga k).okf c f = (decide (f < tm.fcl.length) && decide (tm.fcl.getD f 0 = c)) := by cases k <;> rfl
theorem okfM {k f : Nat} (h : f < 6) : (Ga k).okf 0 f = true := by
  rw [okf_]
  match f, h with
  | 0, _ => rfl
  | 1, _ => rfl
  | 2, _ => rfl
  | 3, _ => rfl
  | 4, _ => rfl
  | 5, _ => rfl
end Mi.G

set_option linter.all false
set_option maxRecDepth 100000
set_option maxHeartbeats 4000000
namespace Mi.G
open Mi
/-! ## Machine.__init__ -/
abbrev H3 (h : Hm) (fs : List (Nat × D)) (kv fo : List (List Nat × D)) : Hm := h ++ [.ins 0 fs, .sd kv, .sd fo]
theorem h3_0 {h fs kv fo} : (H3 h fs kv fo)[h.length]? = some (.ins 0 fs) := by simp [H3]
theorem h3_1 {h fs kv fo} : (H3 h fs kv fo)[h.length + 1]? = some (.sd kv) := ap_get (k := 1)
theorem h3_2 {h fs kv fo} : (H3 h fs kv fo)[h.length + 2]? = some (.sd fo) := ap_get (k := 2)
theorem h3_s0 {h fs kv fo fs'} : (H3 h fs kv fo).set h.length (.ins 0 fs') = H3 h fs' kv fo := ap_set (k := 0)
theorem h3_s1 {h fs kv fo kv'} : (H3 h fs kv fo).set (h.length + 1) (.sd kv') = H3 h fs kv' fo := ap_set (k := 1)
theorem h3_s2 {h fs kv fo fo'} : (H3 h fs kv fo).set (h.length + 2) (.sd fo') = H3 h fs kv fo' := ap_set (k := 2)
section
variable {k : Nat} {h : Hm} {X : PX} {K : Ks} {fs : List (Nat × D)} (f2 : fget fs 2 = some (.loc (h.length + 1))) (f3 : fget fs 3 = some (.loc (h.length + 2)))
include f2
theorem init_names (v1 : Option D) (nm sg : List Nat) (s5 s6 : Option D) (fo : List (List Nat × D)) : ∀ (cs : List Nat) (kv : List (List Nat × D)) (s4 : Option D), kv.length + cs.length ≤ 10000 →
    (∀ s4, K.nx [some (.loc h.length), v1, some (.str nm), some (.str sg), s4, s5, s6] (H3 h fs ((cs.map fun c => (c, nm)).foldl putN kv) fo)) →
    forW false [4] none (wpSs (Ga k) X (.cons (.sub (.fld (.var 0) 2) (.var 4) (.var 2)) .nil)) K (cs.map fun c => .str [c]) [some (.loc h.length), v1, some (.str nm), some (.str sg), s4, s5, s6] (H3 h fs kv fo)
  | [], kv, s4, _, q => ⟨trivial, q s4⟩
  | c :: cs, kv, s4, l, q => by
    simp only [List.length_cons] at l
    refine ⟨trivial, _, rfl, ws_sub (z := .str nm) (h' := H3 h fs (sput kv [c] (.str nm)) fo) (EV.var rfl) (EV.fld (EV.var rfl) h3_0 (okfM (by omega)) f2) (EV.var (d := .str [c]) rfl) ?_ (ws_nil ?_)⟩
    · simp only [subD, h3_1]
      rw [if_pos (by unfold lim; omega), h3_s1]
    · refine init_names v1 nm sg s5 s6 fo cs (putN kv (c, nm)) _ ?_ q
      have := sput_len kv [c] (.str nm)
      show (sput kv [c] (.str nm)).length + _ ≤ _
      omega
omit f2
include f3
theorem init_fols (v1 : Option D) (nm sg : List Nat) (s6 : Option D) (kv : List (List Nat × D)) : ∀ (cs : List (Nat × Nat)) (fo : List (List Nat × D)) (s4 s5 : Option D), fo.length + cs.length ≤ 10000 →
    (∀ s4 s5, K.nx [some (.loc h.length), v1, some (.str nm), some (.str sg), s4, s5, s6] (H3 h fs kv (cs.foldl putF fo))) →
    forW true [4, 5] none (wpSs (Ga k) X (.cons (.sub (.fld (.var 0) 3) (.var 4) (.var 5)) .nil)) K (cs.map fun p => .tup [.str [p.1], .str [p.2]]) [some (.loc h.length), v1, some (.str nm), some (.str sg), s4, s5, s6] (H3 h fs kv fo)
  | [], fo, s4, s5, _, q => ⟨trivial, q s4 s5⟩
  | c :: cs, fo, s4, s5, l, q => by
    simp only [List.length_cons] at l
    refine ⟨trivial, _, rfl, ws_sub (z := .str [c.2]) (h' := H3 h fs kv (sput fo [c.1] (.str [c.2]))) (EV.var rfl) (EV.fld (EV.var rfl) h3_0 (okfM (by omega)) f3) (EV.var (d := .str [c.1]) rfl) ?_ (ws_nil ?_)⟩
    · simp only [subD, h3_2]
      rw [if_pos (by unfold lim; omega), h3_s2]
    · refine init_fols v1 nm sg s6 kv cs (putF fo c) _ _ ?_ q
      have := sput_len fo [c.1] (.str [c.2])
      show (sput fo [c.1] (.str [c.2])).length + _ ≤ _
      omega
include f2
theorem init_loop (v1 : Option D) (s6 : Option D) : ∀ (l : List (List (List Nat))) (kv fo : List (List Nat × D)) (s2 s3 s4 s5 : Option D), (∀ ss ∈ l, ss.length = 2 ∧ (ss.getD 1 []).length ≤ 100) → kv.length + 100 * l.length ≤ 10000 → fo.length + 100 * l.length ≤ 10000 →
    (∀ s2 s3 s4 s5, K.nx [some (.loc h.length), v1, s2, s3, s4, s5, s6] (H3 h fs ((l.flatMap nmP).foldl putN kv) ((l.flatMap foP).foldl putF fo))) →
    forW true [2, 3] none (wpSs (Ga k) X (.cons (.for false [4] (.var 3) (.cons (.sub (.fld (.var 0) 2) (.var 4) (.var 2)) .nil))
   (.cons (.for true [4, 5] (.zip (.var 3) (.sl (.var 3) (.int 1) .non)) (.cons (.sub (.fld (.var 0) 3) (.var 4) (.var 5)) .nil)) .nil))) K (l.map one2) [some (.loc h.length), v1, s2, s3, s4, s5, s6] (H3 h fs kv fo)
  | [], kv, fo, s2, s3, s4, s5, _, _, _, q => ⟨trivial, q s2 s3 s4 s5⟩
  | ss :: l, kv, fo, s2, s3, s4, s5, hs, l1, l2, q => by
    obtain ⟨h2, hg⟩ := hs ss (.head _)
    obtain ⟨nm, sg, rfl⟩ := two_of h2
    have hg : sg.length ≤ 100 := hg
    simp only [List.length_cons] at l1 l2
    refine ⟨trivial, [some (.loc h.length), v1, some (.str nm), some (.str sg), s4, s5, s6], rfl, ?_⟩
    refine ws_for (xs := sg.map fun c => .str [c]) (s := none) (EI.of (EV.var rfl) rfl) ?_
    refine init_names f2 v1 nm sg s5 s6 fo sg kv s4 (by omega) fun s4 => ?_
    have ez : zipOf (.str sg) (.str (sg.drop 1)) = some ((sg.map fun c => D.str [c]).zip ((sg.drop 1).map fun c => D.str [c])) := rfl
    have e2 : ((sg.map fun c => D.str [c]).zip ((sg.drop 1).map fun c => D.str [c])).map (fun p => D.tup [p.1, p.2]) = (sg.zip (sg.drop 1)).map fun p => .tup [.str [p.1], .str [p.2]] := by
      rw [List.zip_map, List.map_map]; rfl
    refine ws_for (xs := (sg.zip (sg.drop 1)).map fun p => .tup [.str [p.1], .str [p.2]]) (s := none) ?_ ?_
    · rw [← e2]
      refine EI.zip (EV.var rfl) (EV.sl (EV.var rfl) EV.int EV.non rfl rfl (d := .str (sg.drop 1)) ?_) ez
      show (if sg.length ≤ lim then some (D.str (cut sg (some 1) none)) else none) = _
      rw [if_pos (by unfold lim; omega), cut_drop]
    refine init_fols f3 v1 nm sg s6 _ (sg.zip (sg.drop 1)) fo s4 s5 ?_ fun s4 s5 => ?_
    · simp only [List.length_zip, List.length_drop]; omega
    refine ws_nil (Γ := Ga k) (X := X) ?_
    have k1 := folds_len (f := putN) (fun kv a => sput_len _ _ _) (sg.map fun c => (c, nm)) kv
    have k2 := folds_len (f := putF) (fun kv a => sput_len _ _ _) (sg.zip (sg.drop 1)) fo
    simp only [List.length_map] at k1
    simp only [List.length_zip, List.length_drop] at k2
    refine init_loop v1 s6 l _ _ _ _ s4 s5 (fun x hx => hs x (.tail _ hx)) (by omega) (by omega) fun s2 s3 s4 s5 => ?_
    have := q s2 s3 s4 s5
    rw [List.flatMap_cons, List.flatMap_cons, List.foldl_append, List.foldl_append] at this
    exact this
end
theorem folds_below {α : Type} {n : Nat} {f : List (List Nat × D) → α → List (List Nat × D)} (hf : ∀ kv a, (kv.all fun p => below n p.2) = true → ((f kv a).all fun p => below n p.2) = true) : ∀ (l : List α) kv, (kv.all fun p => below n p.2) = true → ((l.foldl f kv).all fun p => below n p.2) = true
  | [], kv, h => h
  | a :: l, kv, h => folds_below hf l _ (hf kv a h)
theorem nmK_below (cls : List (List (List Nat))) (n : Nat) : ((nmK cls).all fun p => below n p.2) = true := folds_below (fun kv a h => sput_below h rfl) _ _ rfl
theorem foK_below (cls : List (List (List Nat))) (n : Nat) : ((foK cls).all fun p => below n p.2) = true := folds_below (fun kv a h => sput_below h rfl) _ _ rfl
/-- what a machine is made of -/
structure MPol (cls : List (List (List Nat))) (rules : List (List D)) : Prop where
  two : ∀ ss ∈ cls, ss.length = 2
  sg : ∀ ss ∈ cls, (ss.getD 1 []).length ≤ 6
  lc : cls.length ≤ 4
  rl : rules.length ≤ 6
  wd : ∀ r ∈ rules, ∃ w t, r = .str w :: t
  at_ : ∀ r ∈ rules, r.all atomV = true
theorem MPol.sgl {cls rules} (m : MPol cls rules) : (sgOf cls).length ≤ 24 := by
  have h : ∀ {l : List (List (List Nat))}, (∀ ss ∈ l, (ss.getD 1 []).length ≤ 6) → (sgOf l).length ≤ 6 * l.length := fun {l} => by
    induction l with
    | nil => intro _; simp [sgOf]
    | cons ss l ih =>
      intro h
      have h1 := ih fun x hx => h x (.tail _ hx)
      have h2 := h ss (.head _)
      simp only [sgOf, List.map_cons, List.flatten_cons, List.length_append, List.length_cons] at h1 ⊢
      omega
  have := h m.sg
  have := m.lc
  omega
theorem rulesD_below {rules : List (List D)} (hr : ∀ r ∈ rules, r.all atomV = true) (n : Nat) : below n (.tup (rules.map .tup)) = true := by
  have := polD_below (cls := []) hr n
  simp only [polD, below, belows, Bool.and_eq_true, Bool.and_true] at this ⊢
  exact this.2
theorem startsOf_below (w : List Nat) (n : Nat) : below n (startsOf w) = true := by
  unfold startsOf
  repeat' split
  all_goals rfl
theorem startD_below {rules : List (List D)} (hw : ∀ r ∈ rules, ∃ w t, r = .str w :: t) (n : Nat) : below n (startD rules) = true := by
  show belows n _ = true
  rw [belows_all, List.all_map, List.all_eq_true]
  intro r hr
  obtain ⟨w, t, rfl⟩ := hw r hr
  exact startsOf_below w n
theorem ws_fldM {k : Nat} {σ : Sl} {h t : Hm} {X : PX} {K : Ks} {rest : Ss} {f : Nat} {fs : List (Nat × D)} {b : Bool} (h0 : σ[0]? = some (some (.loc h.length))) (hf : f < 6) (l : fs.length < 100)
    (q : wpSs (Ga k) X rest σ (h ++ (.ins 0 (fput fs f (.loc (h.length + 1 + t.length))) :: (t ++ [if b then MO.kd [] else MO.sd []]))) K) : wpSs (Ga k) X (.cons (.fld (.var 0) f (.dnew b)) rest) σ (h ++ (.ins 0 fs :: t)) K := by
  simp only [wpSs, wpS, wpE]
  refine ⟨_, h0, h.length, 0, fs, rfl, ⟨by simp, okfM hf⟩, l, ?_⟩
  have e : ((h ++ (MO.ins 0 fs :: t)) ++ [if b then MO.kd [] else MO.sd []]).set h.length (.ins 0 (fput fs f (.loc (h ++ (MO.ins 0 fs :: t)).length))) = h ++ (.ins 0 (fput fs f (.loc (h.length + 1 + t.length))) :: (t ++ [if b then MO.kd [] else MO.sd []])) := by
    have e1 : (h ++ (MO.ins 0 fs :: t)).length = h.length + 1 + t.length := by simp; omega
    rw [e1, List.append_assoc]
    exact ap_set (k := 0)
  rw [e]
  exact q
theorem x_init {k : Nat} {h : Hm} (w : WFb h = true) {cls : List (List (List Nat))} {rules : List (List D)} (m : MPol cls rules) (X : PX) (Q : PD) (q : Q .non (h ++ [.ins 0 (mFs cls rules h.length), .sd (nmK cls), .sd (foK cls), .kd []])) : (Ga (k + 2)).call f_Machine_init [.loc h.length, polD cls rules] (h ++ [.ins 0 []]) Q X := by
  show wpF (Ga (k + 1)) b_Machine_init _ _ _ _
  refine ⟨rfl, ?_⟩
  unfold b_Machine_init
  have i0 : ∀ h, ixD h (polD cls rules) (.int 0) = some (clsD cls) := fun h => rfl
  have i1 : ∀ h, ixD h (polD cls rules) (.int 1) = some (.tup (rules.map .tup)) := fun h => rfl
  have sgl := m.sgl
  have lc := m.lc
  have g0 : ∀ fs, (h ++ [MO.ins 0 fs])[h.length]? = some (.ins 0 fs) := fun fs => by simp
  have s0 : ∀ fs fs', (h ++ [MO.ins 0 fs]).set h.length (.ins 0 fs') = h ++ [.ins 0 fs'] := fun fs fs' => by simp
  refine ws_fld (n := h.length) (c := 0) (fs := []) (EV.ix (EV.var rfl) EV.int (i1 _)) (EV.var rfl) (g0 _) (okfM (by omega)) (by simp) ?_
  rw [s0]
  have rb := rulesD_below m.at_
  have w1 : WFb (h ++ [.ins 0 (fput [] 0 (.tup (rules.map .tup)))]) = true := wf_app w (by
    show (List.all _ _) = true
    simp [fput, fget, rb])
  refine ws_fld (n := h.length) (c := 0) (EV.call (.cons (EV.var rfl) .nil) (p_signs_of w1 cls _ (fun ss hs => by rw [m.two ss hs]; omega) (by unfold lim; omega) (by unfold lim; omega))) (EV.var rfl) (g0 _) (okfM (by omega)) (by simp [fput, fget]) ?_
  rw [s0]
  refine ws_fldM (t := []) rfl (by omega) (by simp [fput, fget]) ?_
  refine ws_fldM (t := [.sd []]) rfl (by omega) (by simp [fput, fget]) ?_
  have e1 : h ++ (MO.ins 0 (fput (fput (fput (fput [] 0 (.tup (rules.map .tup))) 1 (.str (sgOf cls))) 2 (.loc (h.length + 1 + ([] : Hm).length))) 3 (.loc (h.length + 1 + [MO.sd []].length))) :: ([MO.sd []] ++ [if false = true then MO.kd [] else MO.sd []])) =
      H3 h [(0, .tup (rules.map .tup)), (1, .str (sgOf cls)), (2, .loc (h.length + 1)), (3, .loc (h.length + 2))] [] [] := by
    simp [fput, fget, H3]
  show wpSs _ _ _ _ (h ++ (MO.ins 0 (fput (fput (fput (fput [] 0 (.tup (rules.map .tup))) 1 (.str (sgOf cls))) 2 (.loc (h.length + 1 + ([] : Hm).length))) 3 (.loc (h.length + 1 + [MO.sd []].length))) :: ([MO.sd []] ++ [if false = true then MO.kd [] else MO.sd []]))) _
  rw [e1]
  refine ws_for (xs := cls.map one2) (s := none) (EI.of (EV.ix (EV.var rfl) EV.int (i0 _)) rfl) ?_
  show forW true [2, 3] none _ _ _ [some (.loc h.length), some (polD cls rules), none, none, none, none, none] _
  refine init_loop rfl rfl (some (polD cls rules)) none cls [] [] none none none none (fun ss hs => ⟨m.two ss hs, by have := m.sg ss hs; omega⟩) (by simp; omega) (by simp; omega) fun s2 s3 s4 s5 => ?_
  refine ws_fld (n := h.length) (c := 0) (z := startD rules) (EV.bi (EVs.one (?_ : EV _ _ _ _ (.lst (rules.map fun r => match r with | .str w :: _ => startsOf w | _ => .non)))) rfl) (EV.var rfl) h3_0 (okfM (by omega)) (by simp) ?_
  · refine EV.comp D.tup _ (EI.of (EV.fld (EV.var rfl) h3_0 (okfM (by omega)) rfl) rfl) trivial (by have := m.rl; unfold lim; omega) fun r hr => ?_
    obtain ⟨wd, t, rfl⟩ := m.wd r hr
    exact ⟨_, rfl, EV.bi (EVs.one (EV.ix (EV.var rfl) EV.int (d := .str wd) (by simp [ixD, at_, ixN]))) rfl⟩
  rw [h3_s0]
  show wpSs _ _ _ _ (h ++ (MO.ins 0 _ :: [MO.sd (nmK cls), .sd (foK cls)])) _
  refine ws_fldM (t := [.sd (nmK cls), .sd (foK cls)]) rfl (by omega) (by simp [fput, fget]) (ws_nil ?_)
  have e2 : h ++ (MO.ins 0 (fput (fput [(0, .tup (rules.map .tup)), (1, .str (sgOf cls)), (2, .loc (h.length + 1)), (3, .loc (h.length + 2))] 4 (startD rules)) 5 (.loc (h.length + 1 + [MO.sd (nmK cls), .sd (foK cls)].length))) :: ([MO.sd (nmK cls), .sd (foK cls)] ++ [if true = true then MO.kd [] else MO.sd []])) = h ++ [.ins 0 (mFs cls rules h.length), .sd (nmK cls), .sd (foK cls), .kd []] := by
    simp [fput, fget, mFs]
  show dropQ _ Q .non (h ++ (MO.ins 0 (fput (fput [(0, .tup (rules.map .tup)), (1, .str (sgOf cls)), (2, .loc (h.length + 1)), (3, .loc (h.length + 2))] 4 (startD rules)) 5 (.loc (h.length + 1 + [MO.sd (nmK cls), .sd (foK cls)].length))) :: ([MO.sd (nmK cls), .sd (foK cls)] ++ [if true = true then MO.kd [] else MO.sd []])))
  rw [e2]
  refine dropQ_all (by simp) ?_ rfl q
  have sb := startD_below m.wd
  unfold WFb
  rw [List.all_append, Bool.and_eq_true]
  refine ⟨List.all_eq_true.mpr fun o ho => belowO_mono (by simp) (List.all_eq_true.mp w o ho), ?_⟩
  have n1 := nmK_below cls (h.length + 4)
  have n2 := foK_below cls (h.length + 4)
  simp only [List.length_append, List.length_cons, List.length_nil, List.all_cons, List.all_nil, Bool.and_true, Bool.and_eq_true]
  refine ⟨?_, n1, n2, rfl⟩
  have rb' : belows (h.length + 4) (rules.map .tup) = true := rb _
  have sb' := sb (h.length + 4)
  simp [belowO, mFs, rb', sb', below]
end Mi.G

set_option linter.all false
set_option maxRecDepth 100000
set_option maxHeartbeats 4000000
namespace Mi.G
open Mi
/-! ## the law's draws -/
theorem ws_augs {Γ : Gam} {σ : Sl} {h : Hm} {X : PX} {K : Ks} {rest : Ss} {o k0 e : E} {op : Op} {n : Nat} {y u v z : D} {h' : Hm} (ho : EV Γ o σ h (.loc n)) (hk : EV Γ k0 σ h y) (hu : ixD h (.loc n) y = some u) (he : EV Γ e σ h v) (hz : augD op u v = some z) (hs : subD h (.loc n) y z = some h') (k : wpSs Γ X rest σ h' K) :
    wpSs Γ X (.cons (.augs o k0 op e) rest) σ h K := by
  simp only [wpSs, wpS]
  exact ho X _ (hk X _ ⟨n, rfl, u, hu, he X _ ⟨z, hz, h', hs, k⟩⟩)
theorem dropQ_set {h : Hm} {n : Nat} {o : MO} {Q : PD} {d : D} (w : WFb h = true) (ho : belowO h.length o = true) (b : below h.length d = true) (q : Q d (h.set n o)) : dropQ h.length Q d (h.set n o) :=
  dropQ_len (by simp) (wf_set w ho) b q
/-- the town: its two numbers are not negative -/
structure Tw (h : Hm) (n : Nat) : Prop where
  wf : WFb h = true
  at_ : ∃ a b : Int, h[n]? = some (.lst [.int a, .int b]) ∧ 0 ≤ a ∧ 0 ≤ b
def twS (h : Hm) (n : Nat) (a b : Int) : Hm := h.set n (.lst [.int a, .int b])
theorem Tw.lt {h : Hm} {n : Nat} (t : Tw h n) : n < h.length := by
  obtain ⟨a, b, e, _⟩ := t.at_
  exact (List.getElem?_eq_some_iff.mp e).1
theorem Tw.set {h : Hm} {n : Nat} (t : Tw h n) {a b : Int} (ha : 0 ≤ a) (hb : 0 ≤ b) : Tw (twS h n a b) n :=
  ⟨wf_set t.wf rfl, a, b, by unfold twS; rw [List.getElem?_set_self t.lt], ha, hb⟩
theorem twS_twS {h : Hm} {n : Nat} {a b a' b' : Int} : twS (twS h n a b) n a' b' = twS h n a' b' := by simp [twS, List.set_set]
theorem x_draw {k : Nat} {h : Hm} {n : Nat} (t : Tw h n) (ns : List Int) (m : Int) (m0 : 0 < m) (m1 : m < 1073741824) (X : PX) (Q : PD) (q : ∀ r a b : Int, 0 ≤ r → r < m → 0 ≤ a → 0 ≤ b → Q (.int r) (twS h n a b)) : (Ga (k + 1)).call f_law_draw [.scr ns, .loc n, .int m] h Q X := by
  obtain ⟨a, b, e, ha, hb⟩ := t.at_
  show wpF (Ga k) b_law_draw _ _ _ _
  refine ⟨rfl, ?_⟩
  unfold b_law_draw
  have w := t.wf
  have x0 : ixD h (.loc n) (.int 0) = some (.int a) := by simp [ixD, e, at_, ixN]
  have x1 : ixD h (.loc n) (.int 1) = some (.int b) := by simp [ixD, e, at_, ixN]
  have fin : ∀ {r a' b' : Int}, 0 ≤ r → r < m → 0 ≤ a' → 0 ≤ b' → dropQ h.length Q (.int r) (twS h n a' b') := fun h1 h2 h3 h4 => dropQ_set w rfl rfl (q _ _ _ h1 h2 h3 h4)
  have modm : ∀ {h : Hm} {x : Int}, opD h .mod (.int x) (.int m) = some (.int (x % m)) := fun {h x} => by simp only [opD, if_pos m0]
  have divm : ∀ {h : Hm} {x : Int}, opD h .fdiv (.int x) (.int m) = some (.int (x / m)) := fun {h x} => by simp only [opD, if_pos (And.intro m0 m1)]
  have r0 : ∀ x : Int, 0 ≤ x % m := fun x => Int.emod_nonneg x (by omega)
  have r1 : ∀ x : Int, x % m < m := fun x => Int.emod_lt_of_pos x m0
  have sub1 : ∀ {h : Hm} {u v z : Int}, h[n]? = some (.lst [.int u, .int v]) → subD h (.loc n) (.int 1) (.int z) = some (h.set n (.lst [.int u, .int z])) := fun {h u v z} e => by simp [subD, e, ixN]
  have sub0 : subD h (.loc n) (.int 0) (.int (a + 1)) = some (h.set n (.lst [.int (a + 1), .int b])) := by simp [subD, e, ixN]
  refine ws_if (EV.cmp (EV.ix (EV.var rfl) EV.int x1) EV.int rfl) (fun z => ?_) fun z => ?_
  · refine ws_set (EV.op (EV.ix (EV.var rfl) EV.int x1) (EV.var rfl) modm) ?_
    refine ws_sub (EV.op (EV.ix (EV.var rfl) EV.int x1) (EV.var rfl) divm) (EV.var rfl) EV.int (sub1 e) ?_
    exact ws_ret (EV.var rfl) (fin (r0 b) (r1 b) ha (Int.ediv_nonneg hb (by omega)))
  · refine ws_set (EV.ix (EV.var rfl) EV.int x0) ?_
    refine ws_augs (EV.var rfl) EV.int x0 EV.int rfl sub0 ?_
    have e' : (h.set n (.lst [.int (a + 1), .int b]))[n]? = some (.lst [.int (a + 1), .int b]) := List.getElem?_set_self t.lt
    have fin2 : ∀ {r a' b' : Int}, 0 ≤ r → r < m → 0 ≤ a' → 0 ≤ b' → dropQ h.length Q (.int r) ((h.set n (.lst [.int (a + 1), .int b])).set n (.lst [.int a', .int b'])) := fun h1 h2 h3 h4 => by
      rw [List.set_set]; exact fin h1 h2 h3 h4
    have eqs : cmB (h.set n (.lst [.int (a + 1), .int b])) .eq (.scr ns) (.lst []) = some ns.isEmpty := by
      have f1 : flats 19 (ns.map D.int) = true := by rw [flats_all, List.all_map]; simp [flat]
      simp only [cmB, eqQ, deref, flat, f1, flats, Bool.and_self, if_true, eqD]
      cases ns <;> rfl
    refine ws_if (EV.cmp (EV.var rfl) (EV.lst .nil (by simp [lim])) eqs) (fun z => ?_) fun z => ?_
    · exact ws_ret (EV.op (EV.var rfl) (EV.var rfl) modm) (fin (r0 a) (r1 a) (by omega) hb)
    · have nl : 0 < ns.length := by cases ns <;> simp_all
      have lenE : ∀ {h : Hm}, biD h .len [.scr ns] = some (.int (ns.length : Int), h) := fun {h} => rfl
      have ixs : ∀ {h : Hm} {i : Int}, 0 ≤ i → i < ns.length → ixD h (.scr ns) (.int i) = some (.int (ns.getD i.toNat 0)) := fun {h i} h0 h1 => by
        obtain ⟨j, rfl⟩ := Int.eq_ofNat_of_zero_le h0
        have hj : j < ns.length := by omega
        have : at_ ns (j : Int) = some (ns.getD j 0) := by
          rw [at_nat, List.getElem?_eq_getElem hj]
          simp [List.getD, List.getElem?_eq_getElem hj]
        simp only [ixD, this, Option.map_some, Int.toNat_natCast]
      refine ws_if (EV.and (EV.cmp (EV.var rfl) (EV.bi (EVs.one (EV.var rfl)) lenE) rfl) fun z2 => EV.cmp (EV.ix (EV.var rfl) (EV.var rfl) (ixs ha (of_decide_eq_true z2))) (EV.op EV.int EV.int rfl) rfl) (fun z2 => ?_) fun z2 => ?_
      · have z2 : (decide (a < (ns.length : Int)) && decide ((10 : Int) ^ (18 : Int).toNat ≤ ns.getD a.toNat 0)) = true := z2
        simp only [Bool.and_eq_true, decide_eq_true_eq] at z2
        have xa := fun h : Hm => ixs (h := h) ha z2.1
        have p60 : ∀ h : Hm, opD h .pow (.int 10) (.int 60) = some (.int (10 ^ 60)) := fun h => rfl
        have m60 : ∀ h : Hm, opD h .mul (.int (10 ^ 60)) (.int (10 ^ 60)) = some (.int (10 ^ 60 * 10 ^ 60)) := fun h => by
          simp only [opD]
          rw [if_pos (by decide +kernel)]
        refine ws_sub (EV.op (EV.op (EV.ix (EV.var rfl) (EV.var rfl) (xa _)) (EV.var rfl) divm) (EV.op (EV.op EV.int EV.int (p60 _)) (EV.op EV.int EV.int (p60 _)) (m60 _)) (d := .int (ns.getD a.toNat 0 / m % (10 ^ 60 * 10 ^ 60))) ?_) (EV.var rfl) EV.int (sub1 e') ?_
        · simp only [opD]
          rw [if_pos (by decide +kernel)]
        · exact ws_ret (EV.op (EV.ix (EV.var rfl) (EV.var rfl) (xa _)) (EV.var rfl) modm) (fin2 (r0 _) (r1 _) (by omega) (Int.emod_nonneg _ (by decide +kernel)))
      · have modl : opD (h.set n (.lst [.int (a + 1), .int b])) .mod (.int a) (.int (ns.length : Int)) = some (.int (a % (ns.length : Int))) := by
          simp only [opD]; rw [if_pos (by omega)]
        have i0 : 0 ≤ a % (ns.length : Int) := Int.emod_nonneg _ (by omega)
        have i1 : a % (ns.length : Int) < ns.length := Int.emod_lt_of_pos _ (by omega)
        generalize hx : ns.getD (a % (ns.length : Int)).toNat 0 = x
        have mulx : ∀ h : Hm, opD h .mul (.int x) (.int 1103515245) = some (.int (x * 1103515245)) := fun h => by
          simp only [opD]
          rw [if_pos (by have : small 1103515245 = true := by decide
                         rw [this]; simp)]
        have mula : ∀ h : Hm, opD h .mul (.int 7919) (.int a) = some (.int (7919 * a)) := fun h => by
          simp only [opD]
          rw [if_pos (by have : small 7919 = true := by decide
                         rw [this]; simp)]
        refine ws_set (d := .int ((x * 1103515245 + 7919 * a + 12345) % 2147483647)) (EV.op (EV.op (EV.op (EV.op (EV.ix (EV.var rfl) (EV.op (EV.var rfl) (EV.bi (EVs.one (EV.var rfl)) lenE) modl) (ixs i0 i1)) EV.int (by rw [hx]; exact mulx _)) (EV.op EV.int (EV.var rfl) (mula _)) rfl) EV.int rfl) EV.int rfl) ?_
        generalize hy : (x * 1103515245 + 7919 * a + 12345) % 2147483647 = y
        have y0 : 0 ≤ y := by rw [← hy]; exact Int.emod_nonneg _ (by omega)
        have y1 : y < 2147483647 := by rw [← hy]; exact Int.emod_lt_of_pos _ (by omega)
        have pw : ∀ h : Hm, opD h .pow (.int y) (.int 5) = some (.int (y ^ 5)) := fun h => by
          have : small y = true := by simp only [small, decide_eq_true_eq]; omega
          simp only [opD, this]
          rfl
        exact ws_ret (EV.op (EV.op (EV.op (EV.op (EV.var rfl) EV.int (pw _)) EV.int rfl) EV.int rfl) (EV.var rfl) modm) (fin (r0 _) (r1 _) (by omega) hb)
theorem x_pick {k : Nat} {h : Hm} {n : Nat} (t : Tw h n) (ns : List Int) (v : D) (items : List D) (l0 : 0 < items.length) (l1 : items.length < 1000000)
    (hl : ∀ h : Hm, biD h .len [v] = some (.int (items.length : Int), h)) (hi : ∀ (h : Hm) (i : Nat), i < items.length → ixD h v (.int (i : Int)) = some (items.getD i .non)) (hb : ∀ x ∈ items, ∀ n, below n x = true)
    (X : PX) (Q : PD) (q : ∀ (i : Nat) (a b : Int), i < items.length → 0 ≤ a → 0 ≤ b → Q (items.getD i .non) (twS h n a b)) : (Ga (k + 2)).call f_law_pick [.scr ns, .loc n, v] h Q X := by
  show wpF (Ga (k + 1)) b_law_pick _ _ _ _
  refine ⟨rfl, ?_⟩
  unfold b_law_pick
  simp only [wpSs, wpS, wpE, wpEs]
  refine ⟨v, rfl, .scr ns, rfl, .loc n, rfl, v, rfl, _, hl h, x_draw t ns _ (by omega) (by omega) _ _ fun r a b h0 h1 h2 h3 => ?_⟩
  have e : r = ((r.toNat : Nat) : Int) := by omega
  rw [e]
  refine ⟨_, hi _ _ (by omega), dropQ_set t.wf rfl ?_ (q _ _ _ (by omega) h2 h3)⟩
  rw [List.getD_eq_getElem?_getD, List.getElem?_eq_getElem (by omega)]
  exact hb _ (List.getElem_mem _) _
end Mi.G

set_option linter.all false
set_option maxRecDepth 100000
set_option maxHeartbeats 4000000
namespace Mi.G
open Mi
section
variable {Γ : Gam} {σ : Sl} {h : Hm} {X : PX} {K : Ks} {rest : Ss}
theorem wr_par {is es} (k : wpEs Γ X es σ h fun ds h => wpSs Γ X rest (setAll σ is ds) h K) : wpSs Γ X (.cons (.par is es) rest) σ h K := by simp only [wpSs, wpS]; exact k
theorem wr_set {i e} (k : wpE Γ X e σ h fun d h => wpSs Γ X rest (σ.set i (some d)) h K) : wpSs Γ X (.cons (.set i e) rest) σ h K := by simp only [wpSs, wpS]; exact k
theorem wr_ret {e} (k : wpE Γ X e σ h K.rt) : wpSs Γ X (.cons (.ret e) rest) σ h K := by simp only [wpSs, wpS]; exact k
theorem wr_ex {e} (k : wpE Γ X e σ h fun d h => wpSs Γ X rest σ h K) : wpSs Γ X (.cons (.ex e) rest) σ h K := by simp only [wpSs, wpS]; exact k
theorem we_call {f es ds} {Q : PD} (a : EVs Γ es σ h ds) (k : Γ.call f ds h Q X) : wpE Γ X (.call f es) σ h Q := by simp only [wpE]; exact a X _ k
theorem wes_cons {e es} {Q : List D → Hm → Prop} (k : wpE Γ X e σ h fun d h => wpEs Γ X es σ h fun ds h => Q (d :: ds) h) : wpEs Γ X (.cons e es) σ h Q := by simp only [wpEs]; exact k
theorem wes_nil {Q : List D → Hm → Prop} (k : Q [] h) : wpEs Γ X .nil σ h Q := by simp only [wpEs]; exact k
theorem we_tup {es} {Q : PD} (k : wpEs Γ X es σ h fun ds h => ds.length ≤ lim ∧ Q (.tup ds) h) : wpE Γ X (.tup es) σ h Q := by simp only [wpE]; exact k
theorem we_ix {a b} {Q : PD} (k : wpE Γ X a σ h fun x h => wpE Γ X b σ h fun y h => onSome (ixD h x y) fun d => Q d h) : wpE Γ X (.ix a b) σ h Q := by simp only [wpE]; exact k
theorem we_op {o a b} {Q : PD} (k : wpE Γ X a σ h fun x h => wpE Γ X b σ h fun y h => onSome (opD h o x y) fun d => Q d h) : wpE Γ X (.op o a b) σ h Q := by simp only [wpE]; exact k
theorem we_cmp {o a b} {Q : PD} (k : wpE Γ X a σ h fun x h => wpE Γ X b σ h fun y h => onSome (cmB h o x y) fun d => Q (.bl d) h) : wpE Γ X (.cmp o a b) σ h Q := by simp only [wpE]; exact k
theorem onS {α : Type} {o : Option α} {a : α} {Q : α → Prop} (e : o = some a) (q : Q a) : onSome o Q := ⟨a, e, q⟩
end
/-! ## the law's policies -/
def C5 : List (List (List (List Nat))) := [[[[108, 111, 119], [97, 98]], [[100, 105, 103], [48, 49]]], [[[108, 111, 119], [97, 98, 99]], [[100, 105, 103], [48]]], [[[120], [97, 98, 99, 100]]], [[[117, 112], [65]], [[108, 111, 119], [97]], [[100, 105, 103], [49]]], [[[109], [33]], [[108, 111, 119], [98, 97]]]]
/-- .. and the one of law k02 -/
def clsA : List (List (List Nat)) := [[[97], [120, 121, 122]], [[98], [49]]]
def C6 : List (List (List (List Nat))) := C5 ++ [clsA]
theorem c56 {cls : List (List (List Nat))} (h : cls ∈ C5) : cls ∈ C6 := List.mem_append_left _ h
theorem clsD_below (cls : List (List (List Nat))) (n : Nat) : below n (clsD cls) = true := by
  show belows n _ = true
  rw [belows_all, List.all_map]
  exact List.all_eq_true.mpr fun ss _ => belows_str _ _
theorem x_classes {k : Nat} {h : Hm} {n : Nat} (t : Tw h n) (ns : List Int) (X : PX) (Q : PD) (q : ∀ cls ∈ C5, ∀ a b : Int, 0 ≤ a → 0 ≤ b → Q (clsD cls) (twS h n a b)) : (Ga (k + 3)).call f_law_classes [.scr ns, .loc n] h Q X := by
  show wpF (Ga (k + 2)) b_law_classes _ _ _ _
  refine ⟨rfl, ?_⟩
  unfold b_law_classes
  refine ws_set (d := .lst ((C5.take 3).map clsD)) ?_ ?_
  · exact EV.lst (.cons (EV.tup (.cons (EV.tup (.cons EV.str (.cons EV.str .nil)) (by simp [lim])) (.cons (EV.tup (.cons EV.str (.cons EV.str .nil)) (by simp [lim])) .nil)) (by simp [lim])) (.cons (EV.tup (.cons (EV.tup (.cons EV.str (.cons EV.str .nil)) (by simp [lim])) (.cons (EV.tup (.cons EV.str (.cons EV.str .nil)) (by simp [lim])) .nil)) (by simp [lim])) (.cons (EV.tup (.cons (EV.tup (.cons EV.str (.cons EV.str .nil)) (by simp [lim])) .nil) (by simp [lim])) .nil))) (by simp [C5, lim])
  refine wr_ret (we_call (ds := [.scr ns, .loc n, .lst (C5.map clsD)]) (.cons (EV.var rfl) (.cons (EV.var rfl) (.cons (EV.opl (EV.var rfl) (EV.lst (ds := (C5.drop 3).map clsD) (.cons (EV.tup (.cons (EV.tup (.cons EV.str (.cons EV.str .nil)) (by simp [lim])) (.cons (EV.tup (.cons EV.str (.cons EV.str .nil)) (by simp [lim])) (.cons (EV.tup (.cons EV.str (.cons EV.str .nil)) (by simp [lim])) .nil))) (by simp [lim])) (.cons (EV.tup (.cons (EV.tup (.cons EV.str (.cons EV.str .nil)) (by simp [lim])) (.cons (EV.tup (.cons EV.str (.cons EV.str .nil)) (by simp [lim])) .nil)) (by simp [lim])) .nil)) (by simp [C5, lim])) rfl) .nil))) ?_)
  refine x_pick (k := k) t ns (.lst (C5.map clsD)) (C5.map clsD) (by decide) (by decide) (fun h => rfl) (fun h i hi => ?_) (fun x hx n => ?_) _ _ fun i a b hi ha hb => dropQ_set t.wf rfl ?_ ?_
  · show at_ _ _ = _
    rw [at_nat, List.getElem?_eq_getElem hi]
    simp [List.getD, List.getElem?_eq_getElem hi]
  · obtain ⟨cls, _, rfl⟩ := List.mem_map.mp hx
    exact clsD_below _ _
  · rw [List.getD_eq_getElem?_getD, List.getElem?_eq_getElem hi]
    simp only [Option.getD_some, List.getElem_map]
    exact clsD_below _ _
  · rw [List.getD_eq_getElem?_getD, List.getElem?_eq_getElem hi]
    simp only [Option.getD_some, List.getElem_map]
    exact q _ (List.getElem_mem _) a b ha hb
/-- the rules that the law draws -/
inductive Ru where
  | size (lo : Nat) (hi : Option Nat)
  | least (nm : List Nat) (n : Nat)
  | most (nm : List Nat) (n : Nat)
  | kinds (n : Nat)
  | run (n : Nat)
  | row (n : Nat)
  | not (s : List Nat)
  | first (nm : List Nat)
  | last (nm : List Nat)
def hiD : Option Nat → D
  | none => .non
  | some n => .int (n : Int)
def Ru.ds : Ru → List D
  | .size lo hi => [.str wSize, .int (lo : Int), hiD hi]
  | .least nm n => [.str wLeast, .str nm, .int (n : Int)]
  | .most nm n => [.str wMost, .str nm, .int (n : Int)]
  | .kinds n => [.str wKinds, .int (n : Int)]
  | .run n => [.str wRun, .int (n : Int)]
  | .row n => [.str wRow, .int (n : Int)]
  | .not s => [.str wNot, .str s]
  | .first nm => [.str wFirst, .str nm]
  | .last nm => [.str wLast, .str nm]
def Ru.ok (cls : List (List (List Nat))) : Ru → Prop
  | .size lo hi => lo ≤ 3 ∧ ∀ n, hi = some n → lo ≤ n ∧ n ≤ lo + 3
  | .least nm n => nm ∈ nmOf cls ∧ 1 ≤ n ∧ n ≤ 3
  | .most nm n => nm ∈ nmOf cls ∧ 1 ≤ n ∧ n ≤ 3
  | .kinds n => 1 ≤ n ∧ n ≤ 3 ∧ n ≤ cls.length
  | .run n => 1 ≤ n ∧ n ≤ 3
  | .row n => 1 ≤ n ∧ n ≤ 3
  | .not s => 1 ≤ s.length ∧ s.length ≤ 3 ∧ ∀ c ∈ s, c ∈ sgOf cls
  | .first nm => nm ∈ nmOf cls
  | .last nm => nm ∈ nmOf cls
theorem Ru.below (r : Ru) (n : Nat) : Mi.below n (.tup r.ds) = true := by
  cases r with
  | size lo hi => cases hi <;> rfl
  | _ => rfl
theorem rng_map (n : Nat) : (List.range ((n : Nat) : Int).toNat).map (fun (k : Nat) => D.int (0 + (k : Int))) = (List.range n).map fun (k : Nat) => D.int (0 + (k : Int)) := by simp
/-- picking signs, many times -/
theorem x_signs {k : Nat} {n : Nat} (ns : List Int) (sg : List Nat) (s0 : 0 < sg.length) (s1 : sg.length ≤ 1000) {σ : Sl} {Y : PX} {hh : Hm} : ∀ (xs : List D) (acc : List (List Nat)) (h : Hm) (Q : List D → Hm → Prop), Tw h n → (∀ x σ1, bindT false [10] (wipe σ [10]) x = some σ1 → σ1[0]? = some (some (.scr ns)) ∧ σ1[1]? = some (some (.loc n)) ∧ σ1[4]? = some (some (.str sg))) →
    (∀ (cs : List (List Nat)) (h' : Hm), cs.length = xs.length → (∀ c ∈ cs, ∃ x ∈ sg, c = [x]) → Tw h' n → (h' = h ∨ ∃ a b : Int, 0 ≤ a ∧ 0 ≤ b ∧ h' = twS h n a b) → Q ((acc ++ cs).map .str) h') →
    compW false [10] σ none (wpE (Ga (k + 2)) Y (.bl true)) (wpE (Ga (k + 2)) Y (.call f_law_pick (.cons (.var 0) (.cons (.var 1) (.cons (.var 4) .nil))))) xs (acc.map .str) h Q
  | [], acc, h, Q, t, hσ, q => ⟨trivial, by simpa using q [] h rfl (fun _ h => (nomatch h)) t (.inl rfl)⟩
  | x :: xs, acc, h, Q, t, hσ, q => by
    refine ⟨trivial, _, rfl, EV.bl _ _ (.inl ⟨rfl, ?_⟩)⟩
    obtain ⟨v0, v1, v4⟩ := hσ x _ rfl
    refine we_call (.cons (EV.var v0) (.cons (EV.var v1) (.cons (EV.var v4) .nil))) ?_
    refine x_pick (k := k) t ns (.str sg) (sg.map fun c => .str [c]) (by simpa using s0) (by simp; omega) (fun h => ?_) (fun h i hi => ?_) (fun x hx n => ?_) _ _ fun i a b hi ha hb => ?_
    · simp only [biD, List.length_map]
      rw [if_pos (by unfold lim; omega)]
    · have hi : i < sg.length := by simpa using hi
      have : at_ sg (i : Int) = some sg[i] := by rw [at_nat, List.getElem?_eq_getElem hi]
      simp only [ixD, this, Option.map_some]
      rw [if_pos (by unfold lim; omega)]
      simp [List.getD, List.getElem?_eq_getElem hi]
    · obtain ⟨c, _, rfl⟩ := List.mem_map.mp hx
      rfl
    · have hi : i < sg.length := by simpa using hi
      have e : (sg.map fun c => D.str [c]).getD i .non = .str [sg[i]] := by simp [List.getD, List.getElem?_eq_getElem hi]
      rw [e]
      have := x_signs ns sg s0 s1 (σ := σ) (Y := Y) (hh := hh) (k := k) xs (acc ++ [[sg[i]]]) (twS h n a b) Q (t.set ha hb) hσ fun cs h' h1 h2 h3 h4 => by
        have z := q ([sg[i]] :: cs) h' (by simp [h1]) (fun c hc => by
          rcases List.mem_cons.mp hc with e | e
          · exact ⟨sg[i], List.getElem_mem _, e⟩
          · exact h2 c e) h3 (by
          rcases h4 with e | ⟨a', b', ha', hb', e⟩
          · exact .inr ⟨a, b, ha, hb, e⟩
          · exact .inr ⟨a', b', ha', hb', by rw [e, twS_twS]⟩)
        simpa using z
      simpa using this
end Mi.G

set_option linter.all false
set_option maxRecDepth 100000
set_option maxHeartbeats 4000000
namespace Mi.G
open Mi
/-- the heap, the town apart -/
def Tk (h : Hm) (n : Nat) (h1 : Hm) : Prop := ∃ a b : Int, 0 ≤ a ∧ 0 ≤ b ∧ h1 = twS h n a b
theorem Tk.tw {h h1 : Hm} {n : Nat} (k : Tk h n h1) (t : Tw h n) : Tw h1 n := by
  obtain ⟨a, b, ha, hb, rfl⟩ := k
  exact t.set ha hb
theorem Tk.next {h h1 : Hm} {n : Nat} (k : Tk h n h1) {a b : Int} (ha : 0 ≤ a) (hb : 0 ≤ b) : Tk h n (twS h1 n a b) := by
  obtain ⟨a', b', _, _, rfl⟩ := k
  exact ⟨a, b, ha, hb, twS_twS⟩
theorem Tk.one {h : Hm} {n : Nat} {a b : Int} (ha : 0 ≤ a) (hb : 0 ≤ b) : Tk h n (twS h n a b) := ⟨a, b, ha, hb, rfl⟩
theorem Tk.drop {h h1 : Hm} {n : Nat} (k : Tk h n h1) (t : Tw h n) {Q : PD} {d : D} (b : below h.length d = true) (q : Q d h1) : dropQ h.length Q d h1 := by
  obtain ⟨a', b', _, _, rfl⟩ := k
  exact dropQ_set t.wf rfl b q
theorem c5_facts : ∀ cls ∈ C6, clsOk cls = true ∧ 1 ≤ cls.length ∧ cls.length ≤ 3 ∧ 1 ≤ (sgOf cls).length ∧ (sgOf cls).length ≤ 5 ∧ (∀ ss ∈ cls, ss.all okS = true) ∧ ∀ ss ∈ cls, ss.length = 2 := by
  have : (C6.all fun cls => clsOk cls && decide (1 ≤ cls.length) && decide (cls.length ≤ 3) && decide (1 ≤ (sgOf cls).length) && decide ((sgOf cls).length ≤ 5) && (cls.all fun ss => ss.all okS) && cls.all fun ss => decide (ss.length = 2)) = true := by decide +kernel
  intro cls hc
  have := List.all_eq_true.mp this cls hc
  simp only [Bool.and_eq_true, decide_eq_true_eq, List.all_eq_true] at this
  obtain ⟨⟨⟨⟨⟨⟨h1, h2⟩, h3⟩, h4⟩, h5⟩, h6⟩, h7⟩ := this
  exact ⟨h1, h2, h3, h4, h5, fun ss hs => List.all_eq_true.mpr (h6 ss hs), h7⟩
theorem lim_small {n : Nat} (h : n ≤ 100) : n ≤ lim := by unfold lim; omega
theorem x_rule {k : Nat} {h : Hm} {n : Nat} (t : Tw h n) (ns : List Int) {cls : List (List (List Nat))} (hc : cls ∈ C6) (X : PX) (Q : PD) (q : ∀ (ru : Ru) (h1 : Hm), ru.ok cls → Tk h n h1 → Q (.tup ru.ds) h1) : (Ga (k + 3)).call f_law_rule [.scr ns, .loc n, clsD cls] h Q X := by
  obtain ⟨co, c1, c3, s1, s5, oS, l2⟩ := c5_facts cls hc
  show wpF (Ga (k + 2)) b_law_rule _ _ _ _
  refine ⟨rfl, ?_⟩
  unfold b_law_rule
  have fin : ∀ {ru : Ru} {h1 : Hm}, ru.ok cls → Tk h n h1 → dropQ h.length Q (.tup ru.ds) h1 := fun o kk => kk.drop t (Ru.below _ _) (q _ _ o kk)
  -- the name, the signs
  refine wr_par (wes_cons (we_ix (we_call (ds := [.scr ns, .loc n, clsD cls]) (.cons (EV.var rfl) (.cons (EV.var rfl) (.cons (EV.var rfl) .nil))) ?_)))
  refine x_pick (k := k) t ns (clsD cls) (cls.map one2) (by rw [List.length_map]; omega) (by simp; omega) (fun h => by simp [biD, clsD]) (fun h i hi => ?_) (fun x hx n => ?_) _ _ fun i a b hi ha hb => ?_
  · show at_ _ _ = _
    rw [at_nat]
    show (cls.map one2)[i]? = _
    rw [List.getElem?_eq_getElem hi]
    simp [List.getD, List.getElem?_eq_getElem hi]
  · obtain ⟨ss, _, rfl⟩ := List.mem_map.mp hx
    exact belows_str _ _
  have hi : i < cls.length := by simpa using hi
  have e1 : (cls.map one2).getD i .non = one2 cls[i] := by simp [List.getD, List.getElem?_eq_getElem hi]
  rw [e1]
  have mi : cls[i] ∈ cls := List.getElem_mem _
  refine EV.int _ _ (onS (ix_str (n := 0) (by rw [l2 _ mi]; omega)) ?_)
  have nmem : (cls[i]).getD 0 [] ∈ nmOf cls := List.mem_map.mpr ⟨_, mi, rfl⟩
  generalize (cls[i]).getD 0 [] = nm at nmem
  have k1 : Tk h n (twS h n a b) := Tk.one ha hb
  generalize twS h n a b = h1 at k1
  have jl : joinL [] (cls.map (·.getD 1 [])) = sgOf cls := joinL_nil _
  have ej : EV (Ga (k + 2)) (.bim .join (.str []) (.cons (.comp true [8, 9] (.var 2) (.bl true) (.var 9)) .nil)) (Mi.start 11 [.scr ns, .loc n, clsD cls]) h1 (.str (sgOf cls)) := by
    refine EV.bim (ds := [.lst ((cls.map (·.getD 1 [])).map .str)]) EV.str (EVs.one ?_) rfl ?_
    · rw [show ((cls.map (·.getD 1 [])).map D.str) = cls.map fun ss => .str (ss.getD 1 []) by simp]
      refine EV.comp one2 _ (EI.of (EV.var rfl) rfl) trivial (by unfold lim; omega) fun ss hm => ?_
      obtain ⟨x, y, rfl⟩ := two_of (l2 ss hm)
      exact ⟨_, rfl, EV.var rfl⟩
    · simp only [biD, seqOf, lstOf, Option.bind_some, allStr_map, jl]
      rw [if_pos ⟨by unfold lim; omega, by simp⟩]
  refine wes_cons (ej _ _ (wes_nil ?_))
  show wpSs (Ga (k + 2)) _ _ [some (.scr ns), some (.loc n), some (clsD cls), some (.str nm), some (.str (sgOf cls)), none, none, none, none, none, none] h1 _
  -- what, the number
  refine wr_par (wes_cons (we_call (ds := [.scr ns, .loc n, .int 10]) (.cons (EV.var rfl) (.cons (EV.var rfl) (.cons EV.int .nil))) ?_))
  refine x_draw (k := k + 1) (k1.tw t) ns 10 (by omega) (by omega) _ _ fun wh a b w0 w1 ha hb => ?_
  replace k1 := k1.next ha hb
  generalize twS h1 n a b = h2 at k1
  refine wes_cons (we_op (EV.int _ _ (we_call (ds := [.scr ns, .loc n, .int 3]) (.cons (EV.var rfl) (.cons (EV.var rfl) (.cons EV.int .nil))) ?_)))
  refine x_draw (k := k + 1) (k1.tw t) ns 3 (by omega) (by omega) _ _ fun nu a b n0 n1 ha hb => ?_
  replace k1 := k1.next ha hb
  generalize twS h2 n a b = h3 at k1
  obtain ⟨nu, rfl⟩ := Int.eq_ofNat_of_zero_le n0
  refine onS rfl (wes_nil ?_)
  have en : (1 + (nu : Int)) = ((nu + 1 : Nat) : Int) := by omega
  rw [en]
  have nu3 : nu + 1 ≤ 3 := by omega
  have nu1 : 1 ≤ nu + 1 := by omega
  generalize nu + 1 = num at nu3 nu1
  show wpSs (Ga (k + 2)) _ _ [some (.scr ns), some (.loc n), some (clsD cls), some (.str nm), some (.str (sgOf cls)), some (.int wh), some (.int (num : Int)), none, none, none, none] h3 _
  refine ws_if (EV.cmp (EV.var rfl) EV.int rfl) (fun z => ?_) fun z1 => ?_
  · -- size
    refine wr_set (we_call (ds := [.scr ns, .loc n, .int 4]) (.cons (EV.var rfl) (.cons (EV.var rfl) (.cons EV.int .nil))) ?_)
    refine x_draw (k := k + 1) (k1.tw t) ns 4 (by omega) (by omega) _ _ fun lo a b l0 l1 ha hb => ?_
    replace k1 := k1.next ha hb
    generalize twS h3 n a b = h4 at k1
    obtain ⟨lo, rfl⟩ := Int.eq_ofNat_of_zero_le l0
    refine wr_ret (we_tup (wes_cons (EV.str _ _ (wes_cons (EV.var rfl _ _ (wes_cons ?_))))))
    refine we_call (ds := [.scr ns, .loc n, .lst [.non, .int ((lo : Int) + (num : Int)), .int ((lo : Int) + 1), .int (lo : Int)]]) (.cons (EV.var rfl) (.cons (EV.var rfl) (.cons (EV.lst ?_ (by simp [lim])) .nil))) ?_
    · exact .cons EV.non (.cons (EV.op (EV.var rfl) (EV.var rfl) rfl) (.cons (EV.op (EV.var rfl) EV.int rfl) (.cons (EV.var rfl) .nil)))
    refine x_pick (k := k) (k1.tw t) ns _ [hiD none, hiD (some (lo + num)), hiD (some (lo + 1)), hiD (some lo)] (by simp) (by simp) (fun h => rfl) (fun h i hi => ?_) (fun x hx n => ?_) _ _ fun i a b hi ha hb => ?_
    · match i, hi with
      | 0, _ => rfl
      | 1, _ => show some _ = some (D.int ((lo + num : Nat) : Int)); rw [Int.natCast_add]
      | 2, _ => rfl
      | 3, _ => rfl
    · simp only [List.mem_cons, List.not_mem_nil, or_false] at hx
      rcases hx with rfl | rfl | rfl | rfl <;> rfl
    · replace k1 := k1.next ha hb
      have okh : ∃ o : Option Nat, [hiD none, hiD (some (lo + num)), hiD (some (lo + 1)), hiD (some lo)].getD i .non = hiD o ∧ ∀ m, o = some m → lo ≤ m ∧ m ≤ lo + 3 := by
        match i, hi with
        | 0, _ => exact ⟨none, rfl, fun m e => nomatch e⟩
        | 1, _ => exact ⟨some (lo + num), rfl, fun m e => by cases e; omega⟩
        | 2, _ => exact ⟨some (lo + 1), rfl, fun m e => by cases e; omega⟩
        | 3, _ => exact ⟨some lo, rfl, fun m e => by cases e; omega⟩
      obtain ⟨o, eo, ho⟩ := okh
      rw [eo]
      exact wes_nil ⟨by simp [lim], fin (ru := .size lo o) ⟨by omega, ho⟩ k1⟩
  have w2 : ¬ wh < 2 := of_decide_eq_false z1
  refine ws_if (EV.cmp (EV.var rfl) EV.int rfl) (fun z => ?_) fun z2 => ?_
  · have w4 : wh < 4 := of_decide_eq_true z
    rcases (by omega : wh = 2 ∨ wh = 3) with e | e <;> subst e
    · exact ws_ret (EV.tup (ds := (Ru.least nm num).ds) (.cons (EV.ix (EV.lst (.cons EV.str (.cons EV.str .nil)) (by simp [lim])) (EV.op (EV.var rfl) EV.int rfl) rfl) (.cons (EV.var rfl) (.cons (EV.var rfl) .nil))) (by simp [Ru.ds, lim])) (fin (ru := .least nm num) ⟨nmem, nu1, nu3⟩ k1)
    · exact ws_ret (EV.tup (ds := (Ru.most nm num).ds) (.cons (EV.ix (EV.lst (.cons EV.str (.cons EV.str .nil)) (by simp [lim])) (EV.op (EV.var rfl) EV.int rfl) rfl) (.cons (EV.var rfl) (.cons (EV.var rfl) .nil))) (by simp [Ru.ds, lim])) (fin (ru := .most nm num) ⟨nmem, nu1, nu3⟩ k1)
  have w4 : ¬ wh < 4 := of_decide_eq_false z2
  refine ws_if (EV.cmp (EV.var rfl) EV.int rfl) (fun z => ?_) fun z3 => ?_
  · have w7 : wh < 7 := of_decide_eq_true z
    rcases (by omega : wh = 4 ∨ wh = 5 ∨ wh = 6) with e | e | e <;> subst e
    · refine ws_ret (EV.tup (ds := (Ru.kinds (min num cls.length)).ds) (.cons (EV.ix (EV.lst (.cons EV.str (.cons EV.str (.cons EV.str .nil))) (by simp [lim])) (EV.op (EV.var rfl) EV.int rfl) rfl) (.cons (EV.ite (x := false) (EV.cmp (EV.var rfl) EV.int rfl) (fun z => nomatch z) fun _ => EV.bi (.cons (EV.var rfl) (.cons (EV.bi (EVs.one (EV.var rfl)) (d := .int (cls.length : Int)) (by simp [biD, clsD])) .nil)) ?_) .nil)) (by simp [Ru.ds, lim])) (fin (ru := .kinds (min num cls.length)) ⟨by omega, by omega, by omega⟩ k1)
      simp only [biD]
      by_cases l : (cls.length : Int) < (num : Int)
      · rw [if_pos l, show min num cls.length = cls.length by omega]
      · rw [if_neg l, show min num cls.length = num by omega]
    · exact ws_ret (EV.tup (ds := (Ru.run num).ds) (.cons (EV.ix (EV.lst (.cons EV.str (.cons EV.str (.cons EV.str .nil))) (by simp [lim])) (EV.op (EV.var rfl) EV.int rfl) rfl) (.cons (EV.ite (x := true) (EV.cmp (EV.var rfl) EV.int rfl) (fun _ => EV.var rfl) fun z => nomatch z) .nil)) (by simp [Ru.ds, lim])) (fin (ru := .run num) ⟨nu1, nu3⟩ k1)
    · exact ws_ret (EV.tup (ds := (Ru.row num).ds) (.cons (EV.ix (EV.lst (.cons EV.str (.cons EV.str (.cons EV.str .nil))) (by simp [lim])) (EV.op (EV.var rfl) EV.int rfl) rfl) (.cons (EV.ite (x := true) (EV.cmp (EV.var rfl) EV.int rfl) (fun _ => EV.var rfl) fun z => nomatch z) .nil)) (by simp [Ru.ds, lim])) (fin (ru := .row num) ⟨nu1, nu3⟩ k1)
  have w7 : ¬ wh < 7 := of_decide_eq_false z3
  refine ws_if (EV.cmp (EV.var rfl) EV.int eq_int) (fun z => ?_) fun z4 => ?_
  · -- not
    refine wr_ret (we_tup (wes_cons (EV.str _ _ (wes_cons ?_))))
    simp only [wpE, wpEs, wpI]
    refine ⟨rfl, _, rfl, (num : Int), rfl, by omega, by omega, by simp [lim]; omega, ?_⟩
    rw [rng_map]
    refine x_signs (k := k) ns (sgOf cls) (by omega) (by omega) (hh := h) _ [] h3 _ (k1.tw t) (fun x σ1 e => by cases e; exact ⟨rfl, rfl, rfl⟩) fun cs h' hl hcs t' hh => ?_
    have k2 : Tk h n h' := by
      rcases hh with rfl | ⟨a, b, ha, hb, rfl⟩
      · exact k1
      · exact k1.next ha hb
    have hl : cs.length = num := by simpa using hl
    have jl2 : joinL [] cs = cs.flatten := joinL_nil _
    have fl : cs.flatten.length = num := by
      rw [← hl, List.length_flatten]
      have : cs.map List.length = List.replicate cs.length 1 := by
        apply List.ext_getElem
        · simp
        · intro j h1 h2
          simp only [List.getElem_map, List.getElem_replicate]
          obtain ⟨x, _, e⟩ := hcs _ (List.getElem_mem (by simpa using h1))
          rw [e]; rfl
      rw [this]; simp
    refine ⟨(.str cs.flatten, h'), ?_, ⟨by simp [lim], fin (ru := .not cs.flatten) ⟨by omega, by omega, fun c hm => ?_⟩ k2⟩⟩
    · simp only [List.nil_append, biD, seqOf, lstOf, Option.bind_some, allStr_map, jl2]
      rw [if_pos ⟨by unfold lim; omega, by simp⟩]
    · obtain ⟨l, hl', hcl⟩ := List.mem_flatten.mp hm
      obtain ⟨x, hx, e⟩ := hcs l hl'
      rw [e] at hcl
      rw [List.mem_singleton.mp hcl]
      exact hx
  have w8 : ¬ wh = 7 := of_decide_eq_false z4
  rcases (by omega : wh = 8 ∨ wh = 9) with e | e <;> subst e
  · exact ws_ret (EV.tup (ds := (Ru.first nm).ds) (.cons (EV.ix (EV.lst (.cons EV.str (.cons EV.str .nil)) (by simp [lim])) (EV.op (EV.var rfl) EV.int rfl) rfl) (.cons (EV.var rfl) .nil)) (by simp [Ru.ds, lim])) (fin (ru := .first nm) nmem k1)
  · exact ws_ret (EV.tup (ds := (Ru.last nm).ds) (.cons (EV.ix (EV.lst (.cons EV.str (.cons EV.str .nil)) (by simp [lim])) (EV.op (EV.var rfl) EV.int rfl) rfl) (.cons (EV.var rfl) .nil)) (by simp [Ru.ds, lim])) (fin (ru := .last nm) nmem k1)
end Mi.G

set_option linter.all false
set_option maxRecDepth 100000
set_option maxHeartbeats 4000000
namespace Mi.G
open Mi
mutual
theorem eqD_comm : ∀ a b : D, eqD a b = eqD b a
  | .non, b => by cases b <;> simp [eqD]
  | .bl x, b => by cases b <;> simp only [eqD] <;> exact BEq.comm
  | .int x, b => by cases b <;> simp only [eqD] <;> exact BEq.comm
  | .str x, b => by cases b <;> simp only [eqD] <;> exact BEq.comm
  | .tup x, b => by cases b <;> simp [eqD]; exact eqDs_comm _ _
  | .lst x, b => by cases b <;> simp [eqD]; exact eqDs_comm _ _
  | .loc x, b => by cases b <;> simp [eqD]
  | .fn x, b => by cases b <;> simp [eqD]
  | .scr x, b => by cases b <;> simp [eqD]
theorem eqDs_comm : ∀ a b : List D, eqDs a b = eqDs b a
  | [], [] => rfl
  | [], _ :: _ => by simp [eqDs]
  | _ :: _, [] => by simp [eqDs]
  | x :: a, y :: b => by simp only [eqDs]; rw [eqD_comm x y, eqDs_comm a b]
end
abbrev Dist (xs : List D) : Prop := xs.Pairwise fun a b => eqD b a = false
theorem dedup_dist : ∀ {xs : List D}, Dist xs → dedup xs = xs
  | [], _ => rfl
  | x :: r, h => by
    have h' := List.pairwise_cons.mp h
    unfold dedup
    rw [dedup_dist h'.2]
    have : (r.any fun z => eqD z x) = false := by
      rw [List.any_eq_false]
      intro z hz
      rw [h'.1 z hz]
      exact Bool.false_ne_true
    simp only [this]
    rfl
theorem dist_app {xs : List D} {x : D} (h : Dist xs) (n : (xs.any fun z => eqD z x) = false) : Dist (xs ++ [x]) := by
  refine List.pairwise_append.mpr ⟨h, List.pairwise_singleton _ _, fun a ha b hb => ?_⟩
  rw [List.mem_singleton.mp hb, eqD_comm]
  have := List.any_eq_false.mp n a ha
  simpa using this
theorem nm_mem {cls : List (List (List Nat))} {nm : List Nat} (h : nm ∈ nmOf cls) : isName (.str nm) (nmOf cls) = true := by
  simp only [isName, List.any_eq_true, beq_iff_eq]
  exact ⟨nm, h, rfl⟩
theorem ru_rule {cls : List (List (List Nat))} (ru : Ru) (h : ru.ok cls) : ruleB (nmOf cls) (sgOf cls) ru.ds = true := by
  cases ru with
  | size lo hi =>
    obtain ⟨h1, h2⟩ := h
    cases hi with
    | none => simp [Ru.ds, ruleB_str, hiD, isCount, isNon]; omega
    | some m =>
      have := h2 m rfl
      simp [Ru.ds, ruleB_str, hiD, isCount, isNon, loOf]; omega
  | least nm n => obtain ⟨h1, h2, h3⟩ := h; simp [Ru.ds, ruleB_str, isCount, nm_mem h1]; omega
  | most nm n => obtain ⟨h1, h2, h3⟩ := h; simp [Ru.ds, ruleB_str, isCount, nm_mem h1]; omega
  | kinds n => obtain ⟨h1, h2, h3⟩ := h; simp [Ru.ds, ruleB_str, isCount]; omega
  | run n => obtain ⟨h1, h2⟩ := h; simp [Ru.ds, ruleB_str, isCount]; omega
  | row n => obtain ⟨h1, h2⟩ := h; simp [Ru.ds, ruleB_str, isCount]; omega
  | not s =>
    obtain ⟨h1, h2, h3⟩ := h
    have : s.all (hasC (sgOf cls)) = true := List.all_eq_true.mpr fun c hc => hasC_iff.mpr (h3 c hc)
    simp [Ru.ds, ruleB_str, isOver, this]; omega
  | first nm => simp [Ru.ds, ruleB_str, nm_mem h]
  | last nm => simp [Ru.ds, ruleB_str, nm_mem h]
theorem ru_atoms {cls : List (List (List Nat))} (hc : cls ∈ C6) (ru : Ru) (h : ru.ok cls) : ru.ds.all atomV = true := by
  obtain ⟨co, c1, c3, s1, s5, oS, l2⟩ := c5_facts cls hc
  have nmS : ∀ nm ∈ nmOf cls, okS nm = true := fun nm h => List.all_eq_true.mp (nm_okS oS) nm h
  have sgS := sg_okS co
  have w : okS wSize = true ∧ okS wLeast = true ∧ okS wMost = true ∧ okS wKinds = true ∧ okS wRun = true ∧ okS wRow = true ∧ okS wNot = true ∧ okS wFirst = true ∧ okS wLast = true := by decide
  obtain ⟨w1, w2, w3, w4, w5, w6, w7, w8, w9⟩ := w
  cases ru with
  | size lo hi =>
    obtain ⟨h1, h2⟩ := h
    cases hi with
    | none => simp [Ru.ds, hiD, atomV, w1]; omega
    | some m => have := h2 m rfl; simp [Ru.ds, hiD, atomV, w1]; omega
  | least nm n => obtain ⟨h1, h2, h3⟩ := h; simp [Ru.ds, atomV, w2, nmS nm h1]; omega
  | most nm n => obtain ⟨h1, h2, h3⟩ := h; simp [Ru.ds, atomV, w3, nmS nm h1]; omega
  | kinds n => obtain ⟨h1, h2, h3⟩ := h; simp [Ru.ds, atomV, w4]; omega
  | run n => obtain ⟨h1, h2⟩ := h; simp [Ru.ds, atomV, w5]; omega
  | row n => obtain ⟨h1, h2⟩ := h; simp [Ru.ds, atomV, w6]; omega
  | not s =>
    obtain ⟨h1, h2, h3⟩ := h
    have : okS s = true := by
      simp only [okS, Bool.and_eq_true, decide_eq_true_eq, List.all_eq_true] at sgS ⊢
      exact ⟨by unfold lim; omega, fun c hc => sgS.2 c (h3 c hc)⟩
    simp [Ru.ds, atomV, w7, this]
  | first nm => simp [Ru.ds, atomV, w8, nmS nm h]
  | last nm => simp [Ru.ds, atomV, w9, nmS nm h]
theorem atom_flat {v : D} (h : atomV v = true) (n : Nat) : flat n v = true := by
  cases v with
  | str s => exact okS_flat h n
  | int i => cases n <;> rfl
  | non => cases n <;> rfl
  | _ => simp [atomV] at h
theorem tup_flat {ds : List D} (h : ds.all atomV = true) (n : Nat) : flat (n + 1) (.tup ds) = true := by
  show flats n ds = true
  rw [flats_all, List.all_eq_true]
  exact fun v hv => atom_flat (List.all_eq_true.mp h v hv) n
theorem tw_app {h : Hm} {n : Nat} {o : MO} (t : Tw h n) (ho : belowO (h.length + 1) o = true) : Tw (h ++ [o]) n := by
  obtain ⟨a, b, e, ha, hb⟩ := t.at_
  exact ⟨wf_app t.wf ho, a, b, by rw [List.getElem?_append_left t.lt]; exact e, ha, hb⟩
theorem twS_app {h t : Hm} {n : Nat} {a b : Int} (l : n < h.length) : twS (h ++ t) n a b = twS h n a b ++ t := by
  unfold twS; rw [List.set_append_left _ _ l]
theorem tk_app {h h' : Hm} {t : Hm} {n : Nat} (l : n < h.length) (k : Tk (h ++ t) n h') : ∃ h1, Tk h n h1 ∧ h' = h1 ++ t := by
  obtain ⟨a, b, ha, hb, rfl⟩ := k
  exact ⟨twS h n a b, ⟨a, b, ha, hb, rfl⟩, twS_app l⟩
theorem Tk.len {h h1 : Hm} {n : Nat} (k : Tk h n h1) : h1.length = h.length := by
  obtain ⟨a, b, _, _, rfl⟩ := k
  simp [twS]
theorem Tk.trans {h h1 h2 : Hm} {n : Nat} (k : Tk h n h1) (k2 : Tk h1 n h2) : Tk h n h2 := by
  obtain ⟨a, b, ha, hb, rfl⟩ := k2
  exact k.next ha hb
/-- what a drawn policy is -/
structure Drawn (cls : List (List (List Nat))) (rus : List Ru) : Prop where
  c5 : cls ∈ C6
  ok : ∀ r ∈ rus, r.ok cls
  dist : Dist (rus.map fun r => .tup r.ds)
theorem Drawn.pol {cls : List (List (List Nat))} {rus : List Ru} (d : Drawn cls rus) (l : rus.length ≤ 6) : polOk cls (rus.map Ru.ds) = true := by
  obtain ⟨co, _⟩ := c5_facts cls d.c5
  have e1 : ((rus.map Ru.ds).all (ruleB (nmOf cls) (sgOf cls))) = true := by
    rw [List.all_map, List.all_eq_true]
    exact fun r hr => ru_rule r (d.ok r hr)
  have e2 : ((rus.map Ru.ds).map D.tup) = rus.map fun r => .tup r.ds := by rw [List.map_map]; rfl
  unfold polOk
  rw [co, e1, e2, dedup_dist d.dist]
  simp [l]
theorem rules_below (rus : List Ru) (n : Nat) : belows n (rus.map fun r => .tup r.ds) = true := by
  rw [belows_all, List.all_map, List.all_eq_true]
  exact fun r _ => Ru.below r n
theorem pol_loop {k : Nat} {n : Nat} (ns : List Int) {cls : List (List (List Nat))} {h : Hm} (t : Tw h n) {X : PX} {K : Ks} (m : D) : ∀ (xs : List D) (rus : List Ru) (h1 : Hm) (a b : Option D), Drawn cls rus → Tk h n h1 → rus.length + xs.length ≤ 1000 →
    (∀ rus' h2 a b, Drawn cls rus' → rus'.length ≤ rus.length + xs.length → Tk h n h2 → K.nx [some (.scr ns), some (.loc n), some (clsD cls), some m, some (.loc h.length), a, b] (h2 ++ [.lst (rus'.map fun r => .tup r.ds)])) →
    forW false [5] none (wpSs (Ga (k + 3)) X (.cons (.set 6 (.call f_law_rule (.cons (.var 0) (.cons (.var 1) (.cons (.var 2) .nil)))))
   (.cons (.ite (.cmp .notin (.var 6) (.var 4)) (.cons (.ex (.bim .append (.var 4) (.cons (.var 6) .nil)))
    .nil) .nil)
   .nil))) K xs [some (.scr ns), some (.loc n), some (clsD cls), some m, some (.loc h.length), a, b] (h1 ++ [.lst (rus.map fun r => .tup r.ds)])
  | [], rus, h1, a, b, d, k1, l, q => ⟨trivial, q rus h1 a b d (by simp) k1⟩
  | x :: xs, rus, h1, a, b, d, k1, l, q => by
    simp only [List.length_cons] at l
    refine ⟨trivial, _, rfl, ?_⟩
    have t1 := tw_app (o := .lst (rus.map fun r => .tup r.ds)) (k1.tw t) (by simp only [belowO]; exact rules_below rus _)
    have lt1 : n < h1.length := by rw [k1.len]; exact t.lt
    refine wr_set (we_call (ds := [.scr ns, .loc n, clsD cls]) (.cons (EV.var rfl) (.cons (EV.var rfl) (.cons (EV.var rfl) .nil))) ?_)
    refine x_rule (k := k) t1 ns d.c5 _ _ fun ru h2 ok k2 => ?_
    obtain ⟨h3, k3, rfl⟩ := tk_app lt1 k2
    have k4 := k1.trans k3
    have hl : h.length = h3.length := k4.len.symm
    have hg : (h3 ++ [MO.lst (rus.map fun r => .tup r.ds)])[h.length]? = some (.lst (rus.map fun r => .tup r.ds)) := by rw [hl]; simp
    have fl : flats 20 (rus.map fun r => D.tup r.ds) = true := by
      rw [flats_all, List.all_map, List.all_eq_true]
      exact fun r hr => tup_flat (ru_atoms d.c5 r (d.ok r hr)) 19
    have inn : cmB (h3 ++ [MO.lst (rus.map fun r => .tup r.ds)]) .notin (.tup ru.ds) (.loc h.length) = some (!((rus.map fun r => D.tup r.ds).any fun z => eqD z (.tup ru.ds))) := by
      simp only [cmB, inD, hg, tup_flat (ru_atoms d.c5 ru ok) 19, fl, Bool.and_self, if_true, Option.map_some]
    refine ws_ite (EV.cmp (EV.var rfl) (EV.var rfl) inn) (fun z => ?_) fun z => ?_
    · have z : ((rus.map fun r => D.tup r.ds).any fun z => eqD z (.tup ru.ds)) = false := by simpa using z
      refine ws_app (n := h.length) rfl hg (EV.var rfl) (by simp [lim]; omega) ?_
      have e : (h3 ++ [MO.lst (rus.map fun r => .tup r.ds)]).set h.length (.lst ((rus.map fun r => .tup r.ds) ++ [.tup ru.ds])) = h3 ++ [.lst ((rus ++ [ru]).map fun r => .tup r.ds)] := by rw [hl]; simp
      rw [e]
      refine ws_nil ?_
      refine ws_nil (Γ := Ga (k + 3)) (X := X) ?_
      refine pol_loop ns t m xs (rus ++ [ru]) h3 _ _ ⟨d.c5, fun r hr => ?_, ?_⟩ k4 (by simp; omega) fun rus' h2 a b d' l' k' => q rus' h2 a b d' (by simp at l' ⊢; omega) k'
      · rcases List.mem_append.mp hr with q | q
        · exact d.ok r q
        · rw [List.mem_singleton.mp q]; exact ok
      · rw [List.map_append]
        exact dist_app d.dist z
    · refine ws_nil ?_
      refine ws_nil (Γ := Ga (k + 3)) (X := X) ?_
      exact pol_loop ns t m xs rus h3 _ _ d k4 (by omega) fun rus' h2 a b d' l' k' => q rus' h2 a b d' (by simp; omega) k'
theorem x_policy {k : Nat} {h : Hm} {n : Nat} (t : Tw h n) (ns : List Int) {cls : List (List (List Nat))} (hc : cls ∈ C6) (most : Nat) (hm : most ≤ 6) (X : PX) (Q : PD) (q : ∀ (rus : List Ru) (h1 : Hm), Drawn cls rus → rus.length ≤ most → Tk h n h1 → Q (polD cls (rus.map Ru.ds)) h1) : (Ga (k + 4)).call f_law_policy [.scr ns, .loc n, clsD cls, .int (most : Int)] h Q X := by
  show wpF (Ga (k + 3)) b_law_policy _ _ _ _
  refine ⟨rfl, ?_⟩
  unfold b_law_policy
  refine ws_mk (ds := []) (EV.lst .nil (by simp [lim])) ?_
  show wpSs (Ga (k + 3)) _ _ [some (.scr ns), some (.loc n), some (clsD cls), some (.int (most : Int)), some (.loc h.length), none, none] (h ++ [.lst []]) _
  have t1 := tw_app (o := .lst []) t rfl
  simp only [wpSs, wpS, wpI]
  refine we_call (ds := [.scr ns, .loc n, .int ((most : Int) + 1)]) (.cons (EV.var rfl) (.cons (EV.var rfl) (.cons (EV.op (EV.var rfl) EV.int rfl) .nil))) ?_
  refine x_draw (k := k + 2) t1 ns _ (by omega) (by omega) _ _ fun r a b r0 r1 ha hb => ?_
  obtain ⟨r, rfl⟩ := Int.eq_ofNat_of_zero_le r0
  rw [twS_app t.lt]
  refine ⟨(r : Int), rfl, by omega, by omega, ?_⟩
  rw [rng_map]
  refine pol_loop (k := k) ns t _ _ [] (twS h n a b) _ _ ⟨hc, fun r hr => (nomatch hr), List.Pairwise.nil⟩ (Tk.one ha hb) (by simp; omega) fun rus' h2 a b d l k2 => ?_
  have l' : rus'.length ≤ most := by simp at l; omega
  have hg : (h2 ++ [MO.lst (rus'.map fun r => .tup r.ds)])[h.length]? = some (.lst (rus'.map fun r => .tup r.ds)) := by rw [← k2.len]; simp
  have e2 : ((rus'.map Ru.ds).map D.tup) = rus'.map fun r => .tup r.ds := by rw [List.map_map]; rfl
  have RT : wpSs (Ga (k + 3)) (dropX h.length X) (.cons (.ret (.tup (.cons (.var 2) (.cons (.bi .tuple (.cons (.var 4) .nil)) .nil)))) .nil) [some (.scr ns), some (.loc n), some (clsD cls), some (.int (most : Int)), some (.loc h.length), a, b] (h2 ++ [MO.lst (rus'.map fun r => .tup r.ds)]) { nx := fun _ h' => dropQ h.length Q .non h', rt := dropQ h.length Q, bk := fun _ _ => False, ct := fun _ _ => False } := by
    refine ws_ret (d := polD cls (rus'.map Ru.ds)) (EV.tup (.cons (EV.var rfl) (.cons (EV.bi (EVs.one (EV.var rfl)) ?_) .nil)) (by simp [lim])) ?_
    · simp only [biD, seqOf, lstOf, hg, Option.map_some, e2]
    · show dropQ h.length Q _ _
      have hl := k2.len
      rw [← hl]
      refine dropQ_app (k2.tw t).wf ?_ (q rus' h2 d l' k2)
      exact polD_below (fun r hr => by
        obtain ⟨ru, h1, rfl⟩ := List.mem_map.mp hr
        exact ru_atoms hc ru (d.ok ru h1)) _
  simpa only [wpSs, wpS] using RT
end Mi.G

set_option linter.all false
set_option maxRecDepth 100000
set_option maxHeartbeats 4000000
namespace Mi.G
open Mi
/-! ## Machine.moved -/
inductive Sx where
  | n (k : Nat)
  | ks (l : List (List Nat))
  | rn (s : List Nat) (k : Nat)
  | tx (s : List Nat)
  deriving DecidableEq
def Sx.D : Sx → D
  | .n k => .int (k : Int)
  | .ks l => .tup (l.map .str)
  | .rn s k => .tup [.str s, .int (k : Int)]
  | .tx s => .str s
def oD : Option Sx → D
  | none => .non
  | some s => s.D
def cntN (many most : Nat) (b : Bool) : Option Sx := if many ≤ most then some (.n many) else if b = true then none else some (.n most)
def sufP (w : List Nat) : List Nat → List Nat
  | [] => []
  | c :: e => if (c :: e).isPrefixOf w = true then c :: e else sufP w e
def mv (cls : List (List (List Nat))) (ru : Ru) (sx : Sx) (c : Nat) : Option Sx := match ru, sx with
  | .size lo hi, .n k => cntN (k + 1) (hi.getD lo) hi.isSome
  | .least nm m, .n k => cntN (k + if nameOf cls c = nm then 1 else 0) m false
  | .most nm m, .n k => cntN (k + if nameOf cls c = nm then 1 else 0) m true
  | .kinds _, .ks l => if (l.any (· == nameOf cls c)) = true then some (.ks l) else some (.ks (sortS (l ++ [nameOf cls c])))
  | .run m, .rn s k => if (if s = [c] then k + 1 else 1) ≤ m then some (.rn [c] (if s = [c] then k + 1 else 1)) else none
  | .row m, .rn s k => if (if s ≠ [] ∧ folOf cls (s.headD 0) = some c then k + 1 else 1) ≤ m then some (.rn [c] (if s ≠ [] ∧ folOf cls (s.headD 0) = some c then k + 1 else 1)) else none
  | .not w, .tx e => if w.isSuffixOf (e ++ [c]) = true then none else some (.tx (sufP w (e ++ [c])))
  | .first nm, .tx e => if e ≠ [] then some (.tx e) else if nameOf cls c = nm then some (.tx (nameOf cls c)) else none
  | .last _, .tx _ => some (.tx (nameOf cls c))
  | _, _ => none
structure MH (h : Hm) (mo : Nat) (cls : List (List (List Nat))) (rules : List (List D)) (kvs : List (D × D)) : Prop where
  wf : WFb h = true
  o : h[mo]? = some (.ins 0 (mFs cls rules mo))
  n : h[mo + 1]? = some (.sd (nmK cls))
  f : h[mo + 2]? = some (.sd (foK cls))
  k : h[mo + 3]? = some (.kd kvs)
theorem mcl {k m : Nat} : (Ga k).mcls m = (tm.cof.getD m none).getD 0 := by cases k <;> rfl
theorem p_counted {k : Nat} {h : Hm} (w : WFb h = true) (mo : Nat) (hm : mo < h.length) (many most : Nat) (b : Bool) : PV (Ga (k + 1)) f_Machine_counted [.loc mo, .int (many : Int), .int (most : Int), .bl b] h (oD (cntN many most b)) := by
  have bl : below h.length (oD (cntN many most b)) = true := by unfold cntN; split <;> (try split) <;> rfl
  refine pv_def (df := b_Machine_counted) rfl rfl w bl fun X K q => ?_
  unfold b_Machine_counted
  refine ws_if (EV.cmp (EV.var rfl) (EV.var rfl) rfl) (fun z => ?_) fun z => ?_
  · have z : (many : Int) ≤ most := of_decide_eq_true z
    unfold cntN at q
    rw [if_pos (by omega)] at q
    exact ws_ret (EV.var rfl) q
  · have z : ¬ (many : Int) ≤ most := of_decide_eq_false z
    unfold cntN at q
    rw [if_neg (by omega)] at q
    refine ws_ret (EV.ite (EV.tru (EV.var rfl) (b := b) rfl) (fun y => ?_) fun y => ?_) q
    · rw [if_pos y]; exact EV.non
    · rw [if_neg (by rw [y]; exact Bool.false_ne_true)]; exact EV.var rfl
theorem unm_loop {k : Nat} {h : Hm} {X : PX} {K : Ks} (s0 : Option D) (w : List Nat) : ∀ (e : List Nat), e.length ≤ lim → K.nx [s0, some (.str w), some (.str (sufP w e))] h →
    ∃ n, whlW (wpE (Ga k) X (.not (.bim .startswith (.var 1) (.cons (.var 2) .nil)))) (wpSs (Ga k) X (.cons (.set 2 (.sl (.var 2) (.int 1) .non)) .nil)) K n [s0, some (.str w), some (.str e)] h
  | [], l, q => by
    refine ⟨1, ?_⟩
    unfold whlW
    have t : EV (Ga k) (.not (.bim .startswith (.var 1) (.cons (.var 2) .nil))) [s0, some (.str w), some (.str [])] h (.bl false) := EV.not (x := true) (EV.bim (EV.var rfl) (EVs.one (EV.var rfl)) rfl (by simp [biD]))
    exact t _ _ (.inr ⟨rfl, q⟩)
  | c :: e, l, q => by
    have t : EV (Ga k) (.not (.bim .startswith (.var 1) (.cons (.var 2) .nil))) [s0, some (.str w), some (.str (c :: e))] h (.bl !((c :: e).isPrefixOf w)) := EV.not (EV.bim (EV.var rfl) (EVs.one (EV.var rfl)) rfl rfl)
    unfold sufP at q
    cases z : (c :: e).isPrefixOf w with
    | true =>
      rw [z, if_pos rfl] at q
      rw [z] at t
      exact ⟨1, t _ _ (.inr ⟨rfl, q⟩)⟩
    | false =>
      rw [z, if_neg Bool.false_ne_true] at q
      rw [z] at t
      simp only [List.length_cons] at l
      obtain ⟨n, hn⟩ := unm_loop s0 w e (by omega) q
      refine ⟨n + 1, t _ _ (.inl ⟨rfl, ?_⟩)⟩
      refine ws_set (EV.sl (EV.var rfl) EV.int EV.non rfl rfl (d := .str e) ?_) (ws_nil hn)
      show (if (c :: e).length ≤ lim then some (D.str (cut (c :: e) (some 1) none)) else none) = _
      rw [if_pos (by simpa using l), cut_drop]
      rfl
theorem p_unmatched {k : Nat} {h : Hm} (wf : WFb h = true) (mo : Nat) (w e : List Nat) (l : e.length ≤ lim) : PV (Ga (k + 1)) f_Machine_unmatched [.loc mo, .str w, .str e] h (oD (if w.isSuffixOf e = true then none else some (.tx (sufP w e)))) := by
  have bl : below h.length (oD (if w.isSuffixOf e = true then none else some (.tx (sufP w e)))) = true := by split <;> rfl
  refine pv_def (df := b_Machine_unmatched) rfl rfl wf bl fun X K q => ?_
  unfold b_Machine_unmatched
  refine ws_if (EV.bim (EV.var rfl) (EVs.one (EV.var rfl)) rfl (d := .bl (w.isSuffixOf e)) rfl) (fun z => ?_) fun z => ?_
  · rw [if_pos z] at q; exact ws_ret EV.non q
  · rw [if_neg (by rw [z]; exact Bool.false_ne_true)] at q
    simp only [wpSs, wpS]
    exact unm_loop (k := k) _ w e l (by simp only [wpE]; exact ⟨_, rfl, q⟩)
/-- the state of a rule is sound -/
def sxOk (cls : List (List (List Nat))) : Ru → Sx → Prop
  | .size _ _, .n _ => True
  | .least _ _, .n _ => True
  | .most _ _, .n _ => True
  | .kinds _, .ks l => l.Nodup ∧ ∀ s ∈ l, s ∈ nmOf cls
  | .run _, .rn s _ => s = [] ∨ ∃ c ∈ sgOf cls, s = [c]
  | .row _, .rn s _ => s = [] ∨ ∃ c ∈ sgOf cls, s = [c]
  | .not w, .tx e => e.length < w.length ∧ ∀ c ∈ e, c ∈ w
  | .first _, .tx e => e = [] ∨ e ∈ nmOf cls
  | .last _, .tx e => e = [] ∨ e ∈ nmOf cls
  | _, _ => False
/-- the policy is one that the machine is made of -/
structure GP (cls : List (List (List Nat))) (rus : List Ru) : Prop where
  mp : MPol cls (rus.map Ru.ds)
  co : clsOk cls = true
  oS : ∀ ss ∈ cls, ss.all okS = true
theorem GP.nmS {cls rus} (g : GP cls rus) : ∀ s ∈ nmOf cls, okS s = true := fun s h => List.all_eq_true.mp (nm_okS g.oS) s h
theorem nodup_sub : ∀ {l m : List (List Nat)}, l.Nodup → (∀ s ∈ l, s ∈ m) → l.length ≤ m.length
  | [], m, _, _ => Nat.zero_le _
  | x :: l, m, h, hs => by
    have h' := List.nodup_cons.mp h
    have hx := hs x (.head _)
    have ih := nodup_sub (l := l) (m := m.erase x) h'.2 fun s hm => (List.mem_erase_of_ne (fun e => h'.1 (by rw [← e]; exact hm))).mpr (hs s (.tail _ hm))
    rw [List.length_erase_of_mem hx] at ih
    have : 0 < m.length := List.length_pos_of_mem hx
    simp only [List.length_cons]
    omega
theorem nodup_len {cls : List (List (List Nat))} {l : List (List Nat)} (h : l.Nodup) (hs : ∀ s ∈ l, s ∈ nmOf cls) : l.length ≤ cls.length := by
  have := nodup_sub h hs
  simpa [nmOf] using this
theorem name_mem {cls : List (List (List Nat))} {c : Nat} (h : c ∈ sgOf cls) : nameOf cls c ∈ nmOf cls := by
  have key : ∀ (l : List (Nat × List Nat)) (kv : List (List Nat × D)), (∀ p ∈ l, p.2 ∈ nmOf cls) → (∀ s, sget kv [c] = some (.str s) → s ∈ nmOf cls) → ∀ s, sget (l.foldl putN kv) [c] = some (.str s) → s ∈ nmOf cls := fun l => by
    induction l with
    | nil => intro kv _ h; exact h
    | cons p l ih =>
      intro kv hp hk
      refine ih _ (fun q hq => hp q (.tail _ hq)) fun s hs => ?_
      unfold putN at hs
      rw [sget_put] at hs
      split at hs
      · cases hs; exact hp p (.head _)
      · exact hk s hs
  refine key (cls.flatMap nmP) [] (fun p hp => ?_) (fun s hs => by simp [sget] at hs) _ (name_get h)
  obtain ⟨ss, hs, hq⟩ := List.mem_flatMap.mp hp
  obtain ⟨x, _, rfl⟩ := List.mem_map.mp hq
  exact List.mem_map.mpr ⟨ss, hs, rfl⟩
theorem sg_cp {cls rus} (g : GP cls rus) {c : Nat} (h : c ∈ sgOf cls) : okS [c] = true := by
  have := sg_okS g.co
  simp only [okS, Bool.and_eq_true, decide_eq_true_eq, List.all_eq_true] at this ⊢
  exact ⟨by simp [lim], fun x hx => by rw [List.mem_singleton.mp hx]; exact this.2 c h⟩
/-- what a rule of a machine is like -/
def ruFit (cls : List (List (List Nat))) : Ru → Prop
  | .least nm _ => okS nm = true
  | .most nm _ => okS nm = true
  | .not w => okS w = true ∧ w.length ≤ 20 ∧ w ≠ []
  | .first nm => okS nm = true
  | .last nm => okS nm = true
  | _ => True
theorem EV.meth' {k m mo : Nat} {cls : List (List (List Nat))} {rules : List (List D)} {kvs : List (D × D)} {σ : Sl} {h : Hm} {o : E} {es : Es} {ds : List D} {d : D} (H : MH h mo cls rules kvs) (hm : (Ga k).mcls m = 0) (ho : EV (Ga k) o σ h (.loc mo)) (ha : EVs (Ga k) es σ h ds) (c : PV (Ga k) m (.loc mo :: ds) h d) : EV (Ga k) (.meth m o es) σ h d :=
  EV.meth ho (by rw [hm]; exact H.o) ha c
theorem D_str_eq {a b : List Nat} : eqD (.str a) (.str b) = (a == b) := rfl
theorem p_moved {k : Nat} {h : Hm} {mo : Nat} {cls : List (List (List Nat))} {rules : List (List D)} {kvs : List (D × D)} (H : MH h mo cls rules kvs) {rus : List Ru} (g : GP cls rus) (ru : Ru) (sx : Sx) (c : Nat) (hc : c ∈ sgOf cls) (fit : ruFit cls ru) (ok : sxOk cls ru sx) :
    PV (Ga (k + 2)) f_Machine_moved [.loc mo, .tup ru.ds, sx.D, .str [c]] h (oD (mv cls ru sx c)) := by
  have lm : mo < h.length := (List.getElem?_eq_some_iff.mp H.o).1
  have sxb : ∀ (s : Sx) n, below n s.D = true := fun s n => by cases s <;> first | rfl | exact belows_str _ _
  have bl : below h.length (oD (mv cls ru sx c)) = true := by
    cases mv cls ru sx c with
    | none => rfl
    | some s => exact sxb s _
  refine pv_def (df := b_Machine_moved) rfl rfl H.wf bl fun X K q => ?_
  have nmO : okS (nameOf cls c) = true := g.nmS _ (name_mem hc)
  have cO := sg_cp g hc
  have gn : EV (Ga (k + 1)) (.ix (.fld (.var 0) 2) (.var 3)) (Mi.start 7 [.loc mo, .tup ru.ds, sx.D, .str [c]]) h (.str (nameOf cls c)) := EV.ix (EV.fld (EV.var rfl) H.o (okfM (by omega)) rfl) (EV.var rfl) (by simp only [ixD, H.n]; exact name_get hc)
  have wO : okS wSize = true ∧ okS wLeast = true ∧ okS wMost = true ∧ okS wKinds = true ∧ okS wRun = true ∧ okS wRow = true ∧ okS wNot = true ∧ okS wFirst = true ∧ okS wLast = true := by decide
  obtain ⟨w1, w2, w3, w4, w5, w6, w7, w8, w9⟩ := wO
  have no : ∀ {σ : Sl} {h' : Hm} {wd wd' : List Nat}, σ[4]? = some (some (.str wd)) → okS wd = true → okS wd' = true → (wd == wd') = false → EV (Ga (k + 1)) (.cmp .eq (.var 4) (.str wd')) σ h' (.bl false) := fun {σ h' wd wd'} e a b z => by
    have := EV.cmp (Γ := Ga (k + 1)) (h := h') (EV.var e) EV.str (eq_str a b)
    rw [z] at this
    exact this
  have no2 : ∀ {σ : Sl} {h' : Hm} {wd : List Nat}, σ[4]? = some (some (.str wd)) → okS wd = true → ([wLeast, wMost].any (· == wd)) = false → EV (Ga (k + 1)) (.cmp .in_ (.var 4) (.tup (.cons (.str wLeast) (.cons (.str wMost) .nil)))) σ h' (.bl false) := fun {σ h' wd} e a z => by
    have := EV.cmp (Γ := Ga (k + 1)) (h := h') (EV.var e) (EV.tup (.cons EV.str (.cons EV.str .nil)) (by simp [lim])) (in_str (bs := [wLeast, wMost]) a (by decide))
    rw [z] at this
    exact this
  unfold b_Machine_moved
  cases ru with
  | size lo hi =>
    cases sx with
    | n kk =>
      refine ws_par (.cons (EV.ix (EV.var rfl) EV.int (d := .str wSize) rfl) (.cons gn .nil)) ?_
      refine ws_if (c := true) (EV.cmp (EV.var rfl) EV.str (eq_str w1 w1)) (fun _ => ?_) fun z => nomatch z
      refine ws_ret (d := oD (cntN (kk + 1) (hi.getD lo) hi.isSome)) (EV.meth' H mcl (EV.var rfl) (ds := [.int ((kk + 1 : Nat) : Int), .int ((hi.getD lo : Nat) : Int), .bl hi.isSome]) (.cons (EV.op (EV.var rfl) EV.int rfl) (.cons ?_ (.cons ?_ .nil))) (p_counted H.wf mo lm _ _ _)) q
      · cases hi with
        | none => exact EV.ite (x := true) (EV.cmp (EV.ix (EV.var rfl) EV.int (d := .non) rfl) EV.non rfl) (fun _ => EV.ix (EV.var rfl) EV.int rfl) fun z => nomatch z
        | some m => exact EV.ite (x := false) (EV.cmp (EV.ix (EV.var rfl) EV.int (d := .int (m : Int)) rfl) EV.non rfl) (fun z => nomatch z) fun _ => EV.ix (EV.var rfl) EV.int rfl
      · cases hi with
        | none => exact EV.cmp (EV.ix (EV.var rfl) EV.int (d := .non) rfl) EV.non rfl
        | some m => exact EV.cmp (EV.ix (EV.var rfl) EV.int (d := .int (m : Int)) rfl) EV.non rfl
    | _ => exact ok.elim
  | least nm m =>
    cases sx with
    | n kk =>
      have fit : okS nm = true := fit
      refine ws_par (.cons (EV.ix (EV.var rfl) EV.int (d := .str wLeast) rfl) (.cons gn .nil)) ?_
      refine ws_if (c := false) (no rfl w2 w1 rfl) (fun z => nomatch z) fun _ => ?_
      refine ws_if (c := true) (EV.cmp (EV.var rfl) (EV.tup (.cons EV.str (.cons EV.str .nil)) (by simp [lim])) (in_str (bs := [wLeast, wMost]) w2 (by decide))) (fun _ => ?_) fun z => nomatch z
      refine ws_ret (d := oD (cntN (kk + if nameOf cls c = nm then 1 else 0) m false)) (EV.meth' H mcl (EV.var rfl) (ds := [.int ((kk + (if nameOf cls c = nm then 1 else 0) : Nat) : Int), .int (m : Int), .bl false]) (.cons (EV.op (EV.var rfl) (EV.ite (d := .int (if nameOf cls c = nm then 1 else 0)) (EV.cmp (EV.var rfl) (EV.ix (EV.var rfl) EV.int (d := .str nm) rfl) (eq_str nmO fit)) (fun z => ?_) fun z => ?_) ?_) (.cons (EV.ix (EV.var rfl) EV.int rfl) (.cons (EV.cmp (EV.var rfl) EV.str (eq_str w2 w3)) .nil))) (p_counted H.wf mo lm _ _ _)) q
      · rw [if_pos (by simpa using z)]; exact EV.int
      · rw [if_neg (by simpa using z)]; exact EV.int
      · by_cases z : nameOf cls c = nm <;> simp [opD, Sx.D, z]
    | _ => exact ok.elim
  | most nm m =>
    cases sx with
    | n kk =>
      have fit : okS nm = true := fit
      refine ws_par (.cons (EV.ix (EV.var rfl) EV.int (d := .str wMost) rfl) (.cons gn .nil)) ?_
      refine ws_if (c := false) (no rfl w3 w1 rfl) (fun z => nomatch z) fun _ => ?_
      refine ws_if (c := true) (EV.cmp (EV.var rfl) (EV.tup (.cons EV.str (.cons EV.str .nil)) (by simp [lim])) (in_str (bs := [wLeast, wMost]) w3 (by decide))) (fun _ => ?_) fun z => nomatch z
      refine ws_ret (d := oD (cntN (kk + if nameOf cls c = nm then 1 else 0) m true)) (EV.meth' H mcl (EV.var rfl) (ds := [.int ((kk + (if nameOf cls c = nm then 1 else 0) : Nat) : Int), .int (m : Int), .bl true]) (.cons (EV.op (EV.var rfl) (EV.ite (d := .int (if nameOf cls c = nm then 1 else 0)) (EV.cmp (EV.var rfl) (EV.ix (EV.var rfl) EV.int (d := .str nm) rfl) (eq_str nmO fit)) (fun z => ?_) fun z => ?_) ?_) (.cons (EV.ix (EV.var rfl) EV.int rfl) (.cons (EV.cmp (EV.var rfl) EV.str (eq_str w3 w3)) .nil))) (p_counted H.wf mo lm _ _ _)) q
      · rw [if_pos (by simpa using z)]; exact EV.int
      · rw [if_neg (by simpa using z)]; exact EV.int
      · by_cases z : nameOf cls c = nm <;> simp [opD, Sx.D, z]
    | _ => exact ok.elim
  | kinds m =>
    cases sx with
    | ks l =>
      obtain ⟨nd, sub⟩ := ok
      have ll := nodup_len nd sub
      have lc := g.mp.lc
      have lO : l.all okS = true := List.all_eq_true.mpr fun s h => g.nmS s (sub s h)
      refine ws_par (.cons (EV.ix (EV.var rfl) EV.int (d := .str wKinds) rfl) (.cons gn .nil)) ?_
      refine ws_if (c := false) (no rfl w4 w1 rfl) (fun z => nomatch z) fun _ => ?_
      refine ws_if (c := false) (no2 rfl w4 rfl) (fun z => nomatch z) fun _ => ?_
      refine ws_if (c := true) (EV.cmp (EV.var rfl) EV.str (eq_str w4 w4)) (fun _ => ?_) fun z => nomatch z
      refine ws_ret (d := oD (mv cls (.kinds m) (.ks l) c)) (EV.ite (EV.cmp (EV.var rfl) (EV.var rfl) (in_str nmO lO)) (fun z => ?_) fun z => ?_) q
      · unfold mv; simp only; rw [if_pos z]; exact EV.var rfl
      · unfold mv; simp only; rw [if_neg (by rw [z]; exact Bool.false_ne_true)]
        refine EV.bi (ds := [.lst ((sortS (l ++ [nameOf cls c])).map .str)]) (EVs.one (EV.bi (ds := [.tup ((l ++ [nameOf cls c]).map .str)]) (EVs.one (EV.op (EV.var rfl) (EV.tup (EVs.one (EV.var rfl)) (by simp [lim])) ?_)) ?_)) rfl
        · show (if _ then _ else _) = _
          rw [if_pos (by simp [lim]; omega)]; simp
        · simp only [biD, seqOf, Option.bind_some, allStr_map]
          rw [if_pos (by simp; omega)]
    | _ => exact ok.elim
  | run m =>
    cases sx with
    | rn s kk =>
      have sO : okS s = true := by
        rcases ok with e | ⟨d, hd, e⟩
        · rw [e]; rfl
        · rw [e]; exact sg_cp g hd
      refine ws_par (.cons (EV.ix (EV.var rfl) EV.int (d := .str wRun) rfl) (.cons gn .nil)) ?_
      refine ws_if (c := false) (no rfl w5 w1 rfl) (fun z => nomatch z) fun _ => ?_
      refine ws_if (c := false) (no2 rfl w5 rfl) (fun z => nomatch z) fun _ => ?_
      refine ws_if (c := false) (no rfl w5 w4 rfl) (fun z => nomatch z) fun _ => ?_
      refine ws_if (c := true) (EV.cmp (EV.var rfl) EV.str (eq_str w5 w5)) (fun _ => ?_) fun z => nomatch z
      refine ws_set (d := .int ((if s = [c] then kk + 1 else 1 : Nat) : Int)) (EV.ite (EV.cmp (EV.ix (EV.var rfl) EV.int (d := .str s) rfl) (EV.var rfl) (eq_str sO cO)) (fun z => ?_) fun z => ?_) ?_
      · rw [if_pos (by simpa using z)]; exact EV.op (EV.ix (EV.var rfl) EV.int (d := .int (kk : Int)) rfl) EV.int rfl
      · rw [if_neg (by simpa using z)]; exact EV.int
      refine ws_ret (d := oD (mv cls (.run m) (.rn s kk) c)) (EV.ite (EV.cmp (EV.var rfl) (EV.ix (EV.var rfl) EV.int (d := .int (m : Int)) rfl) rfl) (fun z => ?_) fun z => ?_) q
      · have z : ((if s = [c] then kk + 1 else 1 : Nat) : Int) ≤ (m : Int) := of_decide_eq_true z
        unfold mv; simp only; rw [if_pos (Int.ofNat_le.mp z)]
        exact EV.tup (.cons (EV.var rfl) (.cons (EV.var rfl) .nil)) (by simp [lim])
      · have z : ¬ ((if s = [c] then kk + 1 else 1 : Nat) : Int) ≤ (m : Int) := of_decide_eq_false z
        unfold mv; simp only; rw [if_neg (fun y => z (Int.ofNat_le.mpr y))]
        exact EV.non
    | _ => exact ok.elim
  | row m =>
    cases sx with
    | rn s kk =>
      have sO : okS s = true := by
        rcases ok with e | ⟨d, hd, e⟩
        · rw [e]; rfl
        · rw [e]; exact sg_cp g hd
      have oE : okS [] = true := rfl
      refine ws_par (.cons (EV.ix (EV.var rfl) EV.int (d := .str wRow) rfl) (.cons gn .nil)) ?_
      refine ws_if (c := false) (no rfl w6 w1 rfl) (fun z => nomatch z) fun _ => ?_
      refine ws_if (c := false) (no2 rfl w6 rfl) (fun z => nomatch z) fun _ => ?_
      refine ws_if (c := false) (no rfl w6 w4 rfl) (fun z => nomatch z) fun _ => ?_
      refine ws_if (c := false) (no rfl w6 w5 rfl) (fun z => nomatch z) fun _ => ?_
      refine ws_if (c := true) (EV.cmp (EV.var rfl) EV.str (eq_str w6 w6)) (fun _ => ?_) fun z => nomatch z
      have cond : ∀ {σ : Sl}, σ[0]? = some (some (.loc mo)) → σ[2]? = some (some (.tup [.str s, .int (kk : Int)])) → σ[3]? = some (some (.str [c])) → EV (Ga (k + 1)) (.and (.cmp .ne (.ix (.var 2) (.int 0)) (.str [])) (.cmp .eq (.bim .get1 (.fld (.var 0) 3) (.cons (.ix (.var 2) (.int 0)) .nil)) (.var 3))) σ h (.bl (decide (s ≠ [] ∧ folOf cls (s.headD 0) = some c))) := fun {σ} e0 e2 e3 => by
        have A := EV.and (Γ := Ga (k + 1)) (h := h) (σ := σ) (a := .cmp .ne (.ix (.var 2) (.int 0)) (.str [])) (b := .cmp .eq (.bim .get1 (.fld (.var 0) 3) (.cons (.ix (.var 2) (.int 0)) .nil)) (.var 3)) (y := decide (folOf cls (s.headD 0) = some c)) (EV.cmp (EV.ix (EV.var e2) EV.int (d := .str s) rfl) EV.str (ne_str (h := h) (okS_flat sO 20) (okS_flat oE 20))) fun z => ?_
        · have e : (!(s == []) && decide (folOf cls (s.headD 0) = some c)) = decide (s ≠ [] ∧ folOf cls (s.headD 0) = some c) := by
            cases s <;> simp
          rw [e] at A; exact A
        · have hs : ∃ d, s = [d] := by
            rcases ok with e | ⟨d, _, e⟩
            · rw [e] at z; cases z
            · exact ⟨d, e⟩
          obtain ⟨d, rfl⟩ := hs
          refine EV.cmp (EV.bim (ds := [.str [d]]) (EV.fld (EV.var e0) H.o (okfM (by omega)) rfl) (EVs.one (EV.ix (EV.var e2) EV.int rfl)) (by simp only [kindB, H.f]) (d := folD cls d) ?_) (EV.var e3) ?_
          · simp only [biD, H.f, fol_get]
          · unfold folD
            show cmB h .eq (match folOf cls d with | some d => .str [d] | none => .non) _ = some (decide (folOf cls d = some c))
            cases e : folOf cls d with
            | none =>
              simp only [cmB, eqQ, deref, okS_flat cO, flat, Bool.and_self, if_true, eqD]
              simp
            | some x =>
              simp only
              have xO : flat 20 (.str [x]) = true := by
                have : ∀ (l : List (Nat × Nat)) (kv : List (List Nat × D)), (∀ p ∈ l, p.2 ∈ sgOf cls) → (∀ y, sget kv [d] = some (.str [y]) → y ∈ sgOf cls) → ∀ y, sget (l.foldl putF kv) [d] = some (.str [y]) → y ∈ sgOf cls := fun l => by
                  induction l with
                  | nil => intro kv _ h; exact h
                  | cons p l ih =>
                    intro kv hp hk
                    refine ih _ (fun q hq => hp q (.tail _ hq)) fun y hy => ?_
                    unfold putF at hy
                    rw [sget_put] at hy
                    split at hy
                    · cases hy; exact hp p (.head _)
                    · exact hk y hy
                have hx : sget (foK cls) [d] = some (.str [x]) := by
                  unfold folOf at e
                  split at e
                  · cases e; assumption
                  · cases e
                have mem := this (cls.flatMap foP) [] (fun p hp => by
                  obtain ⟨ss, hs, hq⟩ := List.mem_flatMap.mp hp
                  have := (List.of_mem_zip (a := p.1) (b := p.2) hq).2
                  simp only [sgOf, List.mem_flatten, List.mem_map]
                  exact ⟨_, ⟨ss, hs, rfl⟩, List.mem_of_mem_drop this⟩) (fun y hy => by simp [sget] at hy) x hx
                exact okS_flat (sg_cp g mem) 20
              simp only [cmB, eqQ, deref, okS_flat cO, xO, Bool.and_self, if_true, eqD]
              congr 1
              by_cases z : x = c <;> simp [z]
      refine ws_set (d := .int ((if s ≠ [] ∧ folOf cls (s.headD 0) = some c then kk + 1 else 1 : Nat) : Int)) (EV.ite (cond rfl rfl rfl) (fun z => ?_) fun z => ?_) ?_
      · rw [if_pos (of_decide_eq_true z)]; exact EV.op (EV.ix (EV.var rfl) EV.int (d := .int (kk : Int)) rfl) EV.int rfl
      · rw [if_neg (of_decide_eq_false z)]; exact EV.int
      refine ws_ret (d := oD (mv cls (.row m) (.rn s kk) c)) (EV.ite (EV.cmp (EV.var rfl) (EV.ix (EV.var rfl) EV.int (d := .int (m : Int)) rfl) rfl) (fun z => ?_) fun z => ?_) q
      · have z : ((if s ≠ [] ∧ folOf cls (s.headD 0) = some c then kk + 1 else 1 : Nat) : Int) ≤ (m : Int) := of_decide_eq_true z
        unfold mv; simp only; rw [if_pos (Int.ofNat_le.mp z)]
        exact EV.tup (.cons (EV.var rfl) (.cons (EV.var rfl) .nil)) (by simp [lim])
      · have z : ¬ ((if s ≠ [] ∧ folOf cls (s.headD 0) = some c then kk + 1 else 1 : Nat) : Int) ≤ (m : Int) := of_decide_eq_false z
        unfold mv; simp only; rw [if_neg (fun y => z (Int.ofNat_le.mpr y))]
        exact EV.non
    | _ => exact ok.elim
  | not w =>
    cases sx with
    | tx e =>
      obtain ⟨ok1, ok2⟩ := ok
      obtain ⟨f1, f2, f3⟩ := fit
      refine ws_par (.cons (EV.ix (EV.var rfl) EV.int (d := .str wNot) rfl) (.cons gn .nil)) ?_
      refine ws_if (c := false) (no rfl w7 w1 rfl) (fun z => nomatch z) fun _ => ?_
      refine ws_if (c := false) (no2 rfl w7 rfl) (fun z => nomatch z) fun _ => ?_
      refine ws_if (c := false) (no rfl w7 w4 rfl) (fun z => nomatch z) fun _ => ?_
      refine ws_if (c := false) (no rfl w7 w5 rfl) (fun z => nomatch z) fun _ => ?_
      refine ws_if (c := false) (no rfl w7 w6 rfl) (fun z => nomatch z) fun _ => ?_
      refine ws_if (c := true) (EV.cmp (EV.var rfl) EV.str (eq_str w7 w7)) (fun _ => ?_) fun z => nomatch z
      exact ws_ret (EV.meth' H mcl (EV.var rfl) (.cons (EV.ix (EV.var rfl) EV.int (d := .str w) rfl) (.cons (EV.op (EV.var rfl) (EV.var rfl) (add_str (by simp [lim]; omega))) .nil)) (p_unmatched (k := k) H.wf mo w (e ++ [c]) (by simp [lim]; omega))) q
    | _ => exact ok.elim
  | first nm =>
    cases sx with
    | tx e =>
      have fit : okS nm = true := fit
      have eO : okS e = true := by
        rcases ok with z | z
        · rw [z]; rfl
        · exact g.nmS e z
      have oE : okS [] = true := rfl
      refine ws_par (.cons (EV.ix (EV.var rfl) EV.int (d := .str wFirst) rfl) (.cons gn .nil)) ?_
      refine ws_if (c := false) (no rfl w8 w1 rfl) (fun z => nomatch z) fun _ => ?_
      refine ws_if (c := false) (no2 rfl w8 rfl) (fun z => nomatch z) fun _ => ?_
      refine ws_if (c := false) (no rfl w8 w4 rfl) (fun z => nomatch z) fun _ => ?_
      refine ws_if (c := false) (no rfl w8 w5 rfl) (fun z => nomatch z) fun _ => ?_
      refine ws_if (c := false) (no rfl w8 w6 rfl) (fun z => nomatch z) fun _ => ?_
      refine ws_if (c := false) (no rfl w8 w7 rfl) (fun z => nomatch z) fun _ => ?_
      refine ws_if (c := true) (EV.cmp (EV.var rfl) EV.str (eq_str w8 w8)) (fun _ => ?_) fun z => nomatch z
      refine ws_ret (d := oD (mv cls (.first nm) (.tx e) c)) (EV.ite (EV.cmp (EV.var rfl) EV.str (ne_str (okS_flat eO 20) (okS_flat oE 20))) (fun z => ?_) fun z => EV.ite (EV.cmp (EV.var rfl) (EV.ix (EV.var rfl) EV.int (d := .str nm) rfl) (eq_str nmO fit)) (fun z2 => ?_) fun z2 => ?_) q
      · have z : e ≠ [] := by simpa using z
        unfold mv; simp only; rw [if_pos z]; exact EV.var rfl
      · have z : ¬ e ≠ [] := by simpa using z
        unfold mv; simp only; rw [if_neg z, if_pos (by simpa using z2)]; exact EV.var rfl
      · have z : ¬ e ≠ [] := by simpa using z
        unfold mv; simp only; rw [if_neg z, if_neg (by simpa using z2)]; exact EV.non
    | _ => exact ok.elim
  | last nm =>
    cases sx with
    | tx e =>
      refine ws_par (.cons (EV.ix (EV.var rfl) EV.int (d := .str wLast) rfl) (.cons gn .nil)) ?_
      refine ws_if (c := false) (no rfl w9 w1 rfl) (fun z => nomatch z) fun _ => ?_
      refine ws_if (c := false) (no2 rfl w9 rfl) (fun z => nomatch z) fun _ => ?_
      refine ws_if (c := false) (no rfl w9 w4 rfl) (fun z => nomatch z) fun _ => ?_
      refine ws_if (c := false) (no rfl w9 w5 rfl) (fun z => nomatch z) fun _ => ?_
      refine ws_if (c := false) (no rfl w9 w6 rfl) (fun z => nomatch z) fun _ => ?_
      refine ws_if (c := false) (no rfl w9 w7 rfl) (fun z => nomatch z) fun _ => ?_
      refine ws_if (c := false) (no rfl w9 w8 rfl) (fun z => nomatch z) fun _ => ?_
      exact ws_ret (EV.var rfl) q
    | _ => exact ok.elim
end Mi.G

set_option linter.all false
set_option maxRecDepth 100000
set_option maxHeartbeats 4000000
namespace Mi.G
open Mi
/-! ## states, steps -/
theorem map_str_inj : ∀ {a b : List (List Nat)}, a.map D.str = b.map D.str → a = b
  | [], [], _ => rfl
  | [], _ :: _, h => by cases h
  | _ :: _, [], h => by cases h
  | x :: a, y :: b, h => by
    simp only [List.map_cons, List.cons.injEq, D.str.injEq] at h
    rw [h.1, map_str_inj h.2]
theorem Sx.inj : ∀ {a b : Sx}, a.D = b.D → a = b
  | .n k, b, h => by cases b <;> simp [Sx.D] at h ⊢; omega
  | .ks l, b, h => by
    cases b with
    | ks m => simp only [Sx.D, D.tup.injEq] at h; rw [map_str_inj h]
    | rn s k =>
      simp only [Sx.D, D.tup.injEq] at h
      match l, h with
      | [], h => cases h
      | [x], h => cases h
      | x :: y :: t, h => simp at h
    | _ => simp [Sx.D] at h
  | .rn s k, b, h => by
    cases b with
    | rn s' k' => simp [Sx.D] at h ⊢; exact ⟨h.1, by omega⟩
    | ks l =>
      simp only [Sx.D, D.tup.injEq] at h
      match l, h with
      | [], h => cases h
      | [x], h => cases h
      | x :: y :: t, h => simp at h
    | _ => simp [Sx.D] at h
  | .tx s, b, h => by cases b <;> simp [Sx.D] at h ⊢; exact h
def stD (l : List Sx) : D := .tup (l.map Sx.D)
theorem map_D_inj : ∀ {a b : List Sx}, a.map Sx.D = b.map Sx.D → a = b
  | [], [], _ => rfl
  | [], _ :: _, h => by cases h
  | _ :: _, [], h => by cases h
  | x :: a, y :: b, h => by
    simp only [List.map_cons, List.cons.injEq] at h
    rw [Sx.inj h.1, map_D_inj h.2]
theorem stD_inj {a b : List Sx} (h : stD a = stD b) : a = b := map_D_inj (D.tup.inj h)
def ostD : Option (List Sx) → D
  | none => .non
  | some l => stD l
def stp (cls : List (List (List Nat))) : List Ru → List Sx → Nat → Option (List Sx)
  | [], [], _ => some []
  | r :: rs, s :: ss, c => match mv cls r s c, stp cls rs ss c with
    | some a, some b => some (a :: b)
    | _, _ => none
  | _, _, _ => none
def stOk (cls : List (List (List Nat))) : List Ru → List Sx → Prop
  | [], [] => True
  | r :: rs, s :: ss => sxOk cls r s ∧ stOk cls rs ss
  | _, _ => False
theorem insS_perm (x : List Nat) : ∀ l, (insS x l).Perm (x :: l)
  | [] => .refl _
  | y :: r => by
    unfold insS
    split
    · exact .refl _
    · exact ((insS_perm x r).cons y).trans (.swap x y r)
theorem sortS_perm : ∀ l, (sortS l).Perm l
  | [] => .refl _
  | x :: r => by
    unfold sortS
    exact (insS_perm x _).trans ((sortS_perm r).cons x)
theorem sufP_le (w : List Nat) : ∀ e, (sufP w e).length ≤ e.length ∧ (sufP w e).isPrefixOf w = true ∧ (sufP w e) <:+ e
  | [] => by simp [sufP]
  | c :: e => by
    unfold sufP
    split
    · next h => exact ⟨Nat.le_refl _, h, List.suffix_refl _⟩
    · have ih := sufP_le w e
      exact ⟨by simp; omega, ih.2.1, ih.2.2.trans (List.suffix_cons c e)⟩
theorem mv_ok {cls : List (List (List Nat))} {ru : Ru} {sx s' : Sx} {c : Nat} (hc : c ∈ sgOf cls) (ok : sxOk cls ru sx) (fit : ruFit cls ru) (e : mv cls ru sx c = some s') : sxOk cls ru s' := by
  have cn : ∀ {a b d} {s' : Sx}, cntN a b d = some s' → ∃ k, s' = .n k := fun {a b d s'} h => by
    unfold cntN at h
    split at h
    · cases h; exact ⟨_, rfl⟩
    · split at h
      · cases h
      · cases h; exact ⟨_, rfl⟩
  cases ru with
  | size lo hi => cases sx <;> first | (obtain ⟨k, rfl⟩ := cn e; trivial) | exact ok.elim
  | least nm m => cases sx <;> first | (obtain ⟨k, rfl⟩ := cn e; trivial) | exact ok.elim
  | most nm m => cases sx <;> first | (obtain ⟨k, rfl⟩ := cn e; trivial) | exact ok.elim
  | kinds m =>
    cases sx with
    | ks l =>
      obtain ⟨nd, sub⟩ := ok
      simp only [mv] at e
      split at e
      · cases e; exact ⟨nd, sub⟩
      · next h =>
        cases e
        have p := sortS_perm (l ++ [nameOf cls c])
        refine ⟨p.symm.nodup ?_, fun s hs => ?_⟩
        · refine List.nodup_append.mpr ⟨nd, by simp, fun a ha b hb => ?_⟩
          rw [List.mem_singleton.mp hb]
          intro z
          exact h (List.any_eq_true.mpr ⟨a, ha, by simp [z]⟩)
        · rcases List.mem_append.mp (p.mem_iff.mp hs) with q | q
          · exact sub s q
          · rw [List.mem_singleton.mp q]; exact name_mem hc
    | _ => exact ok.elim
  | run m =>
    cases sx with
    | rn s k =>
      simp only [mv] at e
      generalize (if s = [c] then k + 1 else 1) = kk at e
      split at e
      · cases e; exact .inr ⟨c, hc, rfl⟩
      · cases e
    | _ => exact ok.elim
  | row m =>
    cases sx with
    | rn s k =>
      simp only [mv] at e
      generalize (if s ≠ [] ∧ folOf cls (s.headD 0) = some c then k + 1 else 1) = kk at e
      split at e
      · cases e; exact .inr ⟨c, hc, rfl⟩
      · cases e
    | _ => exact ok.elim
  | not w =>
    cases sx with
    | tx x =>
      simp only [mv] at e
      split at e
      · cases e
      · next h =>
        cases e
        obtain ⟨h1, h2, h3⟩ := sufP_le w (x ++ [c])
        have hp := List.isPrefixOf_iff_prefix.mp h2
        refine ⟨?_, fun y hy => hp.subset hy⟩
        have := hp.length_le
        rcases Nat.lt_or_ge (sufP w (x ++ [c])).length w.length with q | q
        · exact q
        · have e2 : sufP w (x ++ [c]) = w := hp.eq_of_length (by omega)
          rw [e2] at h3
          exact absurd (List.isSuffixOf_iff_suffix.mpr h3) h
    | _ => exact ok.elim
  | first nm =>
    cases sx with
    | tx x =>
      simp only [mv] at e
      split at e
      · cases e; exact ok
      · split at e
        · cases e; exact .inr (name_mem hc)
        · cases e
    | _ => exact ok.elim
  | last nm =>
    cases sx with
    | tx x => simp only [mv] at e; cases e; exact .inr (name_mem hc)
    | _ => exact ok.elim
theorem stp_ok {cls : List (List (List Nat))} {c : Nat} (hc : c ∈ sgOf cls) : ∀ {rus : List Ru} {st st' : List Sx}, stOk cls rus st → (∀ r ∈ rus, ruFit cls r) → stp cls rus st c = some st' → stOk cls rus st'
  | [], [], st', _, _, e => by simp only [stp] at e; cases e; trivial
  | [], _ :: _, _, h, _, _ => h.elim
  | _ :: _, [], _, h, _, _ => h.elim
  | r :: rs, s :: ss, st', h, f, e => by
    simp only [stp] at e
    split at e
    · next a b e1 e2 => cases e; exact ⟨mv_ok hc h.1 (f r (.head _)) e1, stp_ok hc h.2 (fun x hx => f x (.tail _ hx)) e2⟩
    · cases e
/-- flat, a key -/
theorem sx_flat {cls : List (List (List Nat))} {rus : List Ru} (g : GP cls rus) {ru : Ru} {sx : Sx} (fit : ruFit cls ru) (ok : sxOk cls ru sx) : (∀ n, flat (n + 1) sx.D = true) ∧ (∀ n, hsh (n + 1) sx.D = true) := by
  have st : ∀ (s : List Nat), okS s = true → (∀ n, flat (n + 1) (.str s) = true) ∧ (∀ n, hsh (n + 1) (.str s) = true) := fun s h => ⟨fun n => okS_flat h _, fun n => rfl⟩
  have rn : ∀ (s : List Nat) k, okS s = true → (∀ n, flat (n + 1) (Sx.rn s k).D = true) ∧ (∀ n, hsh (n + 1) (Sx.rn s k).D = true) := fun s k h => ⟨fun n => by
      show (flat n (.str s) && (flat n (.int (k : Int)) && true)) = true
      rw [okS_flat h n]; cases n <;> rfl, fun n => by
      show (hsh n (.str s) && (hsh n (.int (k : Int)) && true)) = true
      cases n <;> rfl⟩
  have rnO : ∀ {s : List Nat}, (s = [] ∨ ∃ c ∈ sgOf cls, s = [c]) → okS s = true := fun {s} h => by
    rcases h with e | ⟨d, hd, e⟩
    · rw [e]; rfl
    · rw [e]; exact sg_cp g hd
  have txO : ∀ {s : List Nat}, (s = [] ∨ s ∈ nmOf cls) → okS s = true := fun {s} h => by
    rcases h with e | e
    · rw [e]; rfl
    · exact g.nmS s e
  cases ru with
  | size _ _ => cases sx <;> first | exact ⟨fun n => rfl, fun n => rfl⟩ | exact ok.elim
  | least _ _ => cases sx <;> first | exact ⟨fun n => rfl, fun n => rfl⟩ | exact ok.elim
  | most _ _ => cases sx <;> first | exact ⟨fun n => rfl, fun n => rfl⟩ | exact ok.elim
  | kinds m =>
    cases sx with
    | ks l =>
      obtain ⟨nd, sub⟩ := ok
      refine ⟨fun n => flats_str (List.all_eq_true.mpr fun s h => g.nmS s (sub s h)), fun n => ?_⟩
      show hshs n (l.map .str) = true
      rw [hshs_all, List.all_map, List.all_eq_true]
      intro x _
      cases n <;> rfl
    | _ => exact ok.elim
  | run m =>
    cases sx with
    | rn s k => exact rn s k (rnO ok)
    | _ => exact ok.elim
  | row m =>
    cases sx with
    | rn s k => exact rn s k (rnO ok)
    | _ => exact ok.elim
  | not w =>
    cases sx with
    | tx e =>
      obtain ⟨h1, h2⟩ := ok
      obtain ⟨f1, f2, f3⟩ := fit
      refine st e ?_
      simp only [okS, Bool.and_eq_true, decide_eq_true_eq, List.all_eq_true] at f1 ⊢
      exact ⟨by unfold lim; omega, fun c hc => f1.2 c (h2 c hc)⟩
    | _ => exact ok.elim
  | first nm =>
    cases sx with
    | tx e => exact st e (txO ok)
    | _ => exact ok.elim
  | last nm =>
    cases sx with
    | tx e => exact st e (txO ok)
    | _ => exact ok.elim
theorem st_flat {cls : List (List (List Nat))} {rus0 : List Ru} (g : GP cls rus0) : ∀ {rus : List Ru} {st : List Sx}, (∀ r ∈ rus, ruFit cls r) → stOk cls rus st → (∀ n, flats (n + 1) (st.map Sx.D) = true) ∧ (∀ n, hshs (n + 1) (st.map Sx.D) = true)
  | [], [], _, _ => ⟨fun n => rfl, fun n => rfl⟩
  | [], _ :: _, _, h => h.elim
  | _ :: _, [], _, h => h.elim
  | r :: rs, s :: ss, f, h => by
    have a := sx_flat g (f r (.head _)) h.1
    have b := st_flat g (fun x hx => f x (.tail _ hx)) h.2
    exact ⟨fun n => by simp only [List.map_cons, flats, a.1 n, b.1 n, Bool.and_self], fun n => by simp only [List.map_cons, hshs, a.2 n, b.2 n, Bool.and_self]⟩
mutual
theorem eqD_hsh : ∀ (n m : Nat) (a b : D), hsh n a = true → hsh m b = true → eqD a b = true → a = b
  | n, m, .non, b, _, hb, e => by cases b <;> simp [eqD] at e ⊢
  | n, m, .int i, b, _, hb, e => by
    cases b with
    | bl x => cases m <;> simp [hsh] at hb
    | int j => simp [eqD] at e; rw [e]
    | _ => simp [eqD] at e
  | n, m, .str s, b, _, hb, e => by cases b <;> simp [eqD] at e ⊢; exact e
  | 0, m, .tup ds, b, ha, _, _ => by simp [hsh] at ha
  | n + 1, m, .tup ds, b, ha, hb, e => by
    cases b with
    | tup es =>
      cases m with
      | zero => simp [hsh] at hb
      | succ m =>
        simp only [hsh] at ha hb
        simp only [eqD] at e
        rw [eqDs_hsh n m ds es ha hb e]
    | _ => simp [eqD] at e
  | n, m, .bl _, b, ha, _, _ => by cases n <;> simp [hsh] at ha
  | n, m, .lst _, b, ha, _, _ => by cases n <;> simp [hsh] at ha
  | n, m, .loc _, b, ha, _, _ => by cases n <;> simp [hsh] at ha
  | n, m, .fn _, b, ha, _, _ => by cases n <;> simp [hsh] at ha
  | n, m, .scr _, b, ha, _, _ => by cases n <;> simp [hsh] at ha
theorem eqDs_hsh : ∀ (n m : Nat) (a b : List D), hshs n a = true → hshs m b = true → eqDs a b = true → a = b
  | n, m, [], [], _, _, _ => rfl
  | n, m, [], _ :: _, _, _, e => by simp [eqDs] at e
  | n, m, _ :: _, [], _, _, e => by simp [eqDs] at e
  | n, m, x :: a, y :: b, ha, hb, e => by
    simp only [hshs, Bool.and_eq_true] at ha hb
    simp only [eqDs, Bool.and_eq_true] at e
    rw [eqD_hsh n m x y ha.1 hb.1 e.1, eqDs_hsh n m a b ha.2 hb.2 e.2]
end
mutual
theorem hsh_refl : ∀ (n : Nat) (a : D), hsh n a = true → eqD a a = true
  | n, .non, _ => rfl
  | n, .int i, _ => by simp [eqD]
  | n, .str s, _ => by simp [eqD]
  | 0, .tup ds, ha => by simp [hsh] at ha
  | n + 1, .tup ds, ha => by simp only [hsh] at ha; simp only [eqD]; exact hshs_refl n ds ha
  | n, .bl _, ha => by cases n <;> simp [hsh] at ha
  | n, .lst _, ha => by cases n <;> simp [hsh] at ha
  | n, .loc _, ha => by cases n <;> simp [hsh] at ha
  | n, .fn _, ha => by cases n <;> simp [hsh] at ha
  | n, .scr _, ha => by cases n <;> simp [hsh] at ha
theorem hshs_refl : ∀ (n : Nat) (a : List D), hshs n a = true → eqDs a a = true
  | n, [], _ => rfl
  | n, x :: a, ha => by
    simp only [hshs, Bool.and_eq_true] at ha
    simp only [eqDs, hsh_refl n x ha.1, hshs_refl n a ha.2, Bool.and_self]
end
end Mi.G

set_option linter.all false
set_option maxRecDepth 100000
set_option maxHeartbeats 4000000
namespace Mi.G
open Mi
/-! ## Machine.step -/
theorem nodup_subA {α : Type} [DecidableEq α] : ∀ {l m : List α}, l.Nodup → (∀ s ∈ l, s ∈ m) → l.length ≤ m.length
  | [], m, _, _ => Nat.zero_le _
  | x :: l, m, h, hs => by
    have h' := List.nodup_cons.mp h
    have hx := hs x (.head _)
    have ih := nodup_subA (l := l) (m := m.erase x) h'.2 fun s hm => (List.mem_erase_of_ne (fun e => h'.1 (by rw [← e]; exact hm))).mpr (hs s (.tail _ hm))
    rw [List.length_erase_of_mem hx] at ih
    have : 0 < m.length := List.length_pos_of_mem hx
    simp only [List.length_cons]
    omega
theorem prod_len {α β : Type} [DecidableEq α] [DecidableEq β] {l : List (α × β)} {A : List α} {B : List β} (h : l.Nodup) (hm : ∀ p ∈ l, p.1 ∈ A ∧ p.2 ∈ B) : l.length ≤ A.length * B.length := by
  have := nodup_subA (m := A.flatMap fun a => B.map fun b => (a, b)) h fun p hp => List.mem_flatMap.mpr ⟨p.1, (hm p hp).1, List.mem_map.mpr ⟨p.2, (hm p hp).2, rfl⟩⟩
  have e : ∀ A : List α, (A.flatMap fun a => B.map fun b => (a, b)).length = A.length * B.length := fun A => by
    induction A with
    | nil => simp
    | cons a A ih => simp only [List.flatMap_cons, List.length_append, List.length_map, ih, List.length_cons, Nat.add_mul]; omega
  rw [e] at this
  exact this
/-- a closed set of states, small enough -/
structure CS (cls : List (List (List Nat))) (rus : List Ru) (S : List (List Sx)) : Prop where
  gp : GP cls rus
  fit : ∀ r ∈ rus, ruFit cls r
  ok : ∀ st ∈ S, stOk cls rus st
  cl : ∀ st ∈ S, ∀ c ∈ sgOf cls, ∀ st', stp cls rus st c = some st' → st' ∈ S
  sz : S.length * 24 < lim
def keyD (k : List Sx × Nat) : D := .tup [stD k.1, .str [k.2]]
def kvOf (cls : List (List (List Nat))) (rus : List Ru) (ks : List (List Sx × Nat)) : List (D × D) := ks.map fun k => (keyD k, ostD (stp cls rus k.1 k.2))
structure KN (cls : List (List (List Nat))) (S : List (List Sx)) (ks : List (List Sx × Nat)) : Prop where
  nd : ks.Nodup
  mem : ∀ k ∈ ks, k.1 ∈ S ∧ k.2 ∈ sgOf cls
abbrev rlD (rus : List Ru) : List (List D) := rus.map Ru.ds
structure MM (h : Hm) (mo : Nat) (cls : List (List (List Nat))) (rus : List Ru) (S : List (List Sx)) (ks : List (List Sx × Nat)) : Prop extends MH h mo cls (rlD rus) (kvOf cls rus ks), KN cls S ks
section
variable {cls : List (List (List Nat))} {rus : List Ru} {S : List (List Sx)} (C : CS cls rus S)
include C
theorem CS.hsh {st : List Sx} (h : st ∈ S) (n : Nat) : hshs (n + 1) (st.map Sx.D) = true := (st_flat C.gp C.fit (C.ok st h)).2 n
theorem CS.key {st : List Sx} (h : st ∈ S) (c : Nat) : isKey (keyD (st, c)) = true := by
  show (Mi.hsh 6 (stD st) && (Mi.hsh 6 (.str [c]) && true)) = true
  have : Mi.hsh 6 (stD st) = true := C.hsh h 4
  rw [this]; rfl
theorem key_eq {a b : List Sx × Nat} (ha : a.1 ∈ S) (hb : b.1 ∈ S) : eqD (keyD a) (keyD b) = decide (a = b) := by
  cases e : eqD (keyD a) (keyD b) with
  | true =>
    have := eqD_hsh 7 7 _ _ (show Mi.hsh 7 (keyD a) = true from C.key ha a.2) (show Mi.hsh 7 (keyD b) = true from C.key hb b.2) e
    simp only [keyD, D.tup.injEq, List.cons.injEq, D.str.injEq, and_true] at this
    have h1 := stD_inj this.1
    have : a = b := Prod.ext h1 this.2
    rw [this]; simp
  | false =>
    by_cases z : a = b
    · rw [z] at e
      rw [hsh_refl 7 _ (show Mi.hsh 7 (keyD b) = true from C.key hb b.2)] at e
      cases e
    · simp [z]
theorem kget_kv {ks : List (List Sx × Nat)} (K : ∀ k ∈ ks, k.1 ∈ S) {st : List Sx} (h : st ∈ S) (c : Nat) {f : List Sx × Nat → D} : kget (ks.map fun k => (keyD k, f k)) (keyD (st, c)) = if (st, c) ∈ ks then some (f (st, c)) else none := by
  induction ks with
  | nil => simp [kget]
  | cons k ks ih =>
    have ih := ih fun x hx => K x (.tail _ hx)
    unfold kget at *
    simp only [List.map_cons, List.find?_cons]
    rw [key_eq C (K k (.head _)) h]
    by_cases z : k = (st, c)
    · subst z; simp
    · rw [decide_eq_false z]
      simp only
      rw [ih]
      have : ((st, c) ∈ k :: ks) ↔ (st, c) ∈ ks := by
        simp only [List.mem_cons, or_iff_right_iff_imp]
        intro e; exact absurd e.symm z
      simp only [this]
theorem KN.len {ks : List (List Sx × Nat)} (K : KN cls S ks) : ks.length < lim := by
  have h1 := prod_len K.nd K.mem
  have h2 := C.gp.mp.sgl
  have h3 : S.length * (sgOf cls).length ≤ S.length * 24 := Nat.mul_le_mul_left _ (by omega)
  have := C.sz
  omega
theorem zip_ok : ∀ {rus : List Ru} {st : List Sx}, stOk cls rus st → ∀ p ∈ rus.zip st, sxOk cls p.1 p.2
  | [], [], _, p, h => by simp at h
  | [], _ :: _, h, _, _ => h.elim
  | _ :: _, [], h, _, _ => h.elim
  | r :: rs, s :: ss, h, p, hp => by
    rcases List.mem_cons.mp hp with e | e
    · rw [e]; exact h.1
    · exact zip_ok h.2 p e
omit C in
theorem stp_zip (c : Nat) : ∀ {rus : List Ru} {st : List Sx}, stOk cls rus st → (match stp cls rus st c with
    | some st' => (rus.zip st).map (fun p => oD (mv cls p.1 p.2 c)) = st'.map Sx.D ∧ ((rus.zip st).any fun p => (mv cls p.1 p.2 c).isNone) = false
    | none => ((rus.zip st).any fun p => (mv cls p.1 p.2 c).isNone) = true)
  | [], [], _ => by simp [stp]
  | [], _ :: _, h => h.elim
  | _ :: _, [], h => h.elim
  | r :: rs, s :: ss, h => by
    have ih := stp_zip c h.2
    simp only [stp]
    cases e1 : mv cls r s c with
    | none => simp [e1]
    | some a =>
      cases e2 : stp cls rs ss c with
      | none => rw [e2] at ih; simp only at ih ⊢; simp [e1, ih]
      | some b =>
        rw [e2] at ih
        simp only at ih ⊢
        refine ⟨?_, by simp [e1, ih.2]⟩
        rw [List.zip_cons_cons, List.map_cons, ih.1, List.map_cons]
        simp only [e1, oD]
end
theorem set_same {h : Hm} {i : Nat} {x : MO} (e : h[i]? = some x) : h.set i x = h := by
  apply List.ext_getElem?
  intro j
  rw [List.getElem?_set]
  split
  · next q => subst q; obtain ⟨l, _⟩ := List.getElem?_eq_some_iff.mp e; rw [if_pos l, e]
  · rfl
theorem stD_below (st : List Sx) (n : Nat) : below n (stD st) = true := by
  show belows n _ = true
  rw [belows_all, List.all_map, List.all_eq_true]
  intro s _
  show below n s.D = true
  cases s <;> first | rfl | exact belows_str _ _
theorem ostD_below (o : Option (List Sx)) (n : Nat) : below n (ostD o) = true := by
  cases o with
  | none => rfl
  | some st => exact stD_below st n
theorem kv_below {cls : List (List (List Nat))} {rus : List Ru} (ks : List (List Sx × Nat)) (n : Nat) : belowO n (.kd (kvOf cls rus ks)) = true := by
  show (List.all _ _) = true
  rw [kvOf, List.all_map, List.all_eq_true]
  intro k _
  show (below n (keyD k) && below n (ostD _)) = true
  rw [ostD_below]
  show ((below n (stD k.1) && true) && true) = true
  rw [stD_below]; rfl
section
variable {h : Hm} {mo : Nat} {cls : List (List (List Nat))} {rus : List Ru} {S : List (List Sx)} {ks : List (List Sx × Nat)}
/-- the heap with other notes -/
def hK (cls : List (List (List Nat))) (rus : List Ru) (h : Hm) (mo : Nat) (ks : List (List Sx × Nat)) : Hm := h.set (mo + 3) (.kd (kvOf cls rus ks))
theorem MM.lt (M : MM h mo cls rus S ks) : mo + 3 < h.length := (List.getElem?_eq_some_iff.mp M.k).1
theorem MM.next (M : MM h mo cls rus S ks) {ks' : List (List Sx × Nat)} (K : KN cls S ks') : MM (hK cls rus h mo ks') mo cls rus S ks' where
  wf := wf_set M.wf (kv_below _ _)
  o := by unfold hK; rw [List.getElem?_set_ne (by omega)]; exact M.o
  n := by unfold hK; rw [List.getElem?_set_ne (by omega)]; exact M.n
  f := by unfold hK; rw [List.getElem?_set_ne (by omega)]; exact M.f
  k := by unfold hK; rw [List.getElem?_set_self M.lt]
  nd := K.nd
  mem := K.mem
theorem hK_hK {ks' : List (List Sx × Nat)} : hK cls rus (hK cls rus h mo ks) mo ks' = hK cls rus h mo ks' := by simp [hK, List.set_set]
theorem MM.same (M : MM h mo cls rus S ks) : hK cls rus h mo ks = h := set_same M.k
theorem oD_none (o : Option Sx) : eqD (oD o) .non = o.isNone := by
  cases o with
  | none => rfl
  | some s => cases s <;> rfl
theorem x_step {k : Nat} (C : CS cls rus S) (M : MM h mo cls rus S ks) {st : List Sx} (hs : st ∈ S) {c : Nat} (hc : c ∈ sgOf cls) (X : PX) (Q : PD) (q : ∀ ks', KN cls S ks' → Q (ostD (stp cls rus st c)) (hK cls rus h mo ks')) : (Ga (k + 3)).call f_Machine_step [.loc mo, stD st, .str [c]] h Q X := by
  show wpF (Ga (k + 2)) b_Machine_step _ _ _ _
  refine ⟨rfl, ?_⟩
  unfold b_Machine_step
  have ok := C.ok st hs
  have kk := C.key hs c
  have nS : cmB h .is_ (stD st) .non = some false := rfl
  refine ws_if (c := false) (EV.cmp (EV.var rfl) EV.non nS) (fun z => nomatch z) fun _ => ?_
  have keyE : ∀ {h' : Hm} {σ : Sl}, σ[1]? = some (some (stD st)) → σ[2]? = some (some (.str [c])) → EV (Ga (k + 2)) (.tup (.cons (.var 1) (.cons (.var 2) .nil))) σ h' (keyD (st, c)) := fun e1 e2 => EV.tup (.cons (EV.var e1) (.cons (EV.var e2) .nil)) (by simp [lim])
  have kg := kget_kv C (fun k hk => (M.mem k hk).1) hs c (f := fun k => ostD (stp cls rus k.1 k.2))
  have inn : cmB h .notin (keyD (st, c)) (.loc (mo + 3)) = some (!decide ((st, c) ∈ ks)) := by
    simp only [cmB, inD, M.k, keyD] at kk ⊢
    unfold keyD at kg
    show Option.map _ (if isKey (D.tup [stD st, .str [c]]) = true then some (kget (kvOf cls rus ks) (D.tup [stD st, .str [c]])).isSome else none) = _
    rw [if_pos kk]
    unfold kvOf keyD
    rw [kg]
    by_cases z : (st, c) ∈ ks <;> simp [z]
  have fin : ∀ ks', KN cls S ks' → dropQ h.length Q (ostD (stp cls rus st c)) (hK cls rus h mo ks') := fun ks' K => dropQ_set M.wf (kv_below _ _) (ostD_below _ _) (q ks' K)
  have retE : ∀ {h' : Hm} {ks'} {σ : Sl}, MM h' mo cls rus S ks' → (st, c) ∈ ks' → σ[0]? = some (some (.loc mo)) → σ[1]? = some (some (stD st)) → σ[2]? = some (some (.str [c])) → EV (Ga (k + 2)) (.ix (.fld (.var 0) 5) (.tup (.cons (.var 1) (.cons (.var 2) .nil)))) σ h' (ostD (stp cls rus st c)) := fun {h' ks' σ} M' hm e0 e1 e2 => by
    refine EV.ix (EV.fld (EV.var e0) M'.o (okfM (by omega)) rfl) (keyE e1 e2) ?_
    have kg' := kget_kv C (fun k hk => (M'.mem k hk).1) hs c (f := fun k => ostD (stp cls rus k.1 k.2))
    unfold keyD at kg' kk ⊢
    simp only [ixD, M'.k]
    rw [if_pos kk]
    unfold kvOf keyD
    rw [kg', if_pos hm]
  refine ws_ite (EV.cmp (keyE rfl rfl) (EV.fld (EV.var rfl) M.o (okfM (by omega)) rfl) inn) (fun z => ?_) fun z => ?_
  · have z : (st, c) ∉ ks := by simpa using z
    have K' : KN cls S (ks ++ [(st, c)]) := ⟨List.nodup_append.mpr ⟨M.nd, by simp, fun a ha b hb => by
      rw [List.mem_singleton.mp hb]; intro e; rw [e] at ha; exact z ha⟩, fun k hk => by
      rcases List.mem_append.mp hk with q | q
      · exact M.mem k q
      · rw [List.mem_singleton.mp q]; exact ⟨hs, hc⟩⟩
    have zl : zipOf (.tup ((rlD rus).map .tup)) (stD st) = some (((rlD rus).map .tup).zip (st.map Sx.D)) := rfl
    have ze : (((rlD rus).map D.tup).zip (st.map Sx.D)).map (fun p => D.tup [p.1, p.2]) = (rus.zip st).map fun p => .tup [.tup p.1.ds, p.2.D] := by
      rw [List.map_map, List.zip_map, List.map_map]; rfl
    have zO := zip_ok C ok
    have zm : ∀ p ∈ rus.zip st, p.1 ∈ rus := fun p hp => (List.of_mem_zip (a := p.1) (b := p.2) hp).1
    have lz : (rus.zip st).length ≤ 6 := by
      rw [List.length_zip]
      have := C.gp.mp.rl
      simp at this
      omega
    refine ws_set (d := .lst ((rus.zip st).map fun p => oD (mv cls p.1 p.2 c))) ?_ ?_
    · refine EV.comp (fun p : Ru × Sx => D.tup [.tup p.1.ds, p.2.D]) _ (s := none) ?_ trivial (by unfold lim; omega) fun p hp => ⟨_, rfl, ?_⟩
      · rw [← ze]
        exact EI.zip (EV.fld (EV.var rfl) M.o (okfM (by omega)) rfl) (EV.var rfl) zl
      · exact EV.meth' M.toMH mcl (EV.var rfl) (.cons (EV.var rfl) (.cons (EV.var rfl) (.cons (EV.var rfl) .nil))) (p_moved M.toMH C.gp p.1 p.2 c hc (C.fit _ (zm p hp)) (zO p hp))
    have fl : flats 20 ((rus.zip st).map fun p => oD (mv cls p.1 p.2 c)) = true := by
      rw [flats_all, List.all_map, List.all_eq_true]
      intro p hp
      show flat 20 (oD _) = true
      cases e : mv cls p.1 p.2 c with
      | none => rfl
      | some s => exact (sx_flat C.gp (C.fit _ (zm p hp)) (mv_ok hc (zO p hp) (C.fit _ (zm p hp)) e)).1 19
    have an : (((rus.zip st).map fun p => oD (mv cls p.1 p.2 c)).any fun z => eqD z .non) = (rus.zip st).any fun p => (mv cls p.1 p.2 c).isNone := by
      rw [List.any_map]
      congr 1
      funext p
      exact oD_none _
    have inl : cmB h .in_ .non (.lst ((rus.zip st).map fun p => oD (mv cls p.1 p.2 c))) = some ((rus.zip st).any fun p => (mv cls p.1 p.2 c).isNone) := by
      rw [← an]
      show (if (flat 20 .non && flats 20 _) = true then some _ else none) = _
      rw [fl]; rfl
    have sz := stp_zip c ok
    refine ws_sub (z := ostD (stp cls rus st c)) (h' := hK cls rus h mo (ks ++ [(st, c)])) ?_ (EV.fld (EV.var rfl) M.o (okfM (by omega)) rfl) (keyE rfl rfl) ?_ (ws_nil ?_)
    · refine EV.ite (EV.cmp EV.non (EV.var rfl) inl) (fun y => ?_) fun y => ?_
      · cases e : stp cls rus st c with
        | none => exact EV.non
        | some s => rw [e] at sz; rw [sz.2] at y; cases y
      · cases e : stp cls rus st c with
        | none => rw [e] at sz; rw [sz] at y; cases y
        | some s =>
          rw [e] at sz
          refine EV.bi (EVs.one (EV.var rfl)) ?_
          show some (D.tup _, h) = _
          rw [sz.1]; rfl
    · have kl := (KN.len C ⟨M.nd, M.mem⟩)
      have kl2 : (kvOf cls rus ks).length < lim := by unfold kvOf; rw [List.length_map]; exact kl
      unfold keyD at kk kg ⊢
      simp only [subD, M.k]
      rw [if_pos ⟨kk, kl2⟩]
      unfold hK
      congr 3
      unfold kput
      have kn : kget (kvOf cls rus ks) (D.tup [stD st, .str [c]]) = none := by unfold kvOf keyD; rw [kg, if_neg z]
      rw [kn]
      simp [kvOf, keyD]
    · exact ws_ret (retE (M.next K') (by simp) rfl rfl rfl) (fin _ K')
  · have z : (st, c) ∈ ks := by simpa using z
    refine ws_nil ?_
    refine ws_ret (retE M z rfl rfl rfl) ?_
    have := fin ks ⟨M.nd, M.mem⟩
    rw [M.same] at this
    exact this
end
end Mi.G

set_option linter.all false
set_option maxRecDepth 100000
set_option maxHeartbeats 4000000
namespace Mi.G
open Mi
/-! ## fine, many_from, count -/
def kp : Ru → Sx → Bool
  | .size lo _, .n k => decide (lo ≤ k)
  | .least _ m, .n k => decide (m ≤ k)
  | .kinds m, .ks l => decide (m ≤ l.length)
  | .first nm, .tx e => e == nm
  | .last nm, .tx e => e == nm
  | _, _ => true
theorem ge_nat {h : Hm} {a b : Nat} : cmB h .ge (.int (a : Int)) (.int (b : Int)) = some (decide (b ≤ a)) := by
  show some (decide ((b : Int) ≤ (a : Int))) = _
  congr 1
  exact decide_eq_decide.mpr Int.ofNat_le
theorem p_keeps {k : Nat} {h : Hm} {mo : Nat} {cls : List (List (List Nat))} {rus : List Ru} (w : WFb h = true) (g : GP cls rus) (ru : Ru) (sx : Sx) (fit : ruFit cls ru) (ok : sxOk cls ru sx) : PV (Ga (k + 1)) f_Machine_keeps [.loc mo, .tup ru.ds, sx.D] h (.bl (kp ru sx)) := by
  refine pv_def (df := b_Machine_keeps) rfl rfl w rfl fun X K q => ?_
  have wO : okS wSize = true ∧ okS wLeast = true ∧ okS wMost = true ∧ okS wKinds = true ∧ okS wRun = true ∧ okS wRow = true ∧ okS wNot = true ∧ okS wFirst = true ∧ okS wLast = true := by decide
  obtain ⟨w1, w2, w3, w4, w5, w6, w7, w8, w9⟩ := wO
  have cm : ∀ {σ : Sl} {h' : Hm} {wd wd' : List Nat} (b : Bool), σ[3]? = some (some (.str wd)) → okS wd = true → okS wd' = true → (wd == wd') = b → EV (Ga k) (.cmp .eq (.var 3) (.str wd')) σ h' (.bl b) := fun {σ h' wd wd'} b e a c z => by
    have := EV.cmp (Γ := Ga k) (h := h') (EV.var e) EV.str (eq_str a c)
    rw [z] at this
    exact this
  have ci : ∀ {σ : Sl} {h' : Hm} {wd : List Nat} (b : Bool), σ[3]? = some (some (.str wd)) → okS wd = true → ([wFirst, wLast].any (· == wd)) = b → EV (Ga k) (.cmp .in_ (.var 3) (.tup (.cons (.str wFirst) (.cons (.str wLast) .nil)))) σ h' (.bl b) := fun {σ h' wd} b e a z => by
    have := EV.cmp (Γ := Ga k) (h := h') (EV.var e) (EV.tup (.cons EV.str (.cons EV.str .nil)) (by simp [lim])) (in_str (bs := [wFirst, wLast]) a (by decide))
    rw [z] at this
    exact this
  unfold b_Machine_keeps
  cases ru with
  | size lo hi =>
    cases sx with
    | n kk =>
      refine ws_set (EV.ix (EV.var rfl) EV.int (d := .str wSize) rfl) ?_
      refine ws_if (cm true rfl w1 w1 rfl) (fun _ => ?_) fun z => nomatch z
      exact ws_ret (EV.cmp (EV.var rfl) (EV.ix (EV.var rfl) EV.int (d := .int (lo : Int)) rfl) ge_nat) q
    | _ => exact ok.elim
  | least nm m =>
    cases sx with
    | n kk =>
      refine ws_set (EV.ix (EV.var rfl) EV.int (d := .str wLeast) rfl) ?_
      refine ws_if (cm false rfl w2 w1 rfl) (fun z => nomatch z) fun _ => ?_
      refine ws_if (cm true rfl w2 w2 rfl) (fun _ => ?_) fun z => nomatch z
      exact ws_ret (EV.cmp (EV.var rfl) (EV.ix (EV.var rfl) EV.int (d := .int (m : Int)) rfl) ge_nat) q
    | _ => exact ok.elim
  | most nm m =>
    cases sx with
    | n kk =>
      refine ws_set (EV.ix (EV.var rfl) EV.int (d := .str wMost) rfl) ?_
      refine ws_if (cm false rfl w3 w1 rfl) (fun z => nomatch z) fun _ => ?_
      refine ws_if (cm false rfl w3 w2 rfl) (fun z => nomatch z) fun _ => ?_
      refine ws_if (cm false rfl w3 w4 rfl) (fun z => nomatch z) fun _ => ?_
      refine ws_if (ci false rfl w3 rfl) (fun z => nomatch z) fun _ => ?_
      exact ws_ret EV.bl q
    | _ => exact ok.elim
  | kinds m =>
    cases sx with
    | ks l =>
      refine ws_set (EV.ix (EV.var rfl) EV.int (d := .str wKinds) rfl) ?_
      refine ws_if (cm false rfl w4 w1 rfl) (fun z => nomatch z) fun _ => ?_
      refine ws_if (cm false rfl w4 w2 rfl) (fun z => nomatch z) fun _ => ?_
      refine ws_if (cm true rfl w4 w4 rfl) (fun _ => ?_) fun z => nomatch z
      exact ws_ret (EV.cmp (EV.bi (EVs.one (EV.var rfl)) (d := .int (l.length : Int)) (by simp [biD, Sx.D])) (EV.ix (EV.var rfl) EV.int (d := .int (m : Int)) rfl) ge_nat) q
    | _ => exact ok.elim
  | run m =>
    refine ws_set (EV.ix (EV.var rfl) EV.int (d := .str wRun) rfl) ?_
    refine ws_if (cm false rfl w5 w1 rfl) (fun z => nomatch z) fun _ => ?_
    refine ws_if (cm false rfl w5 w2 rfl) (fun z => nomatch z) fun _ => ?_
    refine ws_if (cm false rfl w5 w4 rfl) (fun z => nomatch z) fun _ => ?_
    refine ws_if (ci false rfl w5 rfl) (fun z => nomatch z) fun _ => ?_
    have : kp (.run m) sx = true := by cases sx <;> rfl
    rw [this] at q
    exact ws_ret EV.bl q
  | row m =>
    refine ws_set (EV.ix (EV.var rfl) EV.int (d := .str wRow) rfl) ?_
    refine ws_if (cm false rfl w6 w1 rfl) (fun z => nomatch z) fun _ => ?_
    refine ws_if (cm false rfl w6 w2 rfl) (fun z => nomatch z) fun _ => ?_
    refine ws_if (cm false rfl w6 w4 rfl) (fun z => nomatch z) fun _ => ?_
    refine ws_if (ci false rfl w6 rfl) (fun z => nomatch z) fun _ => ?_
    have : kp (.row m) sx = true := by cases sx <;> rfl
    rw [this] at q
    exact ws_ret EV.bl q
  | not s =>
    refine ws_set (EV.ix (EV.var rfl) EV.int (d := .str wNot) rfl) ?_
    refine ws_if (cm false rfl w7 w1 rfl) (fun z => nomatch z) fun _ => ?_
    refine ws_if (cm false rfl w7 w2 rfl) (fun z => nomatch z) fun _ => ?_
    refine ws_if (cm false rfl w7 w4 rfl) (fun z => nomatch z) fun _ => ?_
    refine ws_if (ci false rfl w7 rfl) (fun z => nomatch z) fun _ => ?_
    have : kp (.not s) sx = true := by cases sx <;> rfl
    rw [this] at q
    exact ws_ret EV.bl q
  | first nm =>
    cases sx with
    | tx e =>
      have eO : okS e = true := by
        rcases ok with z | z
        · rw [z]; rfl
        · exact g.nmS e z
      refine ws_set (EV.ix (EV.var rfl) EV.int (d := .str wFirst) rfl) ?_
      refine ws_if (cm false rfl w8 w1 rfl) (fun z => nomatch z) fun _ => ?_
      refine ws_if (cm false rfl w8 w2 rfl) (fun z => nomatch z) fun _ => ?_
      refine ws_if (cm false rfl w8 w4 rfl) (fun z => nomatch z) fun _ => ?_
      refine ws_if (ci true rfl w8 rfl) (fun _ => ?_) fun z => nomatch z
      exact ws_ret (EV.cmp (EV.var rfl) (EV.ix (EV.var rfl) EV.int (d := .str nm) rfl) (eq_str eO fit)) q
    | _ => exact ok.elim
  | last nm =>
    cases sx with
    | tx e =>
      have eO : okS e = true := by
        rcases ok with z | z
        · rw [z]; rfl
        · exact g.nmS e z
      refine ws_set (EV.ix (EV.var rfl) EV.int (d := .str wLast) rfl) ?_
      refine ws_if (cm false rfl w9 w1 rfl) (fun z => nomatch z) fun _ => ?_
      refine ws_if (cm false rfl w9 w2 rfl) (fun z => nomatch z) fun _ => ?_
      refine ws_if (cm false rfl w9 w4 rfl) (fun z => nomatch z) fun _ => ?_
      refine ws_if (ci true rfl w9 rfl) (fun _ => ?_) fun z => nomatch z
      exact ws_ret (EV.cmp (EV.var rfl) (EV.ix (EV.var rfl) EV.int (d := .str nm) rfl) (eq_str eO fit)) q
    | _ => exact ok.elim
def fineB (rus : List Ru) (st : List Sx) : Bool := (rus.zip st).all fun p => kp p.1 p.2
section
variable {h : Hm} {mo : Nat} {cls : List (List (List Nat))} {rus : List Ru} {S : List (List Sx)} {ks : List (List Sx × Nat)}
theorem zip_tups (rus : List Ru) (st : List Sx) : (((rlD rus).map D.tup).zip (st.map Sx.D)).map (fun p => D.tup [p.1, p.2]) = (rus.zip st).map fun p => .tup [.tup p.1.ds, p.2.D] := by
  rw [List.map_map, List.zip_map, List.map_map]; rfl
theorem p_fine {k : Nat} (C : CS cls rus S) (M : MH h mo cls (rlD rus) kvs) {st : List Sx} (hs : st ∈ S) : PV (Ga (k + 2)) f_Machine_fine [.loc mo, stD st] h (.bl (fineB rus st)) := by
  refine pv_def (df := b_Machine_fine) rfl rfl M.wf rfl fun X K q => ?_
  unfold b_Machine_fine
  have ok := C.ok st hs
  have lz : (rus.zip st).length ≤ 6 := by
    rw [List.length_zip]
    have := C.gp.mp.rl
    simp at this
    omega
  have zl : zipOf (.tup ((rlD rus).map .tup)) (stD st) = some (((rlD rus).map .tup).zip (st.map Sx.D)) := rfl
  refine ws_ret (d := .bl (true && fineB rus st)) (EV.and (EV.cmp (EV.var rfl) EV.non (d := true) rfl) fun _ => EV.bi (EVs.one (?_ : EV _ _ _ _ (.lst ((rus.zip st).map fun p => .bl (kp p.1 p.2))))) ?_) (by simpa using q)
  · refine EV.comp (fun p : Ru × Sx => D.tup [.tup p.1.ds, p.2.D]) _ (s := none) ?_ trivial (by unfold lim; omega) fun p hp => ⟨_, rfl, ?_⟩
    · rw [← zip_tups]
      exact EI.zip (EV.fld (EV.var rfl) M.o (okfM (by omega)) rfl) (EV.var rfl) zl
    · exact EV.meth' M mcl (EV.var rfl) (.cons (EV.var rfl) (.cons (EV.var rfl) .nil)) (p_keeps M.wf C.gp p.1 p.2 (C.fit _ (List.of_mem_zip (a := p.1) (b := p.2) hp).1) (zip_ok C ok p hp))
  · simp only [biD, lstOf, Option.bind_some, allBl_map, Option.map_some, all_map_id]
    rfl
/-! ### counting -/
def cnt (cls : List (List (List Nat))) (rus : List Ru) : Nat → List Sx → Nat
  | 0, st => if fineB rus st = true then 1 else 0
  | n + 1, st => (sgOf cls).foldl (fun t c => t + match stp cls rus st c with | none => 0 | some st' => cnt cls rus n st') 0
def mkD (k : List Sx × Nat) : D := .tup [stD k.1, .int (k.2 : Int)]
def msOf (cls : List (List (List Nat))) (rus : List Ru) (ms : List (List Sx × Nat)) : List (D × D) := ms.map fun k => (mkD k, .int (cnt cls rus k.2 k.1 : Int))
structure KMm (S : List (List Sx)) (ms : List (List Sx × Nat)) : Prop where
  nd : ms.Nodup
  mem : ∀ k ∈ ms, k.1 ∈ S ∧ k.2 ∈ List.range 24
structure MQ (h : Hm) (mo q : Nat) (cls : List (List (List Nat))) (rus : List Ru) (S : List (List Sx)) (ks ms : List (List Sx × Nat)) : Prop extends MM h mo cls rus S ks where
  qn : q < mo ∨ mo + 3 < q
  qk : h[q]? = some (.kd (msOf cls rus ms))
  km : KMm S ms
def hM (cls : List (List (List Nat))) (rus : List Ru) (h : Hm) (mo q : Nat) (ks ms : List (List Sx × Nat)) : Hm := (hK cls rus h mo ks).set q (.kd (msOf cls rus ms))
theorem ms_below (ms : List (List Sx × Nat)) (n : Nat) : belowO n (.kd (msOf cls rus ms)) = true := by
  show (List.all _ _) = true
  rw [msOf, List.all_map, List.all_eq_true]
  intro k _
  show ((below n (stD k.1) && (true && true)) && true) = true
  rw [stD_below]; rfl
variable {q : Nat} {ms : List (List Sx × Nat)}
theorem MQ.lt (M : MQ h mo q cls rus S ks ms) : q < h.length := (List.getElem?_eq_some_iff.mp M.qk).1
theorem MQ.next (M : MQ h mo q cls rus S ks ms) {ks' ms' : List (List Sx × Nat)} (K : KN cls S ks') (K2 : KMm S ms') : MQ (hM cls rus h mo q ks' ms') mo q cls rus S ks' ms' := by
  have M1 := M.toMM.next K
  have qn := M.qn
  have ql : q < (hK cls rus h mo ks').length := by unfold hK; rw [List.length_set]; exact M.lt
  unfold hM
  exact {
    wf := wf_set M1.wf (ms_below _ _)
    o := by rw [List.getElem?_set_ne (by omega)]; exact M1.o
    n := by rw [List.getElem?_set_ne (by omega)]; exact M1.n
    f := by rw [List.getElem?_set_ne (by omega)]; exact M1.f
    k := by rw [List.getElem?_set_ne (by omega)]; exact M1.k
    nd := K.nd
    mem := K.mem
    qn := M.qn
    qk := by rw [List.getElem?_set_self ql]
    km := K2 }
theorem hM_hM (M : MQ h mo q cls rus S ks ms) {ks1 ms1 ks2 ms2 : List (List Sx × Nat)} : hM cls rus (hM cls rus h mo q ks1 ms1) mo q ks2 ms2 = hM cls rus h mo q ks2 ms2 := by
  have qn := M.qn
  unfold hM hK
  rw [List.set_comm _ _ (show q ≠ mo + 3 by omega), List.set_set, List.set_set]
theorem MQ.same (M : MQ h mo q cls rus S ks ms) : hM cls rus h mo q ks ms = h := by
  unfold hM
  rw [M.toMM.same]
  exact set_same M.qk
theorem hK_hM (M : MQ h mo q cls rus S ks ms) {ks' : List (List Sx × Nat)} : hK cls rus h mo ks' = hM cls rus h mo q ks' ms := by
  unfold hM
  rw [set_same]
  have qn := M.qn
  unfold hK
  rw [List.getElem?_set_ne (by omega)]
  exact M.qk
theorem mk_eq (C : CS cls rus S) {a b : List Sx × Nat} (ha : a.1 ∈ S) (hb : b.1 ∈ S) : eqD (mkD a) (mkD b) = decide (a = b) := by
  have kh : ∀ a : List Sx × Nat, a.1 ∈ S → Mi.hsh 7 (mkD a) = true := fun a h => by
    show (Mi.hsh 6 (stD a.1) && (true && true)) = true
    have : Mi.hsh 6 (stD a.1) = true := C.hsh h 4
    rw [this]; rfl
  cases e : eqD (mkD a) (mkD b) with
  | true =>
    have := eqD_hsh 7 7 _ _ (kh a ha) (kh b hb) e
    simp only [mkD, D.tup.injEq, List.cons.injEq, D.int.injEq, and_true] at this
    have h1 := stD_inj this.1
    have : a = b := Prod.ext h1 (by omega)
    rw [this]; simp
  | false =>
    by_cases z : a = b
    · rw [z] at e
      rw [hsh_refl 7 _ (kh b hb)] at e
      cases e
    · simp [z]
theorem kget_ms (C : CS cls rus S) {ks : List (List Sx × Nat)} (K : ∀ k ∈ ks, k.1 ∈ S) {st : List Sx} (h : st ∈ S) (c : Nat) {f : List Sx × Nat → D} : kget (ks.map fun k => (mkD k, f k)) (mkD (st, c)) = if (st, c) ∈ ks then some (f (st, c)) else none := by
  induction ks with
  | nil => simp [kget]
  | cons k ks ih =>
    have ih := ih fun x hx => K x (.tail _ hx)
    unfold kget at *
    simp only [List.map_cons, List.find?_cons]
    rw [mk_eq C (K k (.head _)) h]
    by_cases z : k = (st, c)
    · subst z; simp
    · rw [decide_eq_false z]
      simp only
      rw [ih]
      have : ((st, c) ∈ k :: ks) ↔ (st, c) ∈ ks := by
        simp only [List.mem_cons, or_iff_right_iff_imp]
        intro e; exact absurd e.symm z
      simp only [this]
theorem mk_key (C : CS cls rus S) {st : List Sx} (h : st ∈ S) (c : Nat) : isKey (mkD (st, c)) = true := by
  show (Mi.hsh 6 (stD st) && (true && true)) = true
  have : Mi.hsh 6 (stD st) = true := C.hsh h 4
  rw [this]; rfl
theorem KMm.len (C : CS cls rus S) (K : KMm S ms) : ms.length < lim := by
  have h1 := prod_len K.nd K.mem
  have := C.sz
  rw [List.length_range] at h1
  omega
end
end Mi.G

set_option linter.all false
set_option maxRecDepth 100000
set_option maxHeartbeats 4000000
namespace Mi.G
open Mi
theorem we_meth {k m mo : Nat} {σ : Sl} {h : Hm} {X : PX} {o : E} {es : Es} {ds : List D} {fs : List (Nat × D)} {Q : PD} (H : h[mo]? = some (.ins 0 fs)) (hm : (Ga k).mcls m = 0) (ho : EV (Ga k) o σ h (.loc mo)) (ha : EVs (Ga k) es σ h ds) (c : (Ga k).call m (.loc mo :: ds) h Q X) : wpE (Ga k) X (.meth m o es) σ h Q := by
  simp only [wpE]
  exact ho X _ ⟨mo, fs, rfl, by rw [hm]; exact H, ha X _ c⟩
theorem wr_aug {Γ : Gam} {σ : Sl} {h : Hm} {X : PX} {K : Ks} {rest : Ss} {i : Nat} {o : Op} {e : E} {x : D} (hx : σ[i]? = some (some x)) (k : wpE Γ X e σ h fun y h => onSome (augD o x y) fun z => wpSs Γ X rest (σ.set i (some z)) h K) : wpSs Γ X (.cons (.aug i o e) rest) σ h K := by
  simp only [wpSs, wpS]
  exact ⟨x, hx, k⟩
section
variable {mo q : Nat} {cls : List (List (List Nat))} {rus : List Ru} {S : List (List Sx)}
def addC (cls : List (List (List Nat))) (rus : List Ru) (n : Nat) (st : List Sx) (t c : Nat) : Nat := t + match stp cls rus st c with | none => 0 | some st' => cnt cls rus n st'
theorem cnt_succ (n : Nat) (st : List Sx) : cnt cls rus (n + 1) st = (sgOf cls).foldl (addC cls rus n st) 0 := rfl
end
end Mi.G

set_option linter.all false
set_option maxRecDepth 100000
set_option maxHeartbeats 4000000
namespace Mi.G
open Mi
/-! ## a machine is made; count -/
def ru0 : Ru → Sx
  | .size _ _ => .n 0
  | .least _ _ => .n 0
  | .most _ _ => .n 0
  | .kinds _ => .ks []
  | .run _ => .rn [] 0
  | .row _ => .rn [] 0
  | _ => .tx []
theorem start_eq (rus : List Ru) : startD (rlD rus) = stD (rus.map ru0) := by
  unfold startD stD
  rw [List.map_map, List.map_map]
  congr 1
  refine List.map_congr_left fun r _ => ?_
  cases r <;> rfl
theorem init_ {k : Nat} : (Ga k).init 0 = f_Machine_init := by cases k <;> rfl
def mH (cls : List (List (List Nat))) (rus : List Ru) (n : Nat) : Hm := [.ins 0 (mFs cls (rlD rus) n), .sd (nmK cls), .sd (foK cls), .kd []]
theorem we_make {k : Nat} {σ : Sl} {h : Hm} {X : PX} {e : E} {Q : PD} {cls : List (List (List Nat))} {rus : List Ru} (w : WFb h = true) (m : MPol cls (rlD rus)) (he : EV (Ga (k + 2)) e σ h (polD cls (rlD rus))) (q : Q (.loc h.length) (h ++ mH cls rus h.length)) : wpE (Ga (k + 2)) X (.make 0 (.cons e .nil)) σ h Q := by
  simp only [wpE, wpEs]
  refine he X _ ?_
  rw [init_]
  exact x_init w m _ _ ⟨rfl, q⟩
theorem mm_made {h : Hm} (w : WFb h = true) {cls : List (List (List Nat))} {rus : List Ru} {S : List (List Sx)} (g : GP cls rus) : MM (h ++ mH cls rus h.length) h.length cls rus S [] where
  wf := by
    have rb := rulesD_below g.mp.at_
    have sb := startD_below g.mp.wd
    unfold WFb
    rw [List.all_append, Bool.and_eq_true]
    refine ⟨List.all_eq_true.mpr fun o ho => belowO_mono (by simp [mH]) (List.all_eq_true.mp w o ho), ?_⟩
    have n1 := nmK_below cls (h.length + 4)
    have n2 := foK_below cls (h.length + 4)
    simp only [mH, List.length_append, List.length_cons, List.length_nil, List.all_cons, List.all_nil, Bool.and_true, Bool.and_eq_true]
    refine ⟨?_, n1, n2, rfl⟩
    have rb' : belows (h.length + 4) ((rlD rus).map .tup) = true := rb _
    have sb' : below (h.length + 4) (startD (rlD rus)) = true := sb _
    generalize rlD rus = R at rb' sb' ⊢
    simp [belowO, mFs, rb', sb', below]
  o := by simp [mH]
  n := ap_get (k := 1)
  f := ap_get (k := 2)
  k := ap_get (k := 3)
  nd := List.nodup_nil
  mem := fun k h => nomatch h
theorem pol_is {k : Nat} {h : Hm} (w : WFb h = true) {cls : List (List (List Nat))} {rus : List Ru} (g : GP cls rus) : PV (Ga (k + 3)) f_is_policy [polD cls (rlD rus)] h (.bl (polOk cls (rlD rus))) :=
  p_is_policy w cls (rlD rus) g.oS (by have := g.mp.lc; unfold lim; omega) g.mp.at_ (Nat.le_trans g.mp.rl (by unfold lim; omega))
/-- the policy passes -/
theorem we_need {k : Nat} {σ : Sl} {h : Hm} {X : PX} {K : Ks} {rest : Ss} {i : Nat} (w : WFb h = true) {cls : List (List (List Nat))} {rus : List Ru} (g : GP cls rus) (po : polOk cls (rlD rus) = true) (e : σ[i]? = some (some (polD cls (rlD rus)))) (q : wpSs (Ga (k + 4)) X rest σ h K) : wpSs (Ga (k + 4)) X (.cons (.ex (.call f_need_policy (.cons (.var i) .nil))) rest) σ h K := by
  refine wr_ex (we_call (.cons (EV.var e) .nil) ?_)
  exact pr_need_policy w (pol_is w g) _ _ (fun _ => q) fun z => by rw [po] at z; cases z
/-! ## a closed set of states -/
def allL (names : List (List Nat)) : Nat → List (List (List Nat))
  | 0 => [[]]
  | n + 1 => [] :: names.flatMap fun x => (allL names n).map (x :: ·)
theorem allL_mem {names : List (List Nat)} : ∀ {n : Nat} {l : List (List Nat)}, l.length ≤ n → (∀ s ∈ l, s ∈ names) → l ∈ allL names n
  | 0, [], _, _ => .head _
  | 0, _ :: _, h, _ => by simp at h
  | n + 1, [], _, _ => .head _
  | n + 1, x :: l, h, hs => .tail _ (List.mem_flatMap.mpr ⟨x, hs x (.head _), List.mem_map.mpr ⟨l, allL_mem (by simpa using h) fun s hm => hs s (.tail _ hm), rfl⟩⟩)
def rS (cls : List (List (List Nat))) : Ru → List Sx
  | .size lo hi => (List.range (hi.getD lo + 1)).map .n
  | .least _ m => (List.range (m + 1)).map .n
  | .most _ m => (List.range (m + 1)).map .n
  | .kinds _ => ((allL (nmOf cls) cls.length).filter fun l => decide (l.Nodup) && l.all fun s => (nmOf cls).any (· == s)).map .ks
  | .run m => .rn [] 0 :: (sgOf cls).flatMap fun c => (List.range m).map fun k => .rn [c] (k + 1)
  | .row m => .rn [] 0 :: (sgOf cls).flatMap fun c => (List.range m).map fun k => .rn [c] (k + 1)
  | .not w => (List.range w.length).map fun i => .tx (w.take i)
  | .first _ => .tx [] :: (nmOf cls).map .tx
  | .last _ => .tx [] :: (nmOf cls).map .tx
theorem rS_ok {cls : List (List (List Nat))} {ru : Ru} {sx : Sx} (h : sx ∈ rS cls ru) : sxOk cls ru sx := by
  cases ru with
  | size lo hi => obtain ⟨k, _, rfl⟩ := List.mem_map.mp h; trivial
  | least nm m => obtain ⟨k, _, rfl⟩ := List.mem_map.mp h; trivial
  | most nm m => obtain ⟨k, _, rfl⟩ := List.mem_map.mp h; trivial
  | kinds m =>
    obtain ⟨l, hl, rfl⟩ := List.mem_map.mp h
    have := (List.mem_filter.mp hl).2
    simp only [Bool.and_eq_true, decide_eq_true_eq, List.all_eq_true, List.any_eq_true, beq_iff_eq] at this
    exact ⟨this.1, fun s hs => by obtain ⟨x, hx, e⟩ := this.2 s hs; rw [← e]; exact hx⟩
  | run m =>
    rcases List.mem_cons.mp h with e | e
    · rw [e]; exact .inl rfl
    · obtain ⟨c, hc, e⟩ := List.mem_flatMap.mp e
      obtain ⟨k, _, rfl⟩ := List.mem_map.mp e
      exact .inr ⟨c, hc, rfl⟩
  | row m =>
    rcases List.mem_cons.mp h with e | e
    · rw [e]; exact .inl rfl
    · obtain ⟨c, hc, e⟩ := List.mem_flatMap.mp e
      obtain ⟨k, _, rfl⟩ := List.mem_map.mp e
      exact .inr ⟨c, hc, rfl⟩
  | not w =>
    obtain ⟨i, hi, rfl⟩ := List.mem_map.mp h
    have := List.mem_range.mp hi
    exact ⟨by rw [List.length_take]; omega, fun c hc => List.mem_of_mem_take hc⟩
  | first nm =>
    rcases List.mem_cons.mp h with e | e
    · rw [e]; exact .inl rfl
    · obtain ⟨x, hx, rfl⟩ := List.mem_map.mp e; exact .inr hx
  | last nm =>
    rcases List.mem_cons.mp h with e | e
    · rw [e]; exact .inl rfl
    · obtain ⟨x, hx, rfl⟩ := List.mem_map.mp e; exact .inr hx
theorem rS_cl {cls : List (List (List Nat))} {ru : Ru} {sx s' : Sx} {c : Nat} (hc : c ∈ sgOf cls) (fit : ruFit cls ru) (h : sx ∈ rS cls ru) (e : mv cls ru sx c = some s') : s' ∈ rS cls ru := by
  have ok := mv_ok hc (rS_ok h) fit e
  have cn : ∀ {a b d} {s' : Sx}, cntN a b d = some s' → ∃ k, k ≤ b ∧ s' = .n k := fun {a b d s'} h => by
    unfold cntN at h
    split at h
    · cases h; exact ⟨_, by assumption, rfl⟩
    · split at h
      · cases h
      · cases h; exact ⟨_, Nat.le_refl _, rfl⟩
  cases ru with
  | size lo hi =>
    obtain ⟨k, _, rfl⟩ := List.mem_map.mp h
    obtain ⟨k', hk, rfl⟩ := cn e
    exact List.mem_map.mpr ⟨k', List.mem_range.mpr (by omega), rfl⟩
  | least nm m =>
    obtain ⟨k, _, rfl⟩ := List.mem_map.mp h
    obtain ⟨k', hk, rfl⟩ := cn e
    exact List.mem_map.mpr ⟨k', List.mem_range.mpr (by omega), rfl⟩
  | most nm m =>
    obtain ⟨k, _, rfl⟩ := List.mem_map.mp h
    obtain ⟨k', hk, rfl⟩ := cn e
    exact List.mem_map.mpr ⟨k', List.mem_range.mpr (by omega), rfl⟩
  | kinds m =>
    cases s' with
    | ks l =>
      obtain ⟨nd, sub⟩ := ok
      refine List.mem_map.mpr ⟨l, List.mem_filter.mpr ⟨allL_mem (nodup_len nd sub) sub, ?_⟩, rfl⟩
      simp only [Bool.and_eq_true, decide_eq_true_eq, List.all_eq_true, List.any_eq_true, beq_iff_eq]
      exact ⟨nd, fun s hs => ⟨s, sub s hs, rfl⟩⟩
    | _ => exact ok.elim
  | run m =>
    cases sx with
    | rn s k =>
      simp only [mv] at e
      have k1 : 1 ≤ (if s = [c] then k + 1 else 1) := by split <;> omega
      generalize (if s = [c] then k + 1 else 1) = kk at e k1
      split at e
      · cases e; exact .tail _ (List.mem_flatMap.mpr ⟨c, hc, List.mem_map.mpr ⟨kk - 1, List.mem_range.mpr (by omega), by rw [Nat.sub_add_cancel k1]⟩⟩)
      · cases e
    | _ => exact (rS_ok h).elim
  | row m =>
    cases sx with
    | rn s k =>
      simp only [mv] at e
      have k1 : 1 ≤ (if s ≠ [] ∧ folOf cls (s.headD 0) = some c then k + 1 else 1) := by split <;> omega
      generalize (if s ≠ [] ∧ folOf cls (s.headD 0) = some c then k + 1 else 1) = kk at e k1
      split at e
      · cases e; exact .tail _ (List.mem_flatMap.mpr ⟨c, hc, List.mem_map.mpr ⟨kk - 1, List.mem_range.mpr (by omega), by rw [Nat.sub_add_cancel k1]⟩⟩)
      · cases e
    | _ => exact (rS_ok h).elim
  | not w =>
    cases sx with
    | tx x =>
      simp only [mv] at e
      split at e
      · cases e
      · cases e
        obtain ⟨h1, h2, h3⟩ := sufP_le w (x ++ [c])
        have hp := List.isPrefixOf_iff_prefix.mp h2
        obtain ⟨ok1, ok2⟩ := ok
        exact List.mem_map.mpr ⟨(sufP w (x ++ [c])).length, List.mem_range.mpr ok1, by rw [List.prefix_iff_eq_take.mp hp]; simp⟩
    | _ => exact (rS_ok h).elim
  | first nm =>
    cases s' with
    | tx x =>
      rcases ok with z | z
      · rw [z]; exact .head _
      · exact .tail _ (List.mem_map.mpr ⟨x, z, rfl⟩)
    | _ => exact ok.elim
  | last nm =>
    cases s' with
    | tx x =>
      rcases ok with z | z
      · rw [z]; exact .head _
      · exact .tail _ (List.mem_map.mpr ⟨x, z, rfl⟩)
    | _ => exact ok.elim
theorem rS_0 {cls : List (List (List Nat))} {ru : Ru} (fit : ruFit cls ru) : ru0 ru ∈ rS cls ru := by
  cases ru with
  | size lo hi => exact List.mem_map.mpr ⟨0, List.mem_range.mpr (by omega), rfl⟩
  | least nm m => exact List.mem_map.mpr ⟨0, List.mem_range.mpr (by omega), rfl⟩
  | most nm m => exact List.mem_map.mpr ⟨0, List.mem_range.mpr (by omega), rfl⟩
  | kinds m => exact List.mem_map.mpr ⟨[], List.mem_filter.mpr ⟨allL_mem (Nat.zero_le _) (fun s h => nomatch h), by simp⟩, rfl⟩
  | run m => exact .head _
  | row m => exact .head _
  | not w => exact List.mem_map.mpr ⟨0, List.mem_range.mpr (List.length_pos_iff.mpr fit.2.2), rfl⟩
  | first nm => exact .head _
  | last nm => exact .head _
def prS (cls : List (List (List Nat))) : List Ru → List (List Sx)
  | [] => [[]]
  | r :: rs => (rS cls r).flatMap fun s => (prS cls rs).map (s :: ·)
theorem prS_ok {cls : List (List (List Nat))} : ∀ {rus : List Ru} {st : List Sx}, st ∈ prS cls rus → stOk cls rus st
  | [], st, h => by rw [List.mem_singleton.mp h]; trivial
  | r :: rs, st, h => by
    obtain ⟨s, hs, h⟩ := List.mem_flatMap.mp h
    obtain ⟨t, ht, rfl⟩ := List.mem_map.mp h
    exact ⟨rS_ok hs, prS_ok ht⟩
theorem prS_cl {cls : List (List (List Nat))} {c : Nat} (hc : c ∈ sgOf cls) : ∀ {rus : List Ru} {st st' : List Sx}, (∀ r ∈ rus, ruFit cls r) → st ∈ prS cls rus → stp cls rus st c = some st' → st' ∈ prS cls rus
  | [], st, st', _, h, e => by
    rw [List.mem_singleton.mp h] at e
    simp only [stp] at e
    cases e; exact .head _
  | r :: rs, st, st', f, h, e => by
    obtain ⟨s, hs, h⟩ := List.mem_flatMap.mp h
    obtain ⟨t, ht, rfl⟩ := List.mem_map.mp h
    simp only [stp] at e
    split at e
    · next a b e1 e2 =>
      cases e
      exact List.mem_flatMap.mpr ⟨a, rS_cl hc (f r (.head _)) hs e1, List.mem_map.mpr ⟨b, prS_cl hc (fun x hx => f x (.tail _ hx)) ht e2, rfl⟩⟩
    · cases e
theorem prS_0 {cls : List (List (List Nat))} : ∀ {rus : List Ru}, (∀ r ∈ rus, ruFit cls r) → rus.map ru0 ∈ prS cls rus
  | [], _ => .head _
  | r :: rs, f => List.mem_flatMap.mpr ⟨ru0 r, rS_0 (f r (.head _)), List.mem_map.mpr ⟨_, prS_0 fun x hx => f x (.tail _ hx), rfl⟩⟩
theorem prS_len {cls : List (List (List Nat))} {b : Nat} : ∀ {rus : List Ru}, (∀ r ∈ rus, (rS cls r).length ≤ b) → (prS cls rus).length ≤ b ^ rus.length
  | [], _ => by simp [prS]
  | r :: rs, h => by
    have ih := prS_len (rus := rs) fun x hx => h x (.tail _ hx)
    have e : ∀ A : List Sx, (A.flatMap fun s => (prS cls rs).map (s :: ·)).length = A.length * (prS cls rs).length := fun A => by
      induction A with
      | nil => simp
      | cons a A ih => simp only [List.flatMap_cons, List.length_append, List.length_map, ih, List.length_cons, Nat.add_mul]; omega
    unfold prS
    rw [e, List.length_cons, Nat.pow_succ, Nat.mul_comm]
    exact Nat.mul_le_mul ih (h r (.head _))
theorem drawn_gp {cls : List (List (List Nat))} {rus : List Ru} (d : Drawn cls rus) (l : rus.length ≤ 6) : GP cls rus := by
  obtain ⟨co, c1, c3, s1, s5, oS, l2⟩ := c5_facts cls d.c5
  obtain ⟨_, hp, h4, _⟩ := clsOk_two co
  refine ⟨⟨l2, fun ss hs => ?_, h4, by simpa using l, fun r hr => ?_, fun r hr => ?_⟩, co, oS⟩
  · have := (over_len (Bool.and_eq_true_iff.mp (List.all_eq_true.mp hp ss hs)).2).2.1
    omega
  · obtain ⟨ru, _, rfl⟩ := List.mem_map.mp hr
    cases ru <;> exact ⟨_, _, rfl⟩
  · obtain ⟨ru, h1, rfl⟩ := List.mem_map.mp hr
    exact ru_atoms d.c5 ru (d.ok ru h1)
theorem drawn_fit {cls : List (List (List Nat))} {rus : List Ru} (d : Drawn cls rus) : ∀ r ∈ rus, ruFit cls r := fun r hr => by
  obtain ⟨co, c1, c3, s1, s5, oS, l2⟩ := c5_facts cls d.c5
  have nmS : ∀ nm ∈ nmOf cls, okS nm = true := fun nm h => List.all_eq_true.mp (nm_okS oS) nm h
  have ok := d.ok r hr
  cases r with
  | least nm n => exact nmS nm ok.1
  | most nm n => exact nmS nm ok.1
  | first nm => exact nmS nm ok
  | last nm => exact nmS nm ok
  | not s =>
    obtain ⟨h1, h2, h3⟩ := ok
    have sgS := sg_okS co
    refine ⟨?_, by omega, fun e => by rw [e] at h1; simp at h1⟩
    simp only [okS, Bool.and_eq_true, decide_eq_true_eq, List.all_eq_true] at sgS ⊢
    exact ⟨by unfold lim; omega, fun c hc => sgS.2 c (h3 c hc)⟩
  | _ => trivial
end Mi.G

set_option linter.all false
set_option maxRecDepth 100000
set_option maxHeartbeats 4000000
namespace Mi.G
open Mi
section
variable {mo q : Nat} {cls : List (List (List Nat))} {rus : List Ru} {S : List (List Sx)}
theorem MQ.drop {h : Hm} {ks ms : List (List Sx × Nat)} (M : MQ h mo q cls rus S ks ms) {ks' ms' : List (List Sx × Nat)} (K : KN cls S ks') (K2 : KMm S ms') {Q : PD} {d : D} (b : below h.length d = true) (qq : Q d (hM cls rus h mo q ks' ms')) : dropQ h.length Q d (hM cls rus h mo q ks' ms') :=
  dropQ_len (by simp [hM, hK]) (M.next K K2).wf b qq
theorem x_many (C : CS cls rus S) : ∀ (n : Nat), n < 24 → ∀ {k : Nat} {h : Hm} {ks ms : List (List Sx × Nat)}, MQ h mo q cls rus S ks ms → ∀ {st : List Sx}, st ∈ S → ∀ (X : PX) (Q : PD), (∀ ks' ms', KN cls S ks' → KMm S ms' → Q (.int (cnt cls rus n st : Int)) (hM cls rus h mo q ks' ms')) →
    (Ga (k + n + 4)).call f_many_from [.loc mo, stD st, .int (n : Int), .loc q] h Q X
  | 0, _, k, h, ks, ms, M, st, hs, X, Q, qq => by
    show wpF (Ga (k + 3)) b_many_from _ _ _ _
    refine ⟨rfl, ?_⟩
    unfold b_many_from
    refine ws_if (c := true) (EV.cmp (EV.var rfl) EV.int eq_int) (fun _ => ?_) fun z => nomatch z
    have fin := M.drop ⟨M.nd, M.mem⟩ M.km (Q := Q) (d := .int (cnt cls rus 0 st : Int)) rfl (qq ks ms ⟨M.nd, M.mem⟩ M.km)
    rw [M.same] at fin
    refine ws_ret (d := .int (cnt cls rus 0 st : Int)) (EV.ite (EV.meth' M.toMH mcl (EV.var rfl) (.cons (EV.var rfl) .nil) (p_fine (k := k + 1) C M.toMH hs)) (fun z => ?_) fun z => ?_) fin
    · unfold cnt; rw [if_pos z]; exact EV.int
    · unfold cnt; rw [if_neg (by rw [z]; exact Bool.false_ne_true)]; exact EV.int
  | n + 1, hn, k, h, ks, ms, M, st, hs, X, Q, qq => by
    show wpF (Ga (k + n + 4)) b_many_from _ _ _ _
    refine ⟨rfl, ?_⟩
    unfold b_many_from
    have kk := mk_key C hs (n + 1)
    have e0 : cmB h .eq (.int ((n + 1 : Nat) : Int)) (.int 0) = some false := by
      rw [eq_int, decide_eq_false (by omega)]
    refine ws_if (c := false) (EV.cmp (EV.var rfl) EV.int e0) (fun z => nomatch z) fun _ => ?_
    have keyE : ∀ {h' : Hm} {σ : Sl}, σ[1]? = some (some (stD st)) → σ[2]? = some (some (.int ((n + 1 : Nat) : Int))) → EV (Ga (k + n + 4)) (.tup (.cons (.var 1) (.cons (.var 2) .nil))) σ h' (mkD (st, n + 1)) := fun e1 e2 => EV.tup (.cons (EV.var e1) (.cons (EV.var e2) .nil)) (by simp [lim])
    have inn : cmB h .notin (mkD (st, n + 1)) (.loc q) = some (!decide ((st, n + 1) ∈ ms)) := by
      have kg := kget_ms C (fun k hk => (M.km.mem k hk).1) hs (n + 1) (f := fun k => .int (cnt cls rus k.2 k.1 : Int))
      unfold mkD at kg kk ⊢
      simp only [cmB, inD, M.qk]
      show Option.map _ (if isKey (D.tup [stD st, .int ((n + 1 : Nat) : Int)]) = true then some (kget (msOf cls rus ms) (D.tup [stD st, .int ((n + 1 : Nat) : Int)])).isSome else none) = _
      rw [if_pos kk]
      unfold msOf mkD
      rw [kg]
      by_cases z : (st, n + 1) ∈ ms <;> simp [z]
    have retE : ∀ {h' : Hm} {ks' ms'} {σ : Sl}, MQ h' mo q cls rus S ks' ms' → (st, n + 1) ∈ ms' → σ[1]? = some (some (stD st)) → σ[2]? = some (some (.int ((n + 1 : Nat) : Int))) → σ[3]? = some (some (.loc q)) → EV (Ga (k + n + 4)) (.ix (.var 3) (.tup (.cons (.var 1) (.cons (.var 2) .nil)))) σ h' (.int (cnt cls rus (n + 1) st : Int)) := fun {h' ks' ms' σ} M' hm e1 e2 e3 => by
      refine EV.ix (EV.var e3) (keyE e1 e2) ?_
      have kg' := kget_ms C (fun k hk => (M'.km.mem k hk).1) hs (n + 1) (f := fun k => .int (cnt cls rus k.2 k.1 : Int))
      unfold mkD at kg' kk ⊢
      simp only [ixD, M'.qk]
      rw [if_pos kk]
      unfold msOf mkD
      rw [kg', if_pos hm]
    refine ws_ite (EV.cmp (keyE rfl rfl) (EV.var rfl) inn) (fun z => ?_) fun z => ?_
    · have z : (st, n + 1) ∉ ms := by simpa using z
      refine ws_set EV.int ?_
      refine ws_for (xs := (sgOf cls).map fun c => .str [c]) (s := none) (EI.of (EV.fld (EV.var rfl) M.o (okfM (by omega)) rfl) rfl) ?_
      have loop : ∀ (K : Ks) (cs : List Nat) (t : Nat) (ks1 ms1 : List (List Sx × Nat)) (s5 s6 : Option D), (∀ c ∈ cs, c ∈ sgOf cls) → KN cls S ks1 → KMm S ms1 →
          (∀ ks2 ms2 s5 s6, KN cls S ks2 → KMm S ms2 → K.nx [some (.loc mo), some (stD st), some (.int ((n + 1 : Nat) : Int)), some (.loc q), some (.int ((cs.foldl (addC cls rus n st) t : Nat) : Int)), s5, s6] (hM cls rus h mo q ks2 ms2)) →
          forW false [5] none (wpSs (Ga (k + n + 4)) (dropX h.length X) (.cons (.set 6 (.meth f_Machine_step (.var 0) (.cons (.var 1) (.cons (.var 5) .nil))))
    (.cons (.ite (.cmp .isnt (.var 6) .non) (.cons (.aug 4 .add (.call f_many_from (.cons (.var 0) (.cons (.var 6) (.cons (.op .sub (.var 2) (.int 1)) (.cons (.var 3) .nil))))))
     .nil) .nil)
    .nil))) K (cs.map fun c => .str [c]) [some (.loc mo), some (stD st), some (.int ((n + 1 : Nat) : Int)), some (.loc q), some (.int (t : Int)), s5, s6] (hM cls rus h mo q ks1 ms1) := fun K cs => by
        induction cs with
        | nil => intro t ks1 ms1 s5 s6 _ k1 k2 q'; exact ⟨trivial, q' _ _ _ _ k1 k2⟩
        | cons c cs ih =>
          intro t ks1 ms1 s5 s6 hc k1 k2 q'
          have M1 := M.next k1 k2
          refine ⟨trivial, _, rfl, ?_⟩
          refine wr_set (we_meth M1.o mcl (EV.var rfl) (.cons (EV.var rfl) (.cons (EV.var rfl) .nil)) ?_)
          refine x_step (k := k + n + 1) C M1.toMM hs (hc c (.head _)) _ _ fun ks2 kn2 => ?_
          rw [hK_hM M1, hM_hM M]
          have q2 := fun ks2 ms2 s5 s6 a b => q' ks2 ms2 s5 s6 a b
          simp only [List.foldl_cons] at q2
          unfold addC at q2 ih
          cases e : stp cls rus st c with
          | none =>
            rw [e] at q2
            refine ws_if (c := false) (EV.cmp (EV.var rfl) EV.non rfl) (fun z => nomatch z) fun _ => ws_nil ?_
            exact ih _ _ _ _ _ (fun x hx => hc x (.tail _ hx)) kn2 k2 q2
          | some st' =>
            rw [e] at q2
            have hs' := C.cl st hs c (hc c (.head _)) st' e
            refine ws_ite (c := true) (EV.cmp (EV.var rfl) EV.non rfl) (fun _ => ?_) fun z => nomatch z
            refine wr_aug rfl (we_call (ds := [.loc mo, stD st', .int (n : Int), .loc q]) (.cons (EV.var rfl) (.cons (EV.var rfl) (.cons (EV.op (EV.var rfl) EV.int (by show some (D.int _) = _; congr 2; omega)) (.cons (EV.var rfl) .nil)))) ?_)
            have M2 := M.next kn2 k2
            refine x_many C n (by omega) (k := k) M2 hs' _ _ fun ks3 ms3 kn3 km3 => onS rfl ?_
            rw [hM_hM M]
            refine ws_nil ?_
            refine ws_nil (Γ := Ga (k + n + 4)) (X := dropX h.length X) ?_
            exact ih _ _ _ _ _ (fun x hx => hc x (.tail _ hx)) kn3 km3 q2
      have M0 := M.same
      have start := loop { nx := fun σ h' => wpSs (Ga (k + n + 4)) (dropX h.length X) (.cons (.sub (.var 3) (.tup (.cons (.var 1) (.cons (.var 2) .nil))) (.var 4)) .nil) σ h' { nx := fun σ h' => wpSs (Ga (k + n + 4)) (dropX h.length X) (.cons (.ret (.ix (.var 3) (.tup (.cons (.var 1) (.cons (.var 2) .nil))))) .nil) σ h' { nx := fun _ h' => dropQ h.length Q .non h', rt := dropQ h.length Q, bk := fun _ _ => False, ct := fun _ _ => False }, rt := dropQ h.length Q, bk := fun _ _ => False, ct := fun _ _ => False }, rt := dropQ h.length Q, bk := fun _ _ => False, ct := fun _ _ => False } (sgOf cls) 0 ks ms none none (fun c h => h) ⟨M.nd, M.mem⟩ M.km ?_
      · rw [M0] at start
        exact start
      · intro ks2 ms2 s5 s6 kn2 km2
        rw [← cnt_succ]
        have M2 := M.next kn2 km2
        by_cases zz : (st, n + 1) ∈ ms2
        · -- noted meanwhile
          refine ws_sub (z := .int (cnt cls rus (n + 1) st : Int)) (h' := hM cls rus h mo q ks2 ms2) (EV.var rfl) (EV.var rfl) (keyE rfl rfl) ?_ (ws_nil ?_)
          · have kl : (msOf cls rus ms2).length < lim := by unfold msOf; rw [List.length_map]; exact km2.len C
            have kg := kget_ms C (fun k hk => (km2.mem k hk).1) hs (n + 1) (f := fun k => .int (cnt cls rus k.2 k.1 : Int))
            unfold mkD at kk kg ⊢
            simp only [subD, M2.qk]
            rw [if_pos ⟨kk, kl⟩]
            congr 1
            have e2 : kput (msOf cls rus ms2) (D.tup [stD st, .int ((n + 1 : Nat) : Int)]) (.int (cnt cls rus (n + 1) st : Int)) = msOf cls rus ms2 := by
              unfold kput
              have kn : kget (msOf cls rus ms2) (D.tup [stD st, .int ((n + 1 : Nat) : Int)]) = some (.int (cnt cls rus (n + 1) st : Int)) := by unfold msOf mkD; rw [kg, if_pos zz]
              rw [kn]
              simp only [Option.isSome_some, if_true]
              unfold msOf
              rw [List.map_map]
              refine List.map_congr_left fun k hk => ?_
              simp only [Function.comp]
              have me := mk_eq C (a := k) (b := (st, n + 1)) (km2.mem k hk).1 hs
              unfold mkD at me ⊢
              rw [me]
              by_cases y : k = (st, n + 1)
              · subst y; simp
              · simp [y]
            rw [e2]
            exact set_same M2.qk
          · refine ws_ret (retE M2 zz rfl rfl rfl) ?_
            exact M.drop kn2 km2 rfl (qq _ _ kn2 km2)
        · have km3 : KMm S (ms2 ++ [(st, n + 1)]) := ⟨List.nodup_append.mpr ⟨km2.nd, by simp, fun a ha b hb => by
            rw [List.mem_singleton.mp hb]; intro e; rw [e] at ha; exact zz ha⟩, fun k hk => by
            rcases List.mem_append.mp hk with q | q
            · exact km2.mem k q
            · rw [List.mem_singleton.mp q]; exact ⟨hs, List.mem_range.mpr hn⟩⟩
          refine ws_sub (z := .int (cnt cls rus (n + 1) st : Int)) (h' := hM cls rus h mo q ks2 (ms2 ++ [(st, n + 1)])) (EV.var rfl) (EV.var rfl) (keyE rfl rfl) ?_ (ws_nil ?_)
          · have kl : (msOf cls rus ms2).length < lim := by unfold msOf; rw [List.length_map]; exact km2.len C
            have kg := kget_ms C (fun k hk => (km2.mem k hk).1) hs (n + 1) (f := fun k => .int (cnt cls rus k.2 k.1 : Int))
            unfold mkD at kk kg ⊢
            simp only [subD, M2.qk]
            rw [if_pos ⟨kk, kl⟩]
            congr 1
            have e2 : kput (msOf cls rus ms2) (D.tup [stD st, .int ((n + 1 : Nat) : Int)]) (.int (cnt cls rus (n + 1) st : Int)) = msOf cls rus (ms2 ++ [(st, n + 1)]) := by
              unfold kput
              have kn : kget (msOf cls rus ms2) (D.tup [stD st, .int ((n + 1 : Nat) : Int)]) = none := by unfold msOf mkD; rw [kg, if_neg zz]
              rw [kn]
              simp [msOf, mkD]
            rw [e2]
            unfold hM
            rw [List.set_set]
          · refine ws_ret (retE (M.next kn2 km3) (by simp) rfl rfl rfl) ?_
            exact M.drop kn2 km3 rfl (qq _ _ kn2 km3)
    · have z : (st, n + 1) ∈ ms := by simpa using z
      refine ws_nil ?_
      refine ws_ret (retE M z rfl rfl rfl) ?_
      have := M.drop ⟨M.nd, M.mem⟩ M.km (Q := Q) (d := .int (cnt cls rus (n + 1) st : Int)) rfl (qq ks ms ⟨M.nd, M.mem⟩ M.km)
      rw [M.same] at this
      exact this
end
end Mi.G

set_option linter.all false
set_option maxRecDepth 100000
set_option maxHeartbeats 4000000
namespace Mi.G
open Mi
theorem pr_need_size {k : Nat} {h : Hm} (w : WFb h = true) (g5 : (Ga (k + 1)).gl 5 = some (.int 20)) (v : D) (hv : simpV v = true) : PR (Ga (k + 2)) f_need_size [v] h (isCount v 0 20) 2 := fun X Q q1 q2 => by
  show wpF (Ga (k + 1)) b_need_size [v] h Q X
  refine ⟨rfl, ?_⟩
  unfold b_need_size
  refine ws_if (EV.not (EV.call (.cons (EV.var rfl) (.cons EV.int (.cons (EV.gl g5) .nil))) (p_is_count w v 0 20 hv))) (fun hb => ws_rai ?_) fun hb => ws_nil ?_
  · exact (dropX_iff w).mpr (q2 (by simpa using hb))
  · exact (dropQ_iff w).mpr ⟨rfl, q1 (by simpa using hb)⟩
theorem gl5 {k : Nat} : (Ga k).gl 5 = some (.int 20) := by rw [gl_]; rfl
theorem x_count {k n : Nat} {h : Hm} (w : WFb h = true) {cls : List (List (List Nat))} {rus : List Ru} {S : List (List Sx)} (C : CS cls rus S) (s0 : rus.map ru0 ∈ S) (po : polOk cls (rlD rus) = true) (hn : n ≤ 20) : PV (Ga (k + n + 5)) f_count [polD cls (rlD rus), .int (n : Int)] h (.int (cnt cls rus n (rus.map ru0) : Int)) := fun X Q q => by
  show wpF (Ga (k + n + 4)) b_count _ _ _ _
  refine ⟨rfl, ?_⟩
  unfold b_count
  refine we_need (k := k + n) w C.gp po rfl ?_
  refine wr_ex (we_call (.cons (EV.var rfl) .nil) ?_)
  refine pr_need_size (k := k + n + 2) w gl5 (.int (n : Int)) rfl _ _ (fun _ => ?_) fun z => ?_
  · refine wr_set (we_make (k := k + n + 2) w C.gp.mp (EV.var rfl) ?_)
    have M := mm_made (S := S) w C.gp
    refine wr_ret ?_
    simp only [wpE, wpEs]
    refine ⟨_, rfl, _, rfl, h.length, 0, _, startD (rlD rus), rfl, ⟨M.o, okfM (by omega)⟩, rfl, _, rfl, ?_⟩
    have lq : (h ++ mH cls rus h.length).length = h.length + 4 := by simp [mH]
    rw [start_eq, lq]
    have MQ0 : MQ ((h ++ mH cls rus h.length) ++ [if true = true then MO.kd [] else .sd []]) h.length (h.length + 4) cls rus S [] [] := {
      wf := wf_app M.wf rfl
      o := by rw [List.getElem?_append_left (by rw [lq]; omega)]; exact M.o
      n := by rw [List.getElem?_append_left (by rw [lq]; omega)]; exact M.n
      f := by rw [List.getElem?_append_left (by rw [lq]; omega)]; exact M.f
      k := by rw [List.getElem?_append_left (by rw [lq]; omega)]; exact M.k
      nd := M.nd
      mem := M.mem
      qn := .inr (by omega)
      qk := by rw [← lq]; simp [msOf]
      km := ⟨List.nodup_nil, fun k h => nomatch h⟩ }
    refine x_many C n (by omega) (k := k) MQ0 s0 _ _ fun ks' ms' kn km => ?_
    have e : hM cls rus ((h ++ mH cls rus h.length) ++ [if true = true then MO.kd [] else .sd []]) h.length (h.length + 4) ks' ms' = h ++ [.ins 0 (mFs cls (rlD rus) h.length), .sd (nmK cls), .sd (foK cls), .kd (kvOf cls rus ks'), .kd (msOf cls rus ms')] := by
      unfold hM hK mH
      rw [List.append_assoc, ap_set, ap_set]
      rfl
    rw [e]
    exact dropQ_app w rfl q
  · simp [isCount] at z; omega
end Mi.G

set_option linter.all false
set_option maxRecDepth 100000
set_option maxHeartbeats 4000000
namespace Mi.G
open Mi
/-! ## law k02: who raises -/
def RX (Γ : Gam) (f : Nat) (ds : List D) (h : Hm) (c : Nat) : Prop := ∀ (X : PX) (Q : PD), X c h → Γ.call f ds h Q X
section
variable {k : Nat} {h : Hm} {d : D} {c : Nat}
/-- the first statement raises -/
theorem rx_first {f g : Nat} {df : Df} {rest : Ss} {es : Es} {ds as : List D} (w : WFb h = true) (e : tm.df.getD f ⟨0, 0, .nil⟩ = df) (b : df.body = .cons (.ex (.call g es)) rest) (l : ds.length = df.np) (ha : EVs (Ga k) es (Mi.start df.ns ds) h as) (r : RX (Ga k) g as h c) : RX (Ga (k + 1)) f ds h c := fun X Q q => by
  show wpF (Ga k) (tm.df.getD f ⟨0, 0, .nil⟩) ds h Q X
  rw [e]
  refine ⟨l, ?_⟩
  rw [b]
  exact wr_ex (we_call ha (r _ _ ((dropX_iff w).mpr q)))
theorem rx_need {v : D} (w : WFb h = true) (p : PV (Ga k) f_is_policy [v] h (.bl false)) : RX (Ga (k + 1)) f_need_policy [v] h 0 := fun X Q q => pr_need_policy w p X Q (fun z => nomatch z) fun _ => q
variable {cls : List (List (List Nat))} {rus : List Ru} (w : WFb h = true) (g : GP cls rus) (po : polOk cls (rlD rus) = true)
include w g po
abbrev PD_ (cls : List (List (List Nat))) (rus : List Ru) : D := polD cls (rlD rus)
/-- behind a policy that passes -/
theorem rx_second {f g2 : Nat} {df : Df} {rest : Ss} {es : Es} {ds as : List D} (e : tm.df.getD f ⟨0, 0, .nil⟩ = df) (b : df.body = .cons (.ex (.call f_need_policy (.cons (.var 0) .nil))) (.cons (.ex (.call g2 es)) rest)) (l : ds.length = df.np) (p0 : (Mi.start df.ns ds)[0]? = some (some (polD cls (rlD rus)))) (ha : EVs (Ga (k + 4)) es (Mi.start df.ns ds) h as) (r : RX (Ga (k + 4)) g2 as h c) : RX (Ga (k + 5)) f ds h c := fun X Q q => by
  show wpF (Ga (k + 4)) (tm.df.getD f ⟨0, 0, .nil⟩) ds h Q X
  rw [e]
  refine ⟨l, ?_⟩
  rw [b]
  exact we_need w g po p0 (wr_ex (we_call ha (r _ _ ((dropX_iff w).mpr q))))
theorem rx_pair (r : RX (Ga (k + 4)) f_need_policy [d] h 0) : RX (Ga (k + 5)) f_need_pair [polD cls (rlD rus), d] h 0 :=
  rx_second w g po (df := b_need_pair) rfl rfl rfl rfl (.cons (EV.var rfl) .nil) r
theorem rx_parting (r : RX (Ga (k + 4)) f_need_policy [d] h 0) : RX (Ga (k + 6)) f_parting [polD cls (rlD rus), d] h 0 :=
  rx_first w (df := b_parting) rfl rfl rfl (.cons (EV.var rfl) (.cons (EV.var rfl) .nil)) (rx_pair w g po r)
theorem rx_common (r : RX (Ga (k + 4)) f_need_policy [d] h 0) : RX (Ga (k + 6)) f_common [polD cls (rlD rus), d] h 0 :=
  rx_first w (df := b_common) rfl rfl rfl (.cons (EV.var rfl) (.cons (EV.var rfl) .nil)) (rx_pair w g po r)
omit w g po
theorem rx_string (w : WFb h = true) (g : GP cls rus) (v : D) (hv : okV v = true) (o : isOver v (sgOf cls) 0 20 = false) : RX (Ga (k + 3)) f_need_string [polD cls (rlD rus), v] h 1 := fun X Q q => by
  show wpF (Ga (k + 2)) b_need_string _ _ _ _
  refine ⟨rfl, ?_⟩
  unfold b_need_string
  have p := p_is_over (k := k + 1) w v (sgOf cls) 0 20 hv
  rw [o] at p
  refine ws_if (c := true) (EV.not (x := false) (EV.call (.cons (EV.var rfl) (.cons (EV.call (.cons (EV.var rfl) .nil) (p_signs_of (k := k + 1) w cls _ (fun ss hs => by rw [g.mp.two ss hs]; omega) (by have := g.mp.sgl; unfold lim; omega) (by have := g.mp.lc; unfold lim; omega))) (.cons EV.int (.cons (EV.gl gl5) .nil)))) p)) (fun _ => ws_rai ((dropX_iff w).mpr q)) fun z => nomatch z
include w g po
theorem rx_broken (v : D) (hv : okV v = true) (o : isOver v (sgOf cls) 0 20 = false) : RX (Ga (k + 5)) f_broken [polD cls (rlD rus), v] h 1 :=
  rx_second w g po (df := b_broken) rfl rfl rfl rfl (.cons (EV.var rfl) (.cons (EV.var rfl) .nil)) (rx_string w g v hv o)
theorem rx_mended (v : D) (hv : okV v = true) (o : isOver v (sgOf cls) 0 20 = false) : RX (Ga (k + 5)) f_mended [polD cls (rlD rus), v] h 1 :=
  rx_second w g po (df := b_mended) rfl rfl rfl rfl (.cons (EV.var rfl) (.cons (EV.var rfl) .nil)) (rx_string w g v hv o)
theorem rx_place_of (v : D) (hv : okV v = true) (o : isOver v (sgOf cls) 0 20 = false) : RX (Ga (k + 5)) f_place_of [polD cls (rlD rus), v] h 1 :=
  rx_second w g po (df := b_place_of) rfl rfl rfl rfl (.cons (EV.var rfl) (.cons (EV.var rfl) .nil)) (rx_string w g v hv o)
omit g po in
theorem rx_ret {f g2 : Nat} {df : Df} {e2 : E} {rest : Ss} {es : Es} {ds as : List D} (e : tm.df.getD f ⟨0, 0, .nil⟩ = df) (b : df.body = .cons (.ret (.cmp .eq (.call g2 es) e2)) rest) (l : ds.length = df.np) (ha : EVs (Ga k) es (Mi.start df.ns ds) h as) (r : RX (Ga k) g2 as h c) : RX (Ga (k + 1)) f ds h c := fun X Q q => by
  show wpF (Ga k) (tm.df.getD f ⟨0, 0, .nil⟩) ds h Q X
  rw [e]
  refine ⟨l, ?_⟩
  rw [b]
  exact wr_ret (we_cmp (we_call ha (r _ _ ((dropX_iff w).mpr q))))
theorem rx_allows (v : D) (hv : okV v = true) (o : isOver v (sgOf cls) 0 20 = false) : RX (Ga (k + 6)) f_allows [polD cls (rlD rus), v] h 1 :=
  rx_ret w (df := b_allows) rfl rfl rfl (.cons (EV.var rfl) (.cons (EV.var rfl) .nil)) (rx_broken w g po v hv o)
omit g po in
theorem rx_size (v : D) (hv : simpV v = true) (o : isCount v 0 20 = false) : RX (Ga (k + 2)) f_need_size [v] h 2 := fun X Q q => pr_need_size w gl5 v hv X Q (fun z => by rw [o] at z; cases z) fun _ => q
theorem rx_count (v : D) (hv : simpV v = true) (o : isCount v 0 20 = false) : RX (Ga (k + 5)) f_count [polD cls (rlD rus), v] h 2 :=
  rx_second w g po (df := b_count) rfl rfl rfl rfl (.cons (EV.var rfl) .nil) (rx_size (k := k + 2) w v hv o)
theorem rx_at_size (v x : D) (hv : simpV v = true) (o : isCount v 0 20 = false) : RX (Ga (k + 5)) f_at_place [polD cls (rlD rus), v, x] h 2 :=
  rx_second w g po (df := b_at_place) rfl rfl rfl rfl (.cons (EV.var rfl) .nil) (rx_size (k := k + 2) w v hv o)
theorem rx_at_number {S : List (List Sx)} (C : CS cls rus S) (s0 : rus.map ru0 ∈ S) (x : D) (hx : simpV x = true) (o : ∀ hi, isCount x 0 hi = false) : RX (Ga (k + 7)) f_at_place [polD cls (rlD rus), .int 2, x] h 2 := fun X Q q => by
  show wpF (Ga (k + 6)) b_at_place _ _ _ _
  refine ⟨rfl, ?_⟩
  unfold b_at_place
  refine we_need (k := k + 2) w C.gp po rfl ?_
  refine wr_ex (we_call (.cons (EV.var rfl) .nil) ?_)
  refine pr_need_size (k := k + 4) w gl5 (.int 2) rfl _ _ (fun _ => ?_) fun z => nomatch z
  refine wr_par (wes_cons (we_make (k := k + 4) w C.gp.mp (EV.var rfl) (wes_cons ?_)))
  have M := mm_made (S := S) w C.gp
  have lq : (h ++ mH cls rus h.length).length = h.length + 4 := by simp [mH]
  have MQ0 : MQ ((h ++ mH cls rus h.length) ++ [if true = true then MO.kd [] else .sd []]) h.length (h.length + 4) cls rus S [] [] := {
    wf := wf_app M.wf rfl
    o := by rw [List.getElem?_append_left (by rw [lq]; omega)]; exact M.o
    n := by rw [List.getElem?_append_left (by rw [lq]; omega)]; exact M.n
    f := by rw [List.getElem?_append_left (by rw [lq]; omega)]; exact M.f
    k := by rw [List.getElem?_append_left (by rw [lq]; omega)]; exact M.k
    nd := M.nd
    mem := M.mem
    qn := .inr (by omega)
    qk := by rw [← lq]; simp [msOf]
    km := ⟨List.nodup_nil, fun k h => nomatch h⟩ }
  simp only [wpE]
  refine wes_nil ?_
  show wpSs (Ga (k + 6)) _ _ [some (polD cls (rlD rus)), some (.int 2), some x, some (.loc h.length), some (.loc (h ++ mH cls rus h.length).length), none, none, none, none, none] ((h ++ mH cls rus h.length) ++ [if true = true then MO.kd [] else .sd []]) _
  rw [lq]
  simp only [wpSs, wpS, wpE, wpEs]
  refine ⟨x, rfl, .loc h.length, rfl, .loc h.length, rfl, h.length, 0, _, startD (rlD rus), rfl, ⟨MQ0.o, okfM (by omega)⟩, rfl, .int 2, rfl, _, rfl, ?_⟩
  rw [start_eq]
  refine x_many C 2 (by omega) (k := k) MQ0 s0 _ _ fun ks' ms' kn km => onS rfl ?_
  have M2 := MQ0.next kn km
  refine p_is_count (k := k + 5) M2.wf x 0 _ hx _ _ ⟨_, rfl, .inl ⟨by rw [o]; rfl, ?_⟩⟩
  have e : hM cls rus ((h ++ mH cls rus h.length) ++ [if true = true then MO.kd [] else .sd []]) h.length (h.length + 4) ks' ms' = h ++ [.ins 0 (mFs cls (rlD rus) h.length), .sd (nmK cls), .sd (foK cls), .kd (kvOf cls rus ks'), .kd (msOf cls rus ms')] := by
    unfold hM hK mH
    rw [List.append_assoc, ap_set, ap_set]
    rfl
  rw [e]
  exact dropX_app w q
end
end Mi.G

set_option linter.all false
namespace Mi.G
open Mi
mutual
theorem eqD_refl : ∀ (n : Nat) (d : D), flat n d = true → eqD d d = true
  | _, .non, _ => rfl
  | _, .bl b, _ => by simp [eqD]
  | _, .int b, _ => by simp [eqD]
  | _, .str b, _ => by simp [eqD]
  | 0, .tup ds, h => by simp [flat] at h
  | n + 1, .tup ds, h => by simp only [flat] at h; simp only [eqD]; exact eqDs_refl n ds h
  | 0, .lst ds, h => by simp [flat] at h
  | n + 1, .lst ds, h => by simp only [flat] at h; simp only [eqD]; exact eqDs_refl n ds h
  | n, .loc _, h => by cases n <;> simp [flat] at h
  | n, .fn _, h => by cases n <;> simp [flat] at h
  | n, .scr _, h => by cases n <;> simp [flat] at h
theorem eqDs_refl : ∀ (n : Nat) (ds : List D), flats n ds = true → eqDs ds ds = true
  | _, [], _ => rfl
  | n, d :: ds, h => by
    simp only [flats, Bool.and_eq_true] at h
    simp only [eqDs, eqD_refl n d h.1, eqDs_refl n ds h.2, Bool.and_self]
end
theorem ne_same {h : Hm} {d : D} (hd : ∀ n, d ≠ .loc n) (hs : ∀ n, d ≠ .scr n) (f : flat 20 d = true) : cmB h .ne d d = some false := by
  have e : deref h d = d := by cases d <;> first | rfl | exact absurd rfl (hd _) | exact absurd rfl (hs _)
  simp only [cmB, eqQ, e, f, Bool.and_self, if_true, Option.map_some, eqD_refl 20 d f]
  rfl
end Mi.G

set_option linter.all false
set_option maxRecDepth 100000
set_option maxHeartbeats 4000000
namespace Mi.G
open Mi
/-! ## law k02: asking -/
theorem ws_try {Γ : Gam} {σ : Sl} {h : Hm} {X : PX} {K : Ks} {b rest : Ss} (q : wpSs Γ (fun c h' => c < 8 ∧ K.rt (.tup [.str raisedT, .int (c : Int)]) h') b σ h { K with nx := fun σ h => wpSs Γ X rest σ h K }) : wpSs Γ X (.cons (.try b) rest) σ h K := by
  simp only [wpSs, wpS]
  exact q
theorem we_callv {Γ : Gam} {σ : Sl} {h : Hm} {X : PX} {Q : PD} {e : E} {es : Es} {f : Nat} {ds : List D} (hf : EV Γ e σ h (.fn f)) (ha : EVs Γ es σ h ds) (q : Γ.call f ds h Q X) : wpE Γ X (.callv e es) σ h Q := by
  simp only [wpE]
  exact hf X _ ⟨f, rfl, ha X _ q⟩
def fl1 : List Nat := [f_characters, f_first, f_idle, f_core, f_total]
def fl2 : List Nat := [f_broken, f_allows, f_mended, f_count, f_place_of, f_parting, f_common]
theorem fl_ix {l : List Nat} {h : Hm} {w : Nat} (hw : w < l.length) : ixD h (.lst (l.map .fn)) (.int (w : Int)) = some (.fn (l.getD w 0)) := by
  show at_ _ _ = _
  rw [at_nat, List.getElem?_map, List.getElem?_eq_getElem hw]
  simp [List.getD, List.getElem?_eq_getElem hw]
theorem lt_b {h : Hm} {a b : Int} {c : Bool} (e : decide (a < b) = c) : cmB h .lt (.int a) (.int b) = some c := by rw [← e]; rfl
section
variable {k : Nat} {h : Hm} {one other third : D} {c : Nat} (w : WFb h = true) (hc : c < 8)
include w hc
theorem ask1 {i : Nat} (hi : i < 5) (r : RX (Ga k) (fl1.getD i 0) [one] h c) : PV (Ga (k + 1)) f_law_ask [.int (i : Int), one, other, third] h (.tup [.str raisedT, .int (c : Int)]) := fun X Q q => by
  show wpF (Ga k) b_law_ask _ _ _ _
  refine ⟨rfl, ?_⟩
  unfold b_law_ask
  refine ws_try ?_
  refine ws_if (c := true) (EV.cmp (EV.var rfl) EV.int (lt_b (decide_eq_true (by omega)))) (fun _ => ?_) fun z => nomatch z
  refine wr_ret (we_callv (EV.ix (EV.lst (ds := fl1.map .fn) (.cons EV.fn (.cons EV.fn (.cons EV.fn (.cons EV.fn (.cons EV.fn .nil))))) (by simp [fl1, lim])) (EV.var rfl) (fl_ix hi)) (.cons (EV.var rfl) .nil) ?_)
  exact r _ _ ⟨hc, (dropQ_iff w).mpr ⟨rfl, q⟩⟩
theorem ask2 {i : Nat} (h6 : 6 ≤ i) (h13 : i < 13) (r : RX (Ga k) (fl2.getD (i - 6) 0) [one, other] h c) : PV (Ga (k + 1)) f_law_ask [.int (i : Int), one, other, third] h (.tup [.str raisedT, .int (c : Int)]) := fun X Q q => by
  show wpF (Ga k) b_law_ask _ _ _ _
  refine ⟨rfl, ?_⟩
  unfold b_law_ask
  refine ws_try ?_
  refine ws_if (c := false) (EV.cmp (EV.var rfl) EV.int (lt_b (decide_eq_false (by omega)))) (fun z => nomatch z) fun _ => ?_
  refine ws_if (c := false) (EV.cmp (EV.var rfl) EV.int (by rw [eq_int, decide_eq_false (by omega)])) (fun z => nomatch z) fun _ => ?_
  refine ws_if (c := true) (EV.cmp (EV.var rfl) EV.int (lt_b (decide_eq_true (by omega)))) (fun _ => ?_) fun z => nomatch z
  refine wr_ret (we_callv (EV.ix (EV.lst (ds := fl2.map .fn) (.cons EV.fn (.cons EV.fn (.cons EV.fn (.cons EV.fn (.cons EV.fn (.cons EV.fn (.cons EV.fn .nil))))))) (by simp [fl2, lim])) (EV.op (EV.var rfl) EV.int (d := .int ((i - 6 : Nat) : Int)) (by show some (D.int _) = _; congr 2; omega)) (fl_ix (by show i - 6 < 7; omega))) (.cons (EV.var rfl) (.cons (EV.var rfl) .nil)) ?_)
  exact r _ _ ⟨hc, (dropQ_iff w).mpr ⟨rfl, q⟩⟩
theorem ask3 (r : RX (Ga k) f_at_place [one, other, third] h c) : PV (Ga (k + 1)) f_law_ask [.int 13, one, other, third] h (.tup [.str raisedT, .int (c : Int)]) := fun X Q q => by
  show wpF (Ga k) b_law_ask _ _ _ _
  refine ⟨rfl, ?_⟩
  unfold b_law_ask
  refine ws_try ?_
  refine ws_if (c := false) (EV.cmp (EV.var rfl) EV.int rfl) (fun z => nomatch z) fun _ => ?_
  refine ws_if (c := false) (EV.cmp (EV.var rfl) EV.int rfl) (fun z => nomatch z) fun _ => ?_
  refine ws_if (c := false) (EV.cmp (EV.var rfl) EV.int rfl) (fun z => nomatch z) fun _ => ?_
  refine wr_ret (we_call (.cons (EV.var rfl) (.cons (EV.var rfl) (.cons (EV.var rfl) .nil))) ?_)
  exact r _ _ ⟨hc, (dropQ_iff w).mpr ⟨rfl, q⟩⟩
theorem ask5 (r : RX (Ga k) f_Typist_init [.loc h.length, one] (h ++ [.ins 1 []]) c) : PV (Ga (k + 1)) f_law_ask [.int 5, one, other, third] h (.tup [.str raisedT, .int (c : Int)]) := fun X Q q => by
  show wpF (Ga k) b_law_ask _ _ _ _
  refine ⟨rfl, ?_⟩
  unfold b_law_ask
  refine ws_try ?_
  refine ws_if (c := false) (EV.cmp (EV.var rfl) EV.int rfl) (fun z => nomatch z) fun _ => ?_
  refine ws_if (c := true) (EV.cmp (EV.var rfl) EV.int rfl) (fun _ => ?_) fun z => nomatch z
  refine wr_ret ?_
  simp only [wpE, wpEs]
  have ei : (Ga k).init 1 = f_Typist_init := by cases k <;> rfl
  refine ⟨one, rfl, ?_⟩
  rw [ei]
  exact r _ _ ⟨hc, dropQ_app w rfl q⟩
end
theorem rep_flat (n : Nat) (T : D) : (List.replicate n [T]).flatten = List.replicate n T := by
  induction n with
  | zero => rfl
  | succ n ih => rw [List.replicate_succ, List.flatten_cons, ih, List.replicate_succ]; rfl
theorem map_rep (T : D) : ∀ ws : List Nat, (ws.map fun _ => T) = List.replicate ws.length T
  | [] => rfl
  | _ :: ws => by rw [List.map_cons, map_rep T ws]; rfl
theorem p_all {k : Nat} {h : Hm} (w : WFb h = true) (ws : List Nat) (hl : ws.length ≤ 100) (one other third : D) (due : Nat) (hp : ∀ i ∈ ws, PV (Ga k) f_law_ask [.int (i : Int), one, other, third] h (.tup [.str raisedT, .int (due : Int)])) : PV (Ga (k + 1)) f_law_all [.lst (ws.map fun (i : Nat) => D.int (i : Int)), one, other, third, .int (due : Int)] h (.bl true) := by
  refine pv_def (df := b_law_all) rfl rfl w rfl fun X K q => ?_
  unfold b_law_all
  have fT : flat 19 (.tup [.str raisedT, .int (due : Int)]) = true := by
    show (flat 18 (.str raisedT) && (flat 18 (.int (due : Int)) && true)) = true
    rfl
  have eL : (ws.map fun _ => D.tup [.str raisedT, .int (due : Int)]) = List.replicate ws.length (.tup [.str raisedT, .int (due : Int)]) := map_rep _ ws
  refine ws_ret (EV.cmp (EV.comp (α := Nat) (l := ws) (fun i => D.int ((i : Nat) : Int)) (fun _ => D.tup [.str raisedT, .int (due : Int)]) (EI.of (EV.var rfl) rfl) trivial (by unfold lim; omega) fun i hi => ⟨_, rfl, EV.call (.cons (EV.var rfl) (.cons (EV.var rfl) (.cons (EV.var rfl) (.cons (EV.var rfl) .nil)))) (hp i hi)⟩)
    (EV.opl (d := List.replicate ws.length (.tup [.str raisedT, .int (due : Int)])) (EV.lst (ds := [.tup [.str raisedT, .int (due : Int)]]) (.cons (EV.tup (ds := [.str raisedT, .int (due : Int)]) (.cons EV.str (.cons (EV.var rfl) .nil)) (by simp [lim])) .nil) (by simp [lim])) (EV.bi (EVs.one (EV.var rfl)) (d := .int (ws.length : Int)) (by simp [biD])) ?_) (d := true) ?_) q
  · simp only [opL, lstOf]
    rw [if_pos ⟨by omega, by omega, by show 1 ≤ 1000; omega⟩]
    congr 1
    rw [show ((ws.length : Int)).toNat = ws.length from rfl, rep_flat]
  · rw [eL]
    have fl : flats 19 (List.replicate ws.length (.tup [.str raisedT, .int (due : Int)])) = true := by
      rw [flats_all, List.all_eq_true]
      intro x hx
      rw [List.eq_of_mem_replicate hx]
      exact fT
    have fl2 : flat 20 (.lst (List.replicate ws.length (.tup [.str raisedT, .int (due : Int)]))) = true := fl
    simp only [cmB, eqQ, deref, fl2, Bool.and_self, if_true]
    rw [eqD_refl 20 _ fl2]
end Mi.G

set_option linter.all false
set_option maxRecDepth 100000
set_option maxHeartbeats 4000000
namespace Mi.G
open Mi
/-! ## law k02: the values, the runs -/
def SsDrop : Nat → Ss → Ss
  | 0, s => s
  | n + 1, .cons _ s => SsDrop n s
  | _, .nil => .nil
def SsTake : Nat → Ss → Ss
  | 0, _ => .nil
  | n + 1, .cons a s => .cons a (SsTake n s)
  | _, .nil => .nil
def badV : List D := [(.tup [.non, (.tup [])]),
  (.tup [(.tup []), (.tup [])]),
  (.tup [(.lst [(.tup [(.str [97]), (.str [97])])]), (.tup [])]),
  (.tup [(.tup [(.tup [(.str [97])])]), (.tup [])]),
  (.tup [(.tup [(.tup [(.str [97]), (.str [97]), (.str [97])])]), (.tup [])]),
  (.tup [(.tup [(.lst [(.str [97]), (.str [97])])]), (.tup [])]),
  (.tup [(.tup [(.tup [(.str []), (.str [97])])]), (.tup [])]),
  (.tup [(.tup [(.tup [(.str [65]), (.str [97])])]), (.tup [])]),
  (.tup [(.tup [(.tup [(.str [97]), (.str [])])]), (.tup [])]),
  (.tup [(.tup [(.tup [(.str [97]), (.str [97, 97])])]), (.tup [])]),
  (.tup [(.tup [(.tup [(.str [97, 98, 99, 100, 101, 102, 103]), (.str [97])])]), (.tup [])]),
  (.tup [(.tup [(.tup [(.str [97]), (.str [97, 98, 99, 100, 101, 102, 103])])]), (.tup [])]),
  (.tup [(.tup [(.tup [(.str [97]), (.str [97, 32, 98])])]), (.tup [])]),
  (.tup [(.tup [(.tup [(.str [97]), (.str [42])])]), (.tup [])]),
  (.tup [(.tup [(.tup [(.str [97]), (.str [97, 98])]), (.tup [(.str [98]), (.str [98, 99])])]), (.tup [])]),
  (.tup [(.tup [(.tup [(.str [97]), (.str [97])]), (.tup [(.str [97]), (.str [98])])]), (.tup [])]),
  (.tup [(.tup [(.tup [(.str [97]), (.int (5))])]), (.tup [])]),
  (.tup [(.tup [(.tup [(.str [97]), (.str [49])]), (.tup [(.str [98]), (.str [50])]), (.tup [(.str [99]), (.str [51])]), (.tup [(.str [100]), (.str [52])]), (.tup [(.str [101]), (.str [53])])]), (.tup [])]),
  (.tup [(.str [97]), (.tup [])]),
  (.tup [(.tup [(.tup [(.int (1)), (.str [97])])]), (.tup [])]),
  (.tup [(.tup [(.tup [(.str [97]), (.str [120, 121, 122])]), (.tup [(.str [98]), (.str [49])])]), (.tup [.non])]),
  (.tup [(.tup [(.tup [(.str [97]), (.str [120, 121, 122])]), (.tup [(.str [98]), (.str [49])])]), (.tup [(.tup [])])]),
  (.tup [(.tup [(.tup [(.str [97]), (.str [120, 121, 122])]), (.tup [(.str [98]), (.str [49])])]), (.tup [(.lst [(.str [114, 117, 110]), (.int (1))])])]),
  (.tup [(.tup [(.tup [(.str [97]), (.str [120, 121, 122])]), (.tup [(.str [98]), (.str [49])])]), (.tup [(.str [114, 117, 110])])]),
  (.tup [(.tup [(.tup [(.str [97]), (.str [120, 121, 122])]), (.tup [(.str [98]), (.str [49])])]), (.tup [(.tup [(.str [114, 117, 110])])])]),
  (.tup [(.tup [(.tup [(.str [97]), (.str [120, 121, 122])]), (.tup [(.str [98]), (.str [49])])]), (.tup [(.tup [(.str [114, 117, 110]), (.int (0))])])]),
  (.tup [(.tup [(.tup [(.str [97]), (.str [120, 121, 122])]), (.tup [(.str [98]), (.str [49])])]), (.tup [(.tup [(.str [114, 117, 110]), (.int (5))])])]),
  (.tup [(.tup [(.tup [(.str [97]), (.str [120, 121, 122])]), (.tup [(.str [98]), (.str [49])])]), (.tup [(.tup [(.str [114, 117, 110]), (.bl true)])])]),
  (.tup [(.tup [(.tup [(.str [97]), (.str [120, 121, 122])]), (.tup [(.str [98]), (.str [49])])]), (.tup [(.tup [(.str [114, 111, 119]), (.int (0))])])]),
  (.tup [(.tup [(.tup [(.str [97]), (.str [120, 121, 122])]), (.tup [(.str [98]), (.str [49])])]), (.tup [(.tup [(.str [114, 111, 119]), (.int (5))])])]),
  (.tup [(.tup [(.tup [(.str [97]), (.str [120, 121, 122])]), (.tup [(.str [98]), (.str [49])])]), (.tup [(.tup [(.str [107, 105, 110, 100, 115]), (.int (0))])])]),
  (.tup [(.tup [(.tup [(.str [97]), (.str [120, 121, 122])]), (.tup [(.str [98]), (.str [49])])]), (.tup [(.tup [(.str [107, 105, 110, 100, 115]), (.int (5))])])]),
  (.tup [(.tup [(.tup [(.str [97]), (.str [120, 121, 122])]), (.tup [(.str [98]), (.str [49])])]), (.tup [(.tup [(.str [115, 105, 122, 101]), (.int (1))])])]),
  (.tup [(.tup [(.tup [(.str [97]), (.str [120, 121, 122])]), (.tup [(.str [98]), (.str [49])])]), (.tup [(.tup [(.str [115, 105, 122, 101]), (.int (-1)), (.int (2))])])]),
  (.tup [(.tup [(.tup [(.str [97]), (.str [120, 121, 122])]), (.tup [(.str [98]), (.str [49])])]), (.tup [(.tup [(.str [115, 105, 122, 101]), (.int (3)), (.int (2))])])]),
  (.tup [(.tup [(.tup [(.str [97]), (.str [120, 121, 122])]), (.tup [(.str [98]), (.str [49])])]), (.tup [(.tup [(.str [115, 105, 122, 101]), (.int (0)), (.int (13))])])]),
  (.tup [(.tup [(.tup [(.str [97]), (.str [120, 121, 122])]), (.tup [(.str [98]), (.str [49])])]), (.tup [(.tup [(.str [115, 105, 122, 101]), (.int (13)), .non])])]),
  (.tup [(.tup [(.tup [(.str [97]), (.str [120, 121, 122])]), (.tup [(.str [98]), (.str [49])])]), (.tup [(.tup [(.str [115, 105, 122, 101]), .non, (.int (3))])])]),
  (.tup [(.tup [(.tup [(.str [97]), (.str [120, 121, 122])]), (.tup [(.str [98]), (.str [49])])]), (.tup [(.tup [(.str [115, 105, 122, 101]), (.int (1)), (.int (2)), (.int (3))])])]),
  (.tup [(.tup [(.tup [(.str [97]), (.str [120, 121, 122])]), (.tup [(.str [98]), (.str [49])])]), (.tup [(.tup [(.str [108, 101, 97, 115, 116]), (.str [97]), (.int (0))])])]),
  (.tup [(.tup [(.tup [(.str [97]), (.str [120, 121, 122])]), (.tup [(.str [98]), (.str [49])])]), (.tup [(.tup [(.str [108, 101, 97, 115, 116]), (.str [97]), (.int (5))])])]),
  (.tup [(.tup [(.tup [(.str [97]), (.str [120, 121, 122])]), (.tup [(.str [98]), (.str [49])])]), (.tup [(.tup [(.str [108, 101, 97, 115, 116]), (.str [99]), (.int (1))])])]),
  (.tup [(.tup [(.tup [(.str [97]), (.str [120, 121, 122])]), (.tup [(.str [98]), (.str [49])])]), (.tup [(.tup [(.str [109, 111, 115, 116]), (.str [97]), (.int (-1))])])]),
  (.tup [(.tup [(.tup [(.str [97]), (.str [120, 121, 122])]), (.tup [(.str [98]), (.str [49])])]), (.tup [(.tup [(.str [109, 111, 115, 116]), (.str [97]), (.int (5))])])]),
  (.tup [(.tup [(.tup [(.str [97]), (.str [120, 121, 122])]), (.tup [(.str [98]), (.str [49])])]), (.tup [(.tup [(.str [109, 111, 115, 116]), .non, (.int (1))])])]),
  (.tup [(.tup [(.tup [(.str [97]), (.str [120, 121, 122])]), (.tup [(.str [98]), (.str [49])])]), (.tup [(.tup [(.str [102, 105, 114, 115, 116]), (.str [99])])])]),
  (.tup [(.tup [(.tup [(.str [97]), (.str [120, 121, 122])]), (.tup [(.str [98]), (.str [49])])]), (.tup [(.tup [(.str [108, 97, 115, 116])])])]),
  (.tup [(.tup [(.tup [(.str [97]), (.str [120, 121, 122])]), (.tup [(.str [98]), (.str [49])])]), (.tup [(.tup [(.str [108, 97, 115, 116]), (.str [97]), (.int (1))])])]),
  (.tup [(.tup [(.tup [(.str [97]), (.str [120, 121, 122])]), (.tup [(.str [98]), (.str [49])])]), (.tup [(.tup [(.str [110, 111, 116]), (.str [])])])]),
  (.tup [(.tup [(.tup [(.str [97]), (.str [120, 121, 122])]), (.tup [(.str [98]), (.str [49])])]), (.tup [(.tup [(.str [110, 111, 116]), (.str [120, 121, 122, 120, 121, 122])])])]),
  (.tup [(.tup [(.tup [(.str [97]), (.str [120, 121, 122])]), (.tup [(.str [98]), (.str [49])])]), (.tup [(.tup [(.str [110, 111, 116]), (.str [113])])])]),
  (.tup [(.tup [(.tup [(.str [97]), (.str [120, 121, 122])]), (.tup [(.str [98]), (.str [49])])]), (.tup [(.tup [(.str [110, 111, 116]), (.int (5))])])]),
  (.tup [(.tup [(.tup [(.str [97]), (.str [120, 121, 122])]), (.tup [(.str [98]), (.str [49])])]), (.tup [(.tup [(.str [108, 101, 115, 115]), (.int (1))])])]),
  (.tup [(.tup [(.tup [(.str [97]), (.str [120, 121, 122])]), (.tup [(.str [98]), (.str [49])])]), (.tup [(.tup [(.int (5)), (.int (1))])])]),
  (.tup [(.tup [(.tup [(.str [97]), (.str [120, 121, 122])]), (.tup [(.str [98]), (.str [49])])]), (.tup [(.tup [(.str [102, 105, 114, 115, 116]), (.lst [(.str [97])])])])]),
  (.tup [(.tup [(.tup [(.str [97]), (.str [120, 121, 122])]), (.tup [(.str [98]), (.str [49])])]), (.tup [(.tup [(.str [114, 117, 110]), (.str [49])])])]),
  (.tup [(.tup [(.tup [(.str [97]), (.str [120, 121, 122])]), (.tup [(.str [98]), (.str [49])])]), (.tup [(.tup [(.str [107, 105, 110, 100, 115]), (.int (1)), (.int (1))])])]),
  .non,
  (.tup []),
  (.tup [(.tup [(.str [97]), (.str [120, 121, 122])]), (.tup [(.str [98]), (.str [49])])]),
  (.tup [(.tup [(.tup [(.str [97]), (.str [120, 121, 122])]), (.tup [(.str [98]), (.str [49])])])]),
  (.lst [(.tup [(.tup [(.str [97]), (.str [120, 121, 122])]), (.tup [(.str [98]), (.str [49])])]), (.tup [])]),
  (.tup [(.tup [(.tup [(.str [97]), (.str [120, 121, 122])]), (.tup [(.str [98]), (.str [49])])]), (.lst [(.tup [(.str [114, 117, 110]), (.int (1))])])]),
  (.tup [(.tup [(.tup [(.str [97]), (.str [120, 121, 122])]), (.tup [(.str [98]), (.str [49])])]), (.tup [(.tup [(.str [114, 117, 110]), (.int (1))]), (.tup [(.str [114, 117, 110]), (.int (1))])])]),
  (.tup [(.tup [(.tup [(.str [97]), (.str [120, 121, 122])]), (.tup [(.str [98]), (.str [49])])]), (.tup [(.tup [(.str [110, 111, 116]), (.str [120])]), (.tup [(.str [110, 111, 116]), (.str [120, 49])]), (.tup [(.str [110, 111, 116]), (.str [120, 120])]), (.tup [(.str [110, 111, 116]), (.str [120, 120, 49])]), (.tup [(.str [110, 111, 116]), (.str [120, 120, 120])]), (.tup [(.str [110, 111, 116]), (.str [120, 120, 120, 49])]), (.tup [(.str [110, 111, 116]), (.str [120, 120, 120, 120])])])])]
abbrev Hb (a b : Int) : Hm := [.lst [.int a, .int b], .lst badV]
theorem ws_run {g : RG} {Γ : Gam} (sg : g.Snd Γ) {X : PX} {K : Ks} : ∀ (n : Nat) (s : Ss) (σ : Sl) (h : Hm) {σ' : Sl} {h' : Hm}, evSs g (SsTake n s) σ h = some (.ok (.nx σ') h') → wpSs Γ X (SsDrop n s) σ' h' K → wpSs Γ X s σ h K
  | 0, s, σ, h, σ', h', e, q => by simp only [SsTake, evSs, okR] at e; cases e; exact q
  | n + 1, .nil, σ, h, σ', h', e, q => by simp only [SsTake, evSs, okR] at e; cases e; exact q
  | n + 1, .cons a s, σ, h, σ', h', e, q => by
    simp only [SsTake, evSs] at e
    simp only [SsDrop] at q
    split at e
    · next σ1 h1 e1 =>
      have ih := ws_run sg (X := X) (K := K) n s σ1 h1 e q
      simp only [wpSs]
      exact evS_ok sg a _ _ _ _ _ e1 ih
    · next hno => exact absurd e (hno _ _)
theorem pv_of {k f : Nat} {ds : List D} {h : Hm} {d : D} (e : (evk tm k).call f ds h = some (.ok d h)) : PV (Ga k) f ds h d := fun X Q q => (evk_snd tm k).call _ _ _ _ Q X e q
theorem run1 (s0 s3 : Option D) (a b : Int) : evSs (evk tm 39) (SsTake 4 (SsDrop 3 b_law.body)) [s0, some (.loc 0), some (clsD clsA), s3, none, none, none, none, none, none, none] [.lst [.int a, .int b]] = some (.ok (.nx [s0, some (.loc 0), some (clsD clsA), s3, some (.loc 1), none, none, none, none, none, none]) (Hb a b)) := by kernel_rfl
theorem chkA (a b : Int) : badV.map (fun d => (evk tm 34).call 5 [d] (Hb a b)) = badV.map fun _ => some (.ok (.bl false) (Hb a b)) := by kernel_rfl
theorem chkB (a b : Int) : badV.map (fun d => (evk tm 35).call 5 [d] (Hb a b)) = badV.map fun _ => some (.ok (.bl false) (Hb a b)) := by kernel_rfl
theorem chkC (a b : Int) : badV.map (fun d => (evk tm 35).call 5 [d] (Hb a b ++ [.ins 1 []])) = badV.map fun _ => some (.ok (.bl false) (Hb a b ++ [.ins 1 []])) := by kernel_rfl
theorem chkD (a b : Int) : badV.map (fun d => (evk tm 39).call 5 [d] (Hb a b)) = badV.map fun _ => some (.ok (.bl false) (Hb a b)) := by kernel_rfl
def isRetT : Option (Rr En) → Bool
  | some (.ok (.rt (.bl true)) _) => true
  | _ => false
theorem tail_run (s0 s3 s5 : Option D) (a b : Int) : isRetT (evSs (evk tm 39) (SsDrop 10 b_law.body) [s0, some (.loc 0), some (clsD clsA), s3, some (.loc 1), s5, none, none, none, none, none] (Hb a b)) = true := by kernel_rfl
end Mi.G

set_option linter.all false
set_option maxRecDepth 100000
set_option maxHeartbeats 4000000
namespace Mi.G
open Mi
/-! ## law k02 -/
theorem hb_wf (a b : Int) : WFb (Hb a b) = true := by kernel_rfl
theorem hb_wf1 (a b : Int) : WFb (Hb a b ++ [.ins 1 []]) = true := by kernel_rfl
section
variable {a b : Int} {d : D} (hd : d ∈ badV)
include hd
theorem bad34 : PV (Ga 34) f_is_policy [d] (Hb a b) (.bl false) := pv_of (List.map_inj_left.mp (chkA a b) d hd)
theorem bad35 : PV (Ga 35) f_is_policy [d] (Hb a b) (.bl false) := pv_of (List.map_inj_left.mp (chkB a b) d hd)
theorem bad35i : PV (Ga 35) f_is_policy [d] (Hb a b ++ [.ins 1 []]) (.bl false) := pv_of (List.map_inj_left.mp (chkC a b) d hd)
theorem bad39 : PV (Ga 39) f_is_policy [d] (Hb a b) (.bl false) := pv_of (List.map_inj_left.mp (chkD a b) d hd)
theorem all14 : PV (Ga 39) f_law_all [.lst ((List.range 14).map fun (i : Nat) => D.int (i : Int)), d, .non, .non, .int ((0 : Nat) : Int)] (Hb a b) (.bl true) := by
  have w := hb_wf a b
  have n36 : RX (Ga 36) f_need_policy [d] (Hb a b) 0 := rx_need w (bad35 hd)
  have n35 : RX (Ga 35) f_need_policy [d] (Hb a b) 0 := rx_need w (bad34 hd)
  have n36i : RX (Ga 36) f_need_policy [d] (Hb a b ++ [.ins 1 []]) 0 := rx_need (hb_wf1 a b) (bad35i hd)
  refine p_all w _ (by simp) d .non .non 0 fun i hi => ?_
  have hi := List.mem_range.mp hi
  rcases (by omega : i = 0 ∨ i = 1 ∨ i = 2 ∨ i = 3 ∨ i = 4 ∨ i = 5 ∨ i = 6 ∨ i = 7 ∨ i = 8 ∨ i = 9 ∨ i = 10 ∨ i = 11 ∨ i = 12 ∨ i = 13) with e | e | e | e | e | e | e | e | e | e | e | e | e | e <;> subst e
  · exact ask1 w (by omega) (i := 0) (by omega) (rx_first w (df := b_characters) rfl rfl rfl (.cons (EV.var rfl) .nil) n36)
  · exact ask1 w (by omega) (i := 1) (by omega) (rx_first w (df := b_first) rfl rfl rfl (.cons (EV.var rfl) .nil) n36)
  · exact ask1 w (by omega) (i := 2) (by omega) (rx_first w (df := b_idle) rfl rfl rfl (.cons (EV.var rfl) .nil) n36)
  · exact ask1 w (by omega) (i := 3) (by omega) (rx_first w (df := b_core) rfl rfl rfl (.cons (EV.var rfl) .nil) n36)
  · exact ask1 w (by omega) (i := 4) (by omega) (rx_first w (df := b_total) rfl rfl rfl (.cons (EV.var rfl) .nil) n36)
  · exact ask5 w (by omega) (rx_first (hb_wf1 a b) (df := b_Typist_init) rfl rfl rfl (.cons (EV.var rfl) .nil) n36i)
  · exact ask2 w (by omega) (i := 6) (by omega) (by omega) (rx_first w (df := b_broken) rfl rfl rfl (.cons (EV.var rfl) .nil) n36)
  · exact ask2 w (by omega) (i := 7) (by omega) (by omega) (rx_ret w (df := b_allows) rfl rfl rfl (.cons (EV.var rfl) (.cons (EV.var rfl) .nil)) (rx_first w (df := b_broken) rfl rfl rfl (.cons (EV.var rfl) .nil) n35))
  · exact ask2 w (by omega) (i := 8) (by omega) (by omega) (rx_first w (df := b_mended) rfl rfl rfl (.cons (EV.var rfl) .nil) n36)
  · exact ask2 w (by omega) (i := 9) (by omega) (by omega) (rx_first w (df := b_count) rfl rfl rfl (.cons (EV.var rfl) .nil) n36)
  · exact ask2 w (by omega) (i := 10) (by omega) (by omega) (rx_first w (df := b_place_of) rfl rfl rfl (.cons (EV.var rfl) .nil) n36)
  · exact ask2 w (by omega) (i := 11) (by omega) (by omega) (rx_first w (df := b_parting) rfl rfl rfl (.cons (EV.var rfl) (.cons (EV.var rfl) .nil)) (rx_first w (df := b_need_pair) rfl rfl rfl (.cons (EV.var rfl) .nil) n35))
  · exact ask2 w (by omega) (i := 12) (by omega) (by omega) (rx_first w (df := b_common) rfl rfl rfl (.cons (EV.var rfl) (.cons (EV.var rfl) .nil)) (rx_first w (df := b_need_pair) rfl rfl rfl (.cons (EV.var rfl) .nil) n35))
  · exact ask3 w (by omega) (rx_first w (df := b_at_place) rfl rfl rfl (.cons (EV.var rfl) .nil) n36)
theorem all_pair {cls : List (List (List Nat))} {rus : List Ru} (g : GP cls rus) (po : polOk cls (rlD rus) = true) : PV (Ga 39) f_law_all [.lst ([11, 12].map fun (i : Nat) => D.int (i : Int)), polD cls (rlD rus), d, .non, .int ((0 : Nat) : Int)] (Hb a b) (.bl true) := by
  have w := hb_wf a b
  have n35 : RX (Ga 35) f_need_policy [d] (Hb a b) 0 := rx_need w (bad34 hd)
  refine p_all w _ (by simp) _ d .non 0 fun i hi => ?_
  simp only [List.mem_cons, List.not_mem_nil, or_false] at hi
  rcases hi with e | e <;> subst e
  · exact ask2 w (by omega) (i := 11) (by omega) (by omega) (rx_parting (k := 31) w g po n35)
  · exact ask2 w (by omega) (i := 12) (by omega) (by omega) (rx_common (k := 31) w g po n35)
end
section
variable {h : Hm} (w : WFb h = true) {cls : List (List (List Nat))} {rus : List Ru} (g : GP cls rus) (po : polOk cls (rlD rus) = true)
include w g po
theorem all_str (v : D) (hv : okV v = true) (o : isOver v (sgOf cls) 0 20 = false) : PV (Ga 39) f_law_all [.lst ([6, 7, 8, 10].map fun (i : Nat) => D.int (i : Int)), polD cls (rlD rus), v, .non, .int ((1 : Nat) : Int)] h (.bl true) := by
  refine p_all w _ (by simp) _ v .non 1 fun i hi => ?_
  simp only [List.mem_cons, List.not_mem_nil, or_false] at hi
  rcases hi with e | e | e | e <;> subst e
  · exact ask2 w (by omega) (i := 6) (by omega) (by omega) (rx_broken (k := 32) w g po v hv o)
  · exact ask2 w (by omega) (i := 7) (by omega) (by omega) (rx_allows (k := 31) w g po v hv o)
  · exact ask2 w (by omega) (i := 8) (by omega) (by omega) (rx_mended (k := 32) w g po v hv o)
  · exact ask2 w (by omega) (i := 10) (by omega) (by omega) (rx_place_of (k := 32) w g po v hv o)
theorem all_size (v : D) (hv : simpV v = true) (o : isCount v 0 20 = false) : PV (Ga 39) f_law_all [.lst ([9, 13].map fun (i : Nat) => D.int (i : Int)), polD cls (rlD rus), v, .int 0, .int ((2 : Nat) : Int)] h (.bl true) := by
  refine p_all w _ (by simp) _ v (.int 0) 2 fun i hi => ?_
  simp only [List.mem_cons, List.not_mem_nil, or_false] at hi
  rcases hi with e | e <;> subst e
  · exact ask2 w (by omega) (i := 9) (by omega) (by omega) (rx_count (k := 32) w g po v hv o)
  · exact ask3 w (by omega) (rx_at_size (k := 32) w g po v (.int 0) hv o)
theorem all_num {S : List (List Sx)} (C : CS cls rus S) (s0 : rus.map ru0 ∈ S) (x : D) (hx : simpV x = true) (o : ∀ hi, isCount x 0 hi = false) : PV (Ga 39) f_law_all [.lst ([13].map fun (i : Nat) => D.int (i : Int)), polD cls (rlD rus), .int 2, x, .int ((2 : Nat) : Int)] h (.bl true) := by
  refine p_all w _ (by simp) _ (.int 2) x 2 fun i hi => ?_
  simp only [List.mem_cons, List.not_mem_nil, or_false] at hi
  subst hi
  exact ask3 w (by omega) (rx_at_number (k := 30) w g po C s0 x hx o)
end
def B1 : Ss := .cons (.ite (.or (.cmp .isnt (.call f_is_policy (.cons (.var 5) .nil)) (.bl false)) (.not (.call f_law_all (.cons (.bi .lrange (.cons (.int 14) .nil)) (.cons (.var 5) (.cons .non (.cons .non (.cons (.int 0) .nil)))))))) (.cons (.ret (.bl false)) .nil) .nil)
   (.cons (.ite (.not (.call f_law_all (.cons (.lst (.cons (.int 11) (.cons (.int 12) .nil))) (.cons (.var 3) (.cons (.var 5) (.cons .non (.cons (.int 0) .nil))))))) (.cons (.ret (.bl false)) .nil) .nil) .nil)
def B2 : Ss := .cons (.ite (.not (.call f_law_all (.cons (.lst (.cons (.int 6) (.cons (.int 7) (.cons (.int 8) (.cons (.int 10) .nil))))) (.cons (.var 3) (.cons (.var 5) (.cons .non (.cons (.int 1) .nil))))))) (.cons (.ret (.bl false)) .nil) .nil) .nil
def B3 : Ss := .cons (.ite (.not (.call f_law_all (.cons (.lst (.cons (.int 9) (.cons (.int 13) .nil))) (.cons (.var 3) (.cons (.var 5) (.cons (.int 0) (.cons (.int 2) .nil))))))) (.cons (.ret (.bl false)) .nil) .nil)
   (.cons (.ite (.not (.call f_law_all (.cons (.lst (.cons (.int 13) .nil)) (.cons (.var 3) (.cons (.int 2) (.cons (.ite (.cmp .eq (.var 5) (.int 21)) (.neg (.int 1)) (.var 5)) (.cons (.int 2) .nil))))))) (.cons (.ret (.bl false)) .nil) .nil) .nil)
def sl2 (ns : List Int) (P : D) (s5 : Option D) : Sl := [some (.scr ns), some (.loc 0), some (clsD clsA), some P, some (.loc 1), s5, none, none, none, none, none]
section
variable {ns : List Int} {a b : Int} {cls : List (List (List Nat))} {rus : List Ru} (g : GP cls rus) (po : polOk cls (rlD rus) = true) {X : PX} {K : Ks}
include g po
theorem loop1 : ∀ (xs : List D) (s5 : Option D), (∀ d ∈ xs, d ∈ badV) → (∀ s5, K.nx (sl2 ns (polD cls (rlD rus)) s5) (Hb a b)) → forW false [5] (some (1, .lst badV)) (wpSs (Ga 39) X B1) K xs (sl2 ns (polD cls (rlD rus)) s5) (Hb a b)
  | [], s5, _, q => ⟨rfl, q s5⟩
  | d :: xs, s5, hd, q => by
    refine ⟨rfl, sl2 ns (polD cls (rlD rus)) (some d), rfl, ?_⟩
    unfold B1
    have h1 := hd d (.head _)
    refine ws_if (c := false) (EV.or (x := false) (y := false) (EV.cmp (EV.call (.cons (EV.var rfl) .nil) (bad39 h1)) EV.bl rfl) fun _ => EV.not (x := true) (EV.call (.cons (EV.bi (EVs.one EV.int) rfl) (.cons (EV.var rfl) (.cons EV.non (.cons EV.non (.cons EV.int .nil))))) (all14 h1))) (fun z => nomatch z) fun _ => ?_
    refine ws_if (c := false) (EV.not (x := true) (EV.call (.cons (EV.lst (.cons EV.int (.cons EV.int .nil)) (by simp [lim])) (.cons (EV.var rfl) (.cons (EV.var rfl) (.cons EV.non (.cons EV.int .nil))))) (all_pair h1 g po))) (fun z => nomatch z) fun _ => ws_nil ?_
    exact loop1 xs (some d) (fun x hx => hd x (.tail _ hx)) q
theorem loop2 : ∀ (xs : List D) (s5 : Option D), (∀ d ∈ xs, okV d = true ∧ isOver d (sgOf cls) 0 20 = false) → (∀ s5, K.nx (sl2 ns (polD cls (rlD rus)) s5) (Hb a b)) → forW false [5] none (wpSs (Ga 39) X B2) K xs (sl2 ns (polD cls (rlD rus)) s5) (Hb a b)
  | [], s5, _, q => ⟨trivial, q s5⟩
  | d :: xs, s5, hd, q => by
    refine ⟨trivial, sl2 ns (polD cls (rlD rus)) (some d), rfl, ?_⟩
    unfold B2
    have h1 := hd d (.head _)
    refine ws_if (c := false) (EV.not (x := true) (EV.call (.cons (EV.lst (.cons EV.int (.cons EV.int (.cons EV.int (.cons EV.int .nil)))) (by simp [lim])) (.cons (EV.var rfl) (.cons (EV.var rfl) (.cons EV.non (.cons EV.int .nil))))) (all_str (hb_wf a b) g po d h1.1 h1.2))) (fun z => nomatch z) fun _ => ws_nil ?_
    exact loop2 xs (some d) (fun x hx => hd x (.tail _ hx)) q
theorem loop3 {S : List (List Sx)} (C : CS cls rus S) (s0 : rus.map ru0 ∈ S) : ∀ (xs : List D) (s5 : Option D), (∀ d ∈ xs, simpV d = true ∧ isCount d 0 20 = false ∧ flat 20 d = true ∧ (∀ n, d ≠ .loc n) ∧ (∀ n, d ≠ .scr n) ∧ (eqD d (.int 21) = true ∨ ∀ hi, isCount d 0 hi = false)) → (∀ s5, K.nx (sl2 ns (polD cls (rlD rus)) s5) (Hb a b)) → forW false [5] none (wpSs (Ga 39) X B3) K xs (sl2 ns (polD cls (rlD rus)) s5) (Hb a b)
  | [], s5, _, q => ⟨trivial, q s5⟩
  | d :: xs, s5, hd, q => by
    refine ⟨trivial, sl2 ns (polD cls (rlD rus)) (some d), rfl, ?_⟩
    unfold B3
    obtain ⟨h1, h2, h3, h4, h5, h6⟩ := hd d (.head _)
    refine ws_if (c := false) (EV.not (x := true) (EV.call (.cons (EV.lst (.cons EV.int (.cons EV.int .nil)) (by simp [lim])) (.cons (EV.var rfl) (.cons (EV.var rfl) (.cons EV.int (.cons EV.int .nil))))) (all_size (hb_wf a b) g po d h1 h2))) (fun z => nomatch z) fun _ => ?_
    have e : cmB (Hb a b) .eq d (.int 21) = some (eqD d (.int 21)) := by
      have dd : deref (Hb a b) d = d := by cases d <;> first | rfl | exact absurd rfl (h4 _) | exact absurd rfl (h5 _)
      have d2 : deref (Hb a b) (.int 21) = .int 21 := rfl
      have f2 : flat 20 (.int 21) = true := rfl
      simp only [cmB, eqQ, dd, d2, h3, f2, Bool.and_self, if_true]
    refine ws_if (c := false) (EV.not (x := true) (EV.call (ds := [.lst [.int 13], polD cls (rlD rus), .int 2, if eqD d (.int 21) = true then .int (-1) else d, .int 2]) (.cons (EV.lst (.cons EV.int .nil) (by simp [lim])) (.cons (EV.var rfl) (.cons EV.int (.cons (EV.ite (EV.cmp (EV.var rfl) EV.int e) (fun z => by rw [if_pos z]; exact EV.neg EV.int) fun z => by rw [if_neg (by rw [z]; exact Bool.false_ne_true)]; exact EV.var rfl) (.cons EV.int .nil))))) ?_)) (fun z => nomatch z) fun _ => ws_nil ?_
    · refine all_num (hb_wf a b) g po C s0 _ ?_ ?_
      · split
        · rfl
        · exact h1
      · intro hi
        split
        · rfl
        · next z =>
          rcases h6 with y | y
          · exact absurd y z
          · exact y hi
    · exact loop3 C s0 xs (some d) (fun x hx => hd x (.tail _ hx)) q
end
theorem tail_ok (ns : List Int) (P : D) (s5 : Option D) (a b : Int) {X : PX} {K : Ks} (q : ∀ h, K.rt (.bl true) h) : wpSs (Ga 39) X (SsDrop 10 b_law.body) (sl2 ns P s5) (Hb a b) K := by
  have r := tail_run (some (.scr ns)) (some P) s5 a b
  generalize e : evSs (evk tm 39) (SsDrop 10 b_law.body) [some (.scr ns), some (.loc 0), some (clsD clsA), some P, some (.loc 1), s5, none, none, none, none, none] (Hb a b) = z at r
  unfold isRetT at r
  split at r
  · exact evSs_ok (evk_snd tm 39) _ _ _ _ _ _ e (q _)
  · cases r
theorem cls_rS : ∀ {rus : List Ru}, Drawn clsA rus → ∀ r ∈ rus, (rS clsA r).length ≤ 25 := fun {rus} d r hr => by
  have ok := d.ok r hr
  have e1 : (nmOf clsA).length = 2 := rfl
  have e2 : (sgOf clsA).length = 4 := rfl
  have run : ∀ m, m ≤ 3 → (Sx.rn [] 0 :: (sgOf clsA).flatMap fun c => (List.range m).map fun k => Sx.rn [c] (k + 1)).length ≤ 25 := fun m hm => by
    have : ∀ l : List Nat, (l.flatMap fun c => (List.range m).map fun k => Sx.rn [c] (k + 1)).length = l.length * m := fun l => by
      induction l with
      | nil => simp
      | cons x l ih => simp only [List.flatMap_cons, List.length_append, List.length_map, List.length_range, ih, List.length_cons, Nat.add_mul]; omega
    rw [List.length_cons, this, e2]
    omega
  cases r with
  | size lo hi =>
    simp only [rS, List.length_map, List.length_range]
    cases hi with
    | none => have := ok.1; simp; omega
    | some m => have := ok.1; have := ok.2 m rfl; simp; omega
  | least nm m => have := ok.2.2; simp only [rS, List.length_map, List.length_range]; omega
  | most nm m => have := ok.2.2; simp only [rS, List.length_map, List.length_range]; omega
  | kinds m =>
    simp only [rS, List.length_map]
    refine Nat.le_trans (List.length_filter_le _ _) ?_
    decide
  | run m => exact run m ok.2
  | row m => exact run m ok.2
  | not s => have := ok.2.1; simp only [rS, List.length_map, List.length_range]; omega
  | first nm => simp only [rS, List.length_cons, List.length_map, e1]; omega
  | last nm => simp only [rS, List.length_cons, List.length_map, e1]; omega
theorem law_k02 (ns : List Int) (hn : ns.length ≤ 63) : (Ga 40).call f_law [.scr ns] [] (fun d _ => d = .bl true) (fun _ _ => False) := by
  show wpF (Ga 39) b_law _ _ _ _
  refine ⟨rfl, ?_⟩
  have fin : ∀ h, dropQ 0 (fun d _ => d = .bl true) (.bl true) h := fun h => ⟨0, Nat.le_refl _, Nat.zero_le _, rfl, fun o ho => by simp at ho, rfl⟩
  have body : b_law.body = .cons (.set 1 (.mk (.lst (.cons (.int 0) (.cons (.int 0) .nil))))) (SsDrop 1 b_law.body) := rfl
  rw [body]
  refine ws_mk (ds := [.int 0, .int 0]) (EV.lst (.cons EV.int (.cons EV.int .nil)) (by simp [lim])) ?_
  show wpSs (Ga 39) _ (SsDrop 1 b_law.body) [some (.scr ns), some (.loc 0), none, none, none, none, none, none, none, none, none] [.lst [.int 0, .int 0]] _
  have b1 : SsDrop 1 b_law.body = .cons (.set 2 (.tup (.cons (.tup (.cons (.str [97]) (.cons (.str [120, 121, 122]) .nil))) (.cons (.tup (.cons (.str [98]) (.cons (.str [49]) .nil))) .nil)))) (SsDrop 2 b_law.body) := rfl
  rw [b1]
  refine ws_set (d := clsD clsA) (EV.tup (.cons (EV.tup (.cons EV.str (.cons EV.str .nil)) (by simp [lim])) (.cons (EV.tup (.cons EV.str (.cons EV.str .nil)) (by simp [lim])) .nil)) (by simp [clsA, lim])) ?_
  have t0 : Tw [.lst [.int 0, .int 0]] 0 := ⟨rfl, 0, 0, rfl, by omega, by omega⟩
  have b2 : SsDrop 2 b_law.body = .cons (.set 3 (.call f_law_policy (.cons (.var 0) (.cons (.var 1) (.cons (.var 2) (.cons (.int 3) .nil)))))) (SsDrop 3 b_law.body) := rfl
  rw [b2]
  refine wr_set (we_call (ds := [.scr ns, .loc 0, clsD clsA, .int ((3 : Nat) : Int)]) (.cons (EV.var rfl) (.cons (EV.var rfl) (.cons (EV.var rfl) (.cons EV.int .nil)))) ?_)
  refine x_policy (k := 35) t0 ns (cls := clsA) (List.mem_append_right _ (.head _)) 3 (by omega) _ _ fun rus h2 d l k2 => ?_
  have l6 : rus.length ≤ 6 := by omega
  have g := drawn_gp d l6
  have po : polOk clsA (rlD rus) = true := d.pol l6
  have fit := drawn_fit d
  have C : CS clsA rus (prS clsA rus) := ⟨g, fit, fun st h => prS_ok h, fun st h c hc st' e => prS_cl hc fit h e, by
    have h1 := prS_len (cls_rS d)
    have h2 : 25 ^ rus.length ≤ 25 ^ 3 := Nat.pow_le_pow_right (by omega) l
    unfold lim
    omega⟩
  obtain ⟨a, b, _, _, rfl⟩ := k2
  refine ws_run (evk_snd tm 39) 4 (SsDrop 3 b_law.body) _ _ (run1 (some (.scr ns)) (some (polD clsA (rlD rus))) a b) ?_
  have b7 : SsDrop 4 (SsDrop 3 b_law.body) = .cons (.for false [5] (.var 4) B1) (SsDrop 8 b_law.body) := rfl
  rw [b7]
  refine ws_for (xs := badV) (s := some (1, .lst badV)) (EI.of (EV.var rfl) rfl) ?_
  refine loop1 g po badV none (fun d h => h) fun s5 => ?_
  have b8 : SsDrop 8 b_law.body = .cons (.for false [5] (.tup (.cons .non (.cons (.int 5) (.cons (.str [113]) (.cons (.str [120, 32]) (.cons (.lst (.cons (.str [120]) .nil)) (.cons (.tup (.cons (.str [120]) .nil)) (.cons (.op .mul (.str [120]) (.int 21)) .nil)))))))) B2) (SsDrop 9 b_law.body) := rfl
  rw [b8]
  refine ws_for (xs := [.non, .int 5, .str [113], .str [120, 32], .lst [.str [120]], .tup [.str [120]], .str (List.replicate 21 120)]) (s := none) (EI.of (EV.tup (.cons EV.non (.cons EV.int (.cons EV.str (.cons EV.str (.cons (EV.lst (.cons EV.str .nil) (by simp [lim])) (.cons (EV.tup (.cons EV.str .nil) (by simp [lim])) (.cons (EV.op EV.str EV.int rfl) .nil))))))) (by simp [lim])) rfl) ?_
  refine loop2 g po _ s5 (fun d hd => ?_) fun s5 => ?_
  · have : ([D.non, .int 5, .str [113], .str [120, 32], .lst [.str [120]], .tup [.str [120]], .str (List.replicate 21 120)].all fun d => okV d && !isOver d (sgOf clsA) 0 20) = true := by decide
    have := List.all_eq_true.mp this d hd
    simpa using this
  have b9 : SsDrop 9 b_law.body = .cons (.for false [5] (.tup (.cons .non (.cons (.neg (.int 1)) (.cons (.int 21) (.cons (.bl true) (.cons (.str [51]) (.cons (.lst (.cons (.int 3) .nil)) .nil))))))) B3) (SsDrop 10 b_law.body) := rfl
  rw [b9]
  refine ws_for (xs := [.non, .int (-1), .int 21, .bl true, .str [51], .lst [.int 3]]) (s := none) (EI.of (EV.tup (.cons EV.non (.cons (EV.neg EV.int) (.cons EV.int (.cons EV.bl (.cons EV.str (.cons (EV.lst (.cons EV.int .nil) (by simp [lim])) .nil)))))) (by simp [lim])) rfl) ?_
  refine loop3 g po C (prS_0 fit) _ s5 (fun d hd => ?_) fun s5 => ?_
  · simp only [List.mem_cons, List.not_mem_nil, or_false] at hd
    rcases hd with e | e | e | e | e | e <;> subst e
    · exact ⟨rfl, rfl, rfl, fun n e => (nomatch e), fun n e => (nomatch e), .inr fun _ => rfl⟩
    · exact ⟨rfl, rfl, rfl, fun n e => (nomatch e), fun n e => (nomatch e), .inr fun hi => by simp [isCount]⟩
    · exact ⟨rfl, rfl, rfl, fun n e => (nomatch e), fun n e => (nomatch e), .inl rfl⟩
    · exact ⟨rfl, rfl, rfl, fun n e => (nomatch e), fun n e => (nomatch e), .inr fun _ => rfl⟩
    · exact ⟨rfl, rfl, rfl, fun n e => (nomatch e), fun n e => (nomatch e), .inr fun _ => rfl⟩
    · exact ⟨rfl, rfl, rfl, fun n e => (nomatch e), fun n e => (nomatch e), .inr fun _ => rfl⟩
  exact tail_ok ns _ s5 a b fin
end Mi.G

set_option linter.all false
set_option maxRecDepth 100000
set_option maxHeartbeats 0
namespace Mi.G
open PySem PySem.Spec PyProof.Rows L2 Mi
theorem gk_gm : ∀ k, Gk tb.tab dfn k = Gm tm k
  | 0 => by
    unfold Gk Gm Tm.gam
    congr 1
  | k + 1 => by
    unfold Gk Gm Tm.gam
    rw [gk_gm k]
    congr 1
end Mi.G
theorem PySem.Challenge.cw_passrules_k02_policy_errors_holds : PySem.Challenge.rw_passrules_k02_policy_errors.Holds :=
  fin_k02 (lv := 40) (fun ns hn => by rw [Mi.G.gk_gm]; exact Mi.G.law_k02 ns hn) (by decide)

