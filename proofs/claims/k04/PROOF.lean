import PyProof.Rows.All
import Wide.All
import OpenK.AllK
import Wide.FinOn
import HandS.ForMost
import HandS.Exc
import HandS.TryOnly
import HandS.ExcOwn
import HandS.WordsExc
import HandS.Conv
import HandS.IsInst
import HandS.Zip
import HandS.TupAny
import HandS.Small
import HandS.CallSlots
import HandS.Deep
import HandS.TupMul
import HandS.More
import KE.KDictZip
import KE.KDictList
import PyProof.CollectWalk
import KE.GoesMore
import KE.GoesEnum
import PyProof.Draws
import HandS.Style
import HandS.RevRange
import HandS.ReCall
import HandS.SortOrd
import HandS.SortRule
import HandS.SortInts
import KE.KStateDown
import HandS.Ends
import HandS.Defaults
import HandS.Head0
import HandS.Head1
import HandS.Head2
import HandS.HeadEnd
import HandS.HeadHook1
import HandS.HeadHook2
import HandS.HeadHook3
import HandS.HeadHook4
import PySem.Challenge.RW_mapguard_k04_whole_met_is_least
set_option linter.all false
/-! A small language of values, a store, a total evaluator: what the defs of the given text compute, told without the model. -/
namespace MG

/-- values: lists that never change are values (lst), what changes lies in the store (ref); scr: the script; gd: a written dict -/
inductive D where
  | non
  | bl (b : Bool)
  | int (i : Int)
  | str (s : String)
  | tup (ds : List D)
  | lst (ds : List D)
  | scr (ns : List Int)
  | ref (r : Nat)
  | gd (n : String)

/-- what stands in the store; dead: let go -/
inductive O where
  | lst (ds : List D)
  | dK (kvs : List (D × D))
  | dT (kvs : List (D × D))
  | ins (c : String) (fs : List (String × D))
  | dead

abbrev Store := List O
abbrev Env := List (Option D)
/-- an exception: its class and fields -/
structure Exc where
  cls : String
  fs : List (String × D)

inductive Res (α : Type) where
  | ok (a : α) (st : Store)
  | err (x : Exc) (st : Store)
  | bad

def Res.bind {α β : Type} : Res α → (α → Store → Res β) → Res β
  | .ok a st, f => f a st
  | .err x st, _ => .err x st
  | .bad, _ => .bad

inductive Op1 where
  | neg | not | isN | notN
  deriving DecidableEq
inductive Op2 where
  | add | sub | mul | fdiv | md | pow | eq | ne | lt | le | gt | ge | in_ | nin | idx
  deriving DecidableEq
/-- built-in functions and methods (the receiver first) -/
inductive Bi where
  | len | isInt | isBool | isStr | isTup | isLst | isTL | isCls (c : String)
  | tuple | list | int | max | min | str | sorted | sortedK | range | zip
  | append | extend | pop | popAt | get1 | get2 | setd | upd | dictOf
  | join | split | index | count | insert | reverse
  deriving DecidableEq

/-- expressions, argument lists (nil, cons: a tuple's display), targets, what a loop walks -/
inductive C where
  | var (i : Nat)
  | k (d : D)
  | nil
  | cons (e es : C)
  | lst (own : Bool) (es : C)
  | op1 (o : Op1) (a : C)
  | op2 (o : Op2) (own : Bool) (a b : C)
  | and (a b : C)
  | or (a b : C)
  | ite (c a b : C)
  | chain (o1 o2 : Op2) (a b c : C)
  | slc (own : Bool) (e lo hi : C)
  | rev (own : Bool) (e : C)
  | bi (f : Bi) (own : Bool) (es : C)
  | bm (f : Bi) (own : Bool) (o es : C)
  | call (f : String) (es : C)
  | meth (c m : String) (o es : C)
  | make (c : String) (es : C)
  | fld (o : C) (f : String)
  | comp (own : Bool) (vs : List Nat) (t it cond elt : C)
  | rng (a b : C)
  | enum (e : C)
  | zip (a b : C)
  | rrng (a b : C)
  | dict (tk : Bool) (es : C)
  | frz (e : C)

inductive S where
  | skip
  | seq (a b : S)
  | ex (e : C)
  | asg (t e : C)
  | ret (e : C)
  | ife (c : C) (a b : S)
  | for_ (t it : C) (b : S)
  | while_ (c : C) (b : S)
  | raise (c : String) (ini : Bool) (es : C)
  | try_ (b : S) (cs : List String) (v : Option Nat) (h : S)
  | cont

inductive SR where
  | nx (ρ : Env) (st : Store)
  | ret (d : D) (st : Store)
  | ct (ρ : Env) (st : Store)
  | err (x : Exc) (ρ : Env) (st : Store)
  | bad

/-- no list, dict, instance longer than this -/
abbrev LIM : Nat := 16777216

/-! ### equality, membership -/
mutual
def eqv : D → D → Bool
  | .non, .non => true
  | .bl a, .bl b => a == b
  | .bl a, .int j => (if a then 1 else 0) == j
  | .int i, .bl b => i == (if b then 1 else 0)
  | .int i, .int j => i == j
  | .str x, .str y => x == y
  | .tup xs, .tup ys => eqvAll xs ys
  | .lst xs, .lst ys => eqvAll xs ys
  | _, _ => false
def eqvAll : List D → List D → Bool
  | [], [] => true
  | x :: xs, y :: ys => eqv x y && eqvAll xs ys
  | _, _ => false
end
/-! data alone, at most n deep -/
mutual
def pur : Nat → D → Bool
  | _, .non => true
  | _, .bl _ => true
  | _, .int _ => true
  | _, .str _ => true
  | n + 1, .tup ds => purAll n ds
  | n + 1, .lst ds => purAll n ds
  | _, _ => false
def purAll : Nat → List D → Bool
  | _, [] => true
  | n, d :: ds => pur n d && purAll n ds
end
def flat : D → Bool
  | .non => true
  | .bl _ => true
  | .int _ => true
  | .str _ => true
  | _ => false

/-- a list's items -/
def lstOf (st : Store) : D → Option (List D)
  | .lst ds => some ds
  | .ref r => match st[r]? with
    | some (.lst ds) => some ds
    | _ => none
  | _ => none
/-- a value to be compared -/
def shallow (st : Store) : D → D
  | .ref r => match st[r]? with
    | some (.lst ds) => .lst ds
    | _ => .ref r
  | d => d
def eqB (st : Store) (x y : D) : Option Bool :=
  if pur 60 (shallow st x) && pur 60 (shallow st y) then some (eqv (shallow st x) (shallow st y)) else none

/-- the place of an index -/
def place (n : Nat) (i : Int) : Option Nat :=
  if 0 ≤ i then (if i < n then some i.toNat else none) else if -(n : Int) ≤ i then some (i + n).toNat else none
def itemAt (ds : List D) (i : Int) : Option D := (place ds.length i).bind fun j => ds[j]?

/-! the very same value -/
mutual
def same : D → D → Bool
  | .non, .non => true
  | .bl a, .bl b => a == b
  | .int i, .int j => i == j
  | .str x, .str y => x == y
  | .tup xs, .tup ys => sameAll xs ys
  | .lst xs, .lst ys => sameAll xs ys
  | .scr xs, .scr ys => xs == ys
  | .ref r, .ref q => r == q
  | .gd n, .gd m => n == m
  | _, _ => false
def sameAll : List D → List D → Bool
  | [], [] => true
  | x :: xs, y :: ys => same x y && sameAll xs ys
  | _, _ => false
end
/-! ### dicts -/
def keyK : D → Bool
  | .int _ => true
  | .str _ => true
  | _ => false
def dget : List (D × D) → D → Option D
  | [], _ => none
  | (k, v) :: r, x => if eqv k x then some v else dget r x
def dput (kvs : List (D × D)) (x v : D) : List (D × D) :=
  if kvs.any (fun p => eqv p.1 x) then kvs.map (fun p => if eqv p.1 x then (p.1, v) else p) else kvs ++ [(x, v)]
/-- the written dicts; the written tuples -/
structure GD where
  get : String → List (D × D)
  kt : List (List D)

/-- a tuple that may be a key -/
def keyT (G : GD) : D → Bool
  | .tup ds => ds.all keyK && !(G.kt.any fun z => sameAll z ds)
  | _ => false
/-- a dict's pairs, and whether the key is of its kind -/
def dictAt (G : GD) (st : Store) (d key : D) : Option (List (D × D)) :=
  match d with
  | .gd n => match key with
    | .str _ => some (G.get n)
    | _ => none
  | .ref r => match st[r]? with
    | some (.dK kvs) => if keyK key then some kvs else none
    | some (.dT kvs) => if keyT G key then some kvs else none
    | _ => none
  | _ => none

def memB (G : GD) (st : Store) (x : D) : D → Option Bool
  | .tup ds => if flat x && ds.all flat then some (ds.any fun y => eqv y x) else none
  | .str s => match x with
    | .str c => if c.length = 1 then some (s.toList.any fun y => c.toList == [y]) else none
    | _ => none
  | .gd n => (dictAt G st (.gd n) x).map fun kvs => (dget kvs x).isSome
  | .lst ds => if pur 60 x && purAll 60 ds then some (ds.any fun y => eqv y x) else none
  | .ref r => match st[r]? with
    | some (.lst ds) => if pur 60 x && purAll 60 ds then some (ds.any fun y => eqv y x) else none
    | _ => (dictAt G st (.ref r) x).map fun kvs => (dget kvs x).isSome
  | _ => none

def okB {α : Type} (st : Store) (f : α → D) : Option α → Res D
  | some a => .ok (f a) st
  | none => .bad

/-- is the list fresh: as an object -/
def give (own : Bool) (ds : List D) (st : Store) : Res D :=
  if own then .ok (.ref st.length) (st ++ [.lst ds]) else .ok (.lst ds) st

def int2 (st : Store) (x y : D) (f : Int → Int → D) (c : Int → Int → Bool) : Res D :=
  match x, y with
  | .int i, .int j => if c i j then .ok (f i j) st else .bad
  | _, _ => .bad

def chars (s : String) : List D := s.toList.map fun c => .str (String.singleton c)

def addV (own : Bool) (st : Store) : D → D → Res D
  | .int i, .int j => .ok (.int (i + j)) st
  | .str a, .str b => if a.length + b.length ≤ LIM then .ok (.str (a ++ b)) st else .bad
  | .tup a, .tup b => if a.length + b.length ≤ LIM then .ok (.tup (a ++ b)) st else .bad
  | x, y => match lstOf st x, lstOf st y with
    | some a, some b => if a.length + b.length ≤ LIM then give own (a ++ b) st else .bad
    | _, _ => .bad
def mulV (own : Bool) (st : Store) : D → D → Res D
  | .int i, .int j => if (-18446744073709551616 < i ∧ i < 18446744073709551616) ∨ (-18446744073709551616 < j ∧ j < 18446744073709551616) then .ok (.int (i * j)) st else .bad
  | .tup a, .int j => if j = 2 ∧ a.length ≤ 1000 then .ok (.tup (a ++ a)) st else .bad
  | x, .int j => match lstOf st x with
    | some a => if -9223372036854775808 ≤ j ∧ j < 9223372036854775808 ∧ a.length * j.toNat ≤ LIM then give own (List.replicate j.toNat a).flatten st else .bad
    | none => .bad
  | _, _ => .bad
def idxV (G : GD) (st : Store) (x y : D) : Option D :=
  match y with
  | .int i => match x with
    | .tup ds => itemAt ds i
    | .lst ds => itemAt ds i
    | .scr ns => (place ns.length i).bind fun j => (ns[j]?).map D.int
    | .str s => if s.length ≤ LIM then itemAt (chars s) i else none
    | .ref r => match st[r]? with
      | some (.lst ds) => itemAt ds i
      | _ => (dictAt G st x y).bind fun kvs => dget kvs y
    | _ => none
  | _ => (dictAt G st x y).bind fun kvs => dget kvs y
def op2V (G : GD) (own : Bool) (o : Op2) (x y : D) (st : Store) : Res D :=
  match o with
  | .add => addV own st x y
  | .sub => int2 st x y (fun i j => .int (i - j)) fun _ _ => true
  | .mul => mulV own st x y
  | .fdiv => int2 st x y (fun i j => .int (i / j)) fun _ j => decide (0 < j ∧ j < 1073741824)
  | .md => int2 st x y (fun i j => .int (i % j)) fun _ j => decide (0 < j)
  | .pow => int2 st x y (fun i j => .int (i ^ j.toNat)) fun i j => decide (0 ≤ j ∧ j ≤ 1000000 ∧ i.natAbs < 18446744073709551616)
  | .eq => okB st D.bl (eqB st x y)
  | .ne => okB st (fun b => .bl (!b)) (eqB st x y)
  | .lt => int2 st x y (fun i j => .bl (decide (i < j))) fun _ _ => true
  | .le => int2 st x y (fun i j => .bl (decide (i ≤ j))) fun _ _ => true
  | .gt => int2 st x y (fun i j => .bl (decide (j < i))) fun _ _ => true
  | .ge => int2 st x y (fun i j => .bl (decide (j ≤ i))) fun _ _ => true
  | .in_ => okB st D.bl (memB G st x y)
  | .nin => okB st (fun b => .bl (!b)) (memB G st x y)
  | .idx => okB st id (idxV G st x y)
def op1V (o : Op1) (x : D) (st : Store) : Res D :=
  match o, x with
  | .neg, .int i => .ok (.int (-i)) st
  | .not, .bl b => .ok (.bl (!b)) st
  | .isN, .non => .ok (.bl true) st
  | .isN, _ => .ok (.bl false) st
  | .notN, .non => .ok (.bl false) st
  | .notN, _ => .ok (.bl true) st
  | _, _ => .bad

/-! ### built-ins -/
def lenV (st : Store) : D → Option Nat
  | .tup ds => some ds.length
  | .lst ds => some ds.length
  | .scr ns => some ns.length
  | .str s => if s.length ≤ LIM then some s.length else none
  | .ref r => match st[r]? with
    | some (.lst ds) => some ds.length
    | some (.dK kvs) => some kvs.length
    | _ => none
  | _ => none
def isLstB (st : Store) : D → Bool
  | .lst _ => true
  | .scr _ => true
  | .ref r => match st[r]? with
    | some (.lst _) => true
    | _ => false
  | _ => false
def isTupB : D → Bool
  | .tup _ => true
  | _ => false
/-- what isinstance can look at -/
def seenB (st : Store) : D → Bool
  | .gd _ => false
  | .ref r => match st[r]? with
    | some (.lst _) => true
    | some (.ins _ _) => true
    | _ => false
  | _ => true
/-- the place of a slice's bound -/
def cutAt (n : Nat) (dflt : Nat) : Option Int → Nat
  | none => dflt
  | some i => if i < 0 then (i + n).toNat else min i.toNat n
def cut (ds : List D) (lo hi : Option Int) : List D :=
  (ds.drop (cutAt ds.length 0 lo)).take (cutAt ds.length ds.length hi - cutAt ds.length 0 lo)
def insSort (le : D → D → Bool) (x : D) : List D → List D
  | [] => [x]
  | y :: r => if le x y then x :: y :: r else y :: insSort le x r
def sortBy (le : D → D → Bool) : List D → List D
  | [] => []
  | x :: r => insSort le x (sortBy le r)
def intLe : D → D → Bool
  | .int i, .int j => decide (i ≤ j)
  | _, _ => false
def isInt : D → Bool
  | .int _ => true
  | _ => false
/-- tuples that begin with two ints -/
def key2 : D → Option (Int × Int)
  | .tup (.int i :: .int j :: _) => some (i, j)
  | _ => none
def le2 (x y : D) : Bool :=
  match key2 x, key2 y with
  | some a, some b => decide (a.1 < b.1 ∨ a.1 = b.1 ∧ a.2 ≤ b.2)
  | _, _ => false
def sortV (ds : List D) : Option (List D) :=
  if ds.all isInt then some (sortBy intLe ds)
  else if (ds.all fun d => (key2 d).isSome) && decide (ds.map key2).Nodup then some (sortBy le2 ds)
  else none
def zipD : List D → List D → List D
  | a :: r, b :: s => .tup [a, b] :: zipD r s
  | _, _ => []
def enumD : Int → List D → List D
  | _, [] => []
  | n, a :: r => .tup [.int n, a] :: enumD (n + 1) r
def rangeD (a : Int) : Nat → List D
  | 0 => []
  | n + 1 => .int a :: rangeD (a + 1) n
/-- pairs as tuples of two -/
def pairsOf : List D → Option (List (D × D))
  | [] => some []
  | .tup [a, b] :: r => (pairsOf r).map fun ps => (a, b) :: ps
  | _ => none
def flatPairs : List D → Option (List (D × D))
  | [] => some []
  | a :: b :: r => (flatPairs r).map fun ps => (a, b) :: ps
  | _ => none
def dputAll (kvs : List (D × D)) : List (D × D) → List (D × D)
  | [] => kvs
  | (k, v) :: r => dputAll (dput kvs k v) r
def one (args : List D) (k : D → Res D) : Res D :=
  match args with
  | [x] => k x
  | _ => .bad
def two (args : List D) (k : D → D → Res D) : Res D :=
  match args with
  | [x, y] => k x y
  | _ => .bad
def three (args : List D) (k : D → D → D → Res D) : Res D :=
  match args with
  | [x, y, z] => k x y z
  | _ => .bad
def seen (st : Store) (x : D) (b : Bool) : Res D := if seenB st x then .ok (.bl b) st else .bad
def isIntB : D → Bool
  | .int _ => true
  | .bl _ => true
  | _ => false
def isBoolB : D → Bool
  | .bl _ => true
  | _ => false
def isStrB : D → Bool
  | .str _ => true
  | _ => false
def isClsB (st : Store) (c : String) : D → Bool
  | .ref r => match st[r]? with
    | some (.ins c' _) => c == c'
    | _ => false
  | _ => false
/-- an object of the store that is a list -/
def objL (st : Store) (x : D) (k : Nat → List D → Res D) : Res D :=
  match x with
  | .ref r => match st[r]? with
    | some (.lst ds) => k r ds
    | _ => .bad
  | _ => .bad
def onL (st : Store) (x : D) (k : List D → Res D) : Res D :=
  match lstOf st x with
  | some ds => k ds
  | none => .bad
def withI (x : D) (k : Int → Res D) : Res D :=
  match x with
  | .int i => k i
  | _ => .bad
def toTuple (st : Store) (x : D) : Res D :=
  match x with
  | .tup ds => .ok (.tup ds) st
  | _ => onL st x fun ds => .ok (.tup ds) st
def toList (own : Bool) (st : Store) (x : D) : Res D :=
  match x with
  | .tup ds => give own ds st
  | _ => onL st x fun ds => give own ds st
def toInt (st : Store) (x : D) : Res D :=
  match x with
  | .int i => .ok (.int i) st
  | .bl b => .ok (.int (if b then 1 else 0)) st
  | _ => .bad
def zipL (own : Bool) (st : Store) (x y : D) : Res D :=
  match x, y with
  | .tup a, .tup b => give own (zipD a b) st
  | _, _ => .bad
def popL (st : Store) (r : Nat) (ds : List D) : Res D :=
  match ds.getLast? with
  | some d => .ok d (st.set r (.lst ds.dropLast))
  | none => .bad
def popAtL (st : Store) (r : Nat) (ds : List D) (i : Int) : Res D :=
  match place ds.length i with
  | some j => match ds[j]? with
    | some d => .ok d (st.set r (.lst (ds.eraseIdx j)))
    | none => .bad
  | none => .bad
def getL (G : GD) (st : Store) (d x y : D) : Res D :=
  match dictAt G st d x with
  | some kvs => .ok ((dget kvs x).getD y) st
  | none => .bad
def updL (st : Store) (x y : D) : Res D :=
  match x, y with
  | .ref r, .ref q => match st[r]?, st[q]? with
    | some (.dK kvs), some (.dK new) => if r ≠ q ∧ kvs.length + new.length ≤ 1000 then .ok .non (st.set r (.dK (dputAll kvs new))) else .bad
    | _, _ => .bad
  | _, _ => .bad
def biV (G : GD) (own : Bool) (f : Bi) (args : List D) (st : Store) : Res D :=
  match f with
  | .len => one args fun x => okB st (fun n : Nat => .int n) (lenV st x)
  | .isInt => one args fun x => seen st x (isIntB x)
  | .isBool => one args fun x => seen st x (isBoolB x)
  | .isStr => one args fun x => seen st x (isStrB x)
  | .isTup => one args fun x => seen st x (isTupB x)
  | .isLst => one args fun x => seen st x (isLstB st x)
  | .isTL => one args fun x => seen st x (isTupB x || isLstB st x)
  | .isCls c => one args fun x => seen st x (isClsB st c x)
  | .tuple => one args fun x => toTuple st x
  | .list => one args fun x => toList own st x
  | .range => one args fun x => withI x fun n => if -4611686018427387904 ≤ n ∧ n ≤ LIM then give own (rangeD 0 n.toNat) st else .bad
  | .zip => two args fun x y => zipL own st x y
  | .int => one args fun x => toInt st x
  | .max => two args fun x y => withI x fun i => withI y fun j => .ok (.int (if j > i then j else i)) st
  | .min => two args fun x y => withI x fun i => withI y fun j => .ok (.int (if j < i then j else i)) st
  | .sorted => one args fun x => onL st x fun ds => match sortV ds with
    | some es => give own es st
    | none => .bad
  | .append => two args fun x y => objL st x fun r ds => if ds.length < LIM then .ok .non (st.set r (.lst (ds ++ [y]))) else .bad
  | .extend => two args fun x y => objL st x fun r ds => onL st y fun es => if ds.length + es.length ≤ LIM then .ok .non (st.set r (.lst (ds ++ es))) else .bad
  | .pop => one args fun x => objL st x fun r ds => popL st r ds
  | .popAt => two args fun x y => objL st x fun r ds => withI y fun i => if -9223372036854775808 ≤ i ∧ i < 9223372036854775808 then popAtL st r ds i else .bad
  | .get1 => two args fun d x => getL G st d x .non
  | .get2 => three args fun d x y => getL G st d x y
  | .upd => two args fun x y => updL st x y
  | _ => .bad

/-- what a method is asked of -/
def recv (f : Bi) (st : Store) (x : D) : Bool :=
  match f with
  | .append | .extend | .pop | .popAt | .index | .count | .insert | .reverse => (lstOf st x).isSome
  | .get1 | .get2 | .upd | .setd => match x with
    | .gd _ => true
    | .ref r => match st[r]? with
      | some (.dK _) => true
      | some (.dT _) => true
      | _ => false
    | _ => false
  | .join | .split => match x with
    | .str _ => true
    | _ => false
  | _ => false

/-! ### stores -/
def bindT : C → D → Env → Option Env
  | .var i, d, ρ => if i < ρ.length then some (ρ.set i (some d)) else none
  | .nil, .tup [], ρ => some ρ
  | .cons t ts, .tup (d :: ds), ρ => (bindT t d ρ).bind fun ρ1 => bindT ts (.tup ds) ρ1
  | _, _, _ => none
def fput : List (String × D) → String → D → List (String × D)
  | [], f, d => [(f, d)]
  | (g, e) :: r, f, d => if g = f then (g, d) :: r else (g, e) :: fput r f d
def fget : List (String × D) → String → Option D
  | [], _ => none
  | (g, e) :: r, f => if g = f then some e else fget r f
def setFld (st : Store) (o : D) (f : String) (d : D) : Option Store :=
  match o with
  | .ref r => match st[r]? with
    | some (.ins c fs) => if fs.length < 900 then some (st.set r (.ins c (fput fs f d))) else none
    | _ => none
  | _ => none
def setIdx (G : GD) (st : Store) (o i d : D) : Option Store :=
  match o with
  | .ref r => match st[r]? with
    | some (.lst ds) => match i with
      | .int j => (place ds.length j).map fun p => st.set r (.lst (ds.set p d))
      | _ => none
    | some (.dK kvs) => if keyK i && decide (kvs.length < 100000) then some (st.set r (.dK (dput kvs i d))) else none
    | some (.dT kvs) => if keyT G i && decide (kvs.length < 100000) then some (st.set r (.dT (dput kvs i d))) else none
    | _ => none
  | _ => none
def wipe (ρ : Env) : List Nat → Env
  | [] => ρ
  | v :: vs => (wipe ρ vs).set v none
/-- what a loop walks: the items, and a list that must stay as it is -/
def iterOf (st : Store) : D → Option (List D × Option (Nat × List D))
  | .tup ds => some (ds, none)
  | .lst ds => some (ds, none)
  | .str s => some (chars s, none)
  | .ref r => match st[r]? with
    | some (.lst ds) => some (ds, some (r, ds))
    | _ => none
  | _ => none
/-- still as it was -/
def stays (st : Store) : Option (Nat × List D) → Bool
  | none => true
  | some (r, ds) => match st[r]? with
    | some (.lst es) => sameAll es ds
    | _ => false

/-- a slice's part: left out, or an int -/
def partOf : C → D → Option (Option Int)
  | .k .non, _ => some none
  | _, .int i => some (some i)
  | _, _ => none

def slV (own : Bool) (d : D) (lo hi : Option Int) (st : Store) : Res D :=
  match d with
  | .tup ds => .ok (.tup (cut ds lo hi)) st
  | _ => match lstOf st d with
    | some ds => give own (cut ds lo hi) st
    | none => .bad

abbrev Call := String → List D → Store → Res D

/-- a comprehension's turns: the new list stands at r -/
def compL (r : Nat) (bind : D → Option Env) (cond elt : Env → Store → Res D) (chk : Option (Nat × List D)) : List D → Store → Res D
  | [], st => if stays st chk then .ok .non st else .bad
  | d :: ds, st => if stays st chk then match bind d with
      | none => .bad
      | some ρ => match cond ρ st with
        | .ok (.bl true) st1 => match elt ρ st1 with
          | .ok e st2 => match st2[r]? with
            | some (.lst acc) => if acc.length < LIM then compL r bind cond elt chk ds (st2.set r (.lst (acc ++ [e]))) else .bad
            | _ => .bad
          | _ => .bad
        | .ok (.bl false) st1 => compL r bind cond elt chk ds st1
        | _ => .bad
    else .bad
/-! names no object from n on -/
mutual
def below (n : Nat) : D → Bool
  | .ref r => decide (r < n)
  | .tup ds => belowAll n ds
  | .lst ds => belowAll n ds
  | _ => true
def belowAll (n : Nat) : List D → Bool
  | [] => true
  | d :: ds => below n d && belowAll n ds
end
def belowKV (n : Nat) : List (D × D) → Bool
  | [] => true
  | (k, v) :: r => below n k && below n v && belowKV n r
def belowF (n : Nat) : List (String × D) → Bool
  | [] => true
  | (_, v) :: r => below n v && belowF n r
def belowO (n : Nat) : O → Bool
  | .lst ds => belowAll n ds
  | .dK kvs => belowKV n kvs
  | .dT kvs => belowKV n kvs
  | .ins _ fs => belowF n fs
  | .dead => true
/-! the very same object -/
def sameKV : List (D × D) → List (D × D) → Bool
  | [], [] => true
  | (k, v) :: r, (k', v') :: r' => same k k' && same v v' && sameKV r r'
  | _, _ => false
def sameF : List (String × D) → List (String × D) → Bool
  | [], [] => true
  | (k, v) :: r, (k', v') :: r' => k == k' && same v v' && sameF r r'
  | _, _ => false
def sameO : O → O → Bool
  | .lst a, .lst b => sameAll a b
  | .dK a, .dK b => sameKV a b
  | .dT a, .dT b => sameKV a b
  | .ins c a, .ins c' b => c == c' && sameF a b
  | .dead, .dead => true
  | _, _ => false
/-- what stood ahead is as it was, or names nothing new -/
def keptB (n : Nat) : Store → Store → Bool
  | [], _ => true
  | o :: r, p :: q => (sameO o p || belowO n p) && keptB n r q
  | _ :: _, [] => false
/-- a comprehension's list becomes a value: the store is cut back to what stood ahead of it, where nothing new is named -/
def freezeC (st1 st : Store) : Res D :=
  match st[st1.length]? with
  | some (.lst ds) => if belowAll st1.length ds && keptB st1.length st1 st then .ok (.lst ds) (st.take st1.length) else .ok (.lst ds) (st.set st1.length .dead)
  | _ => .bad
/-- an object of the store becomes a value -/
def freeze (r : Nat) (st : Store) : Res D :=
  match st[r]? with
  | some (.lst ds) => .ok (.lst ds) (st.set r .dead)
  | _ => .bad

def evE (G : GD) (call : Call) : C → Env → Store → Res D
  | .var i, ρ, st => match ρ[i]? with
    | some (some d) => .ok d st
    | _ => .bad
  | .k d, _, st => .ok d st
  | .nil, _, st => .ok (.tup []) st
  | .cons e es, ρ, st => (evE G call e ρ st).bind fun d st1 => (evE G call es ρ st1).bind fun ds st2 =>
    match ds with
    | .tup l => .ok (.tup (d :: l)) st2
    | _ => .bad
  | .lst own es, ρ, st => (evE G call es ρ st).bind fun ds st1 => match ds with
    | .tup l => give own l st1
    | _ => .bad
  | .op1 o a, ρ, st => (evE G call a ρ st).bind fun x st1 => op1V o x st1
  | .op2 o own a b, ρ, st => (evE G call a ρ st).bind fun x st1 => (evE G call b ρ st1).bind fun y st2 => op2V G own o x y st2
  | .and a b, ρ, st => (evE G call a ρ st).bind fun x st1 => match x with
    | .bl true => evE G call b ρ st1
    | .bl false => .ok (.bl false) st1
    | _ => .bad
  | .or a b, ρ, st => (evE G call a ρ st).bind fun x st1 => match x with
    | .bl true => .ok (.bl true) st1
    | .bl false => evE G call b ρ st1
    | _ => .bad
  | .ite c a b, ρ, st => (evE G call c ρ st).bind fun x st1 => match x with
    | .bl true => evE G call a ρ st1
    | .bl false => evE G call b ρ st1
    | _ => .bad
  | .chain o1 o2 a b c, ρ, st => (evE G call a ρ st).bind fun x st1 => (evE G call b ρ st1).bind fun y st2 =>
    (op2V G false o1 x y st2).bind fun z st3 => match z with
    | .bl true => (evE G call c ρ st3).bind fun w st4 => op2V G false o2 y w st4
    | .bl false => .ok (.bl false) st3
    | _ => .bad
  | .slc own e lo hi, ρ, st => (evE G call e ρ st).bind fun x st1 => (evE G call lo ρ st1).bind fun l st2 => match partOf lo l with
    | none => .bad
    | some a => (evE G call hi ρ st2).bind fun h st3 => match partOf hi h with
      | none => .bad
      | some b => slV own x a b st3
  | .rev own e, ρ, st => (evE G call e ρ st).bind fun x st1 => match lstOf st1 x with
    | some ds => give own ds.reverse st1
    | none => .bad
  | .bi f own es, ρ, st => (evE G call es ρ st).bind fun ds st1 => match ds with
    | .tup l => biV G own f l st1
    | _ => .bad
  | .bm f own o es, ρ, st => (evE G call o ρ st).bind fun x st1 => if recv f st1 x then (evE G call es ρ st1).bind fun ds st2 => match ds with
      | .tup l => biV G own f (x :: l) st2
      | _ => .bad
    else .bad
  | .call f es, ρ, st => (evE G call es ρ st).bind fun ds st1 => match ds with
    | .tup l => call f l st1
    | _ => .bad
  | .meth c m o es, ρ, st => (evE G call o ρ st).bind fun x st1 => match x with
    | .ref r => match st1[r]? with
      | some (.ins c' fs) => if c = c' ∧ fget fs m = none then (evE G call es ρ st1).bind fun ds st2 => match ds with
          | .tup l => call (c ++ "." ++ m) (x :: l) st2
          | _ => .bad
        else .bad
      | _ => .bad
    | _ => .bad
  | .make c es, ρ, st => (evE G call es ρ st).bind fun ds st1 => match ds with
    | .tup l => (call (c ++ ".__init__") (.ref st1.length :: l) (st1 ++ [.ins c []])).bind fun d st2 => match d with
      | .non => .ok (.ref st1.length) st2
      | _ => .bad
    | _ => .bad
  | .fld o f, ρ, st => (evE G call o ρ st).bind fun x st1 => match x with
    | .ref r => match st1[r]? with
      | some (.ins _ fs) => okB st1 id (fget fs f)
      | _ => .bad
    | _ => .bad
  | .comp own vs t it cond elt, ρ, st => (evE G call it ρ st).bind fun x st1 => match iterOf st1 x with
    | some (items, chk) =>
        (compL st1.length (fun d => bindT t d (wipe ρ vs)) (fun ρ' st' => evE G call cond ρ' st') (fun ρ' st' => evE G call elt ρ' st') chk items (st1 ++ [.lst []])).bind fun _ st2 =>
          if own then .ok (.ref st1.length) st2 else freezeC st1 st2
    | none => .bad
  | .rng a b, ρ, st => (evE G call a ρ st).bind fun x st1 => (evE G call b ρ st1).bind fun y st2 => match x, y with
    | .int i, .int j => if -4611686018427387904 ≤ i ∧ i < 4611686018427387904 ∧ -4611686018427387904 ≤ j ∧ j < 4611686018427387904 then .ok (.tup (rangeD i (j - i).toNat)) st2 else .bad
    | _, _ => .bad
  | .rrng a b, ρ, st => (evE G call a ρ st).bind fun x st1 => (evE G call b ρ st1).bind fun y st2 => match x, y with
    | .int i, .int j => if -4611686018427387904 ≤ i ∧ i < 4611686018427387904 ∧ -4611686018427387904 ≤ j ∧ j < 4611686018427387904 then .ok (.tup (rangeD i (j - i).toNat).reverse) st2 else .bad
    | _, _ => .bad
  | .enum e, ρ, st => (evE G call e ρ st).bind fun x st1 => match x with
    | .tup ds => .ok (.tup (enumD 0 ds)) st1
    | .lst ds => .ok (.tup (enumD 0 ds)) st1
    | _ => .bad
  | .zip a b, ρ, st => (evE G call a ρ st).bind fun x st1 => (evE G call b ρ st1).bind fun y st2 => match x, y with
    | .tup i, .tup j => .ok (.tup (zipD i j)) st2
    | .lst i, .lst j => .ok (.tup (zipD i j)) st2
    | _, _ => .bad
  | .dict tk es, ρ, st => if tk then .ok (.ref st.length) (st ++ [.dT []]) else
    (evE G call es ρ (st ++ [.dK []])).bind fun ds st1 => match ds with
    | .tup l => match flatPairs l with
      | some ps => if ps.all (fun p => keyK p.1) && decide (ps.length ≤ 15) then match st1[st.length]? with
          | some (.dK []) => .ok (.ref st.length) (st1.set st.length (.dK (dputAll [] ps)))
          | _ => .bad
        else .bad
      | none => .bad
    | _ => .bad
  | .frz e, ρ, st => (evE G call e ρ st).bind fun x st1 => match x with
    | .ref r => freeze r st1
    | _ => .bad

/-- an expression's end as a statement's -/
def Res.go {α : Type} (ρ : Env) : Res α → (α → Store → SR) → SR
  | .ok a st, f => f a st
  | .err x st, _ => .err x ρ st
  | .bad, _ => .bad

/-- a target is stored to -/
def asgT (G : GD) (call : Call) : C → D → Env → Store → SR
  | .var i, d, ρ, st => if i < ρ.length then .nx (ρ.set i (some d)) st else .bad
  | .fld o f, d, ρ, st => (evE G call o ρ st).go ρ fun x st1 => match setFld st1 x f d with
    | some st2 => .nx ρ st2
    | none => .bad
  | .op2 .idx _ o i, d, ρ, st => (evE G call o ρ st).go ρ fun x st1 => (evE G call i ρ st1).go ρ fun y st2 => match setIdx G st2 x y d with
    | some st3 => .nx ρ st3
    | none => .bad
  | .nil, .tup [], ρ, st => .nx ρ st
  | .cons t ts, .tup (d :: ds), ρ, st => match asgT G call t d ρ st with
    | .nx ρ1 st1 => asgT G call ts (.tup ds) ρ1 st1
    | r => r
  | _, _, _, _ => .bad

/-- what is unpacked -/
def unp (st : Store) (d : D) : C → D
  | .cons _ _ => match lstOf st d with
    | some ds => .tup ds
    | none => d
  | _ => d

/-- how many targets -/
def clen : C → Nat
  | .cons _ ts => clen ts + 1
  | _ => 0
/-- as many values as targets -/
def fitsT : C → D → Bool
  | .cons t ts, .tup ds => ds.length == clen (.cons t ts)
  | .cons _ _, _ => false
  | _, _ => true

/-- a loop's turns -/
def forL (bind : D → Env → Option Env) (body : Env → Store → SR) (chk : Option (Nat × List D)) : List D → Env → Store → SR
  | [], ρ, st => if stays st chk then .nx ρ st else .bad
  | d :: ds, ρ, st => if stays st chk then match bind d ρ with
      | none => .bad
      | some ρ1 => match body ρ1 st with
        | .nx ρ2 st2 => forL bind body chk ds ρ2 st2
        | .ct ρ2 st2 => forL bind body chk ds ρ2 st2
        | r => r
    else .bad
def whileL (cond : Env → Store → Res D) (body : Env → Store → SR) : Nat → Env → Store → SR
  | 0, _, _ => .bad
  | n + 1, ρ, st => (cond ρ st).go ρ fun x st1 => match x with
    | .bl false => .nx ρ st1
    | .bl true => match body ρ st1 with
      | .nx ρ2 st2 => whileL cond body n ρ2 st2
      | .ct ρ2 st2 => whileL cond body n ρ2 st2
      | r => r
    | _ => .bad
/-- no while has more turns -/
abbrev TURNS : Nat := 1000000

/-- which except clauses take a class of the text's own: by its ancestors -/
abbrev Up := String → List String

def evS (G : GD) (U : Up) (call : Call) : S → Env → Store → SR
  | .skip, ρ, st => .nx ρ st
  | .seq a b, ρ, st => match evS G U call a ρ st with
    | .nx ρ1 st1 => evS G U call b ρ1 st1
    | r => r
  | .ex e, ρ, st => (evE G call e ρ st).go ρ fun _ st1 => .nx ρ st1
  | .asg t e, ρ, st => (evE G call e ρ st).go ρ fun d st1 => if fitsT t (unp st1 d t) then asgT G call t (unp st1 d t) ρ st1 else .bad
  | .ret e, ρ, st => (evE G call e ρ st).go ρ fun d st1 => .ret d st1
  | .ife c a b, ρ, st => (evE G call c ρ st).go ρ fun x st1 => match x with
    | .bl true => evS G U call a ρ st1
    | .bl false => evS G U call b ρ st1
    | _ => .bad
  | .for_ t it b, ρ, st => (evE G call it ρ st).go ρ fun x st1 => match iterOf st1 x with
    | some (items, chk) => forL (fun d ρ' => bindT t d ρ') (fun ρ' st' => evS G U call b ρ' st') chk items ρ st1
    | none => .bad
  | .while_ c b, ρ, st => whileL (fun ρ' st' => evE G call c ρ' st') (fun ρ' st' => evS G U call b ρ' st') TURNS ρ st
  | .raise c ini es, ρ, st => (evE G call es ρ st).go ρ fun ds st1 => match ds with
    | .tup l => if ini = false then .err ⟨c, []⟩ ρ st1 else match call (c ++ ".__init__") (.ref st1.length :: l) (st1 ++ [.ins c []]) with
      | .ok .non st2 => match st2[st1.length]? with
        | some (.ins c' fs) => if c = c' then .err ⟨c, fs⟩ ρ (st2.set st1.length .dead) else .bad
        | _ => .bad
      | _ => .bad
    | _ => .bad
  | .try_ b cs v h, ρ, st => match evS G U call b ρ st with
    | .err x ρ1 st1 => if cs.any (fun c => (U x.cls).contains c) then
        match v with
        | none => evS G U call h ρ1 st1
        | some i => if i < ρ1.length then evS G U call h (ρ1.set i (some (.ref st1.length))) (st1 ++ [.ins x.cls x.fs]) else .bad
      else .err x ρ1 st1
    | r => r
  | .cont, ρ, st => .ct ρ st

/-- a def: how many parameters, how many slots, its body -/
structure Fn where
  np : Nat
  ns : Nat
  body : S
abbrev Prog := String → Option Fn
/-- a call's end: the store is cut back to what stood ahead of it, where nothing new is named -/
def cutR (st0 : Store) : Res D → Res D
  | .ok v st => if below st0.length v && keptB st0.length st0 st then .ok v (st.take st0.length) else .ok v st
  | .err x st => if belowF st0.length x.fs && keptB st0.length st0 st then .err x (st.take st0.length) else .err x st
  | .bad => .bad
/-- a body's end as a call's -/
def endR : SR → Res D
  | .ret v st1 => .ok v st1
  | .nx _ st1 => .ok .non st1
  | .err x _ st1 => .err x st1
  | _ => .bad
@[irreducible] def callN (G : GD) (U : Up) (P : Prog) : Nat → Call
  | 0, _, _, _ => .bad
  | n + 1, f, args, st => match P f with
    | none => .bad
    | some d => if args.length = d.np then
        cutR st (endR (evS G U (callN G U P n) d.body (args.map some ++ List.replicate (d.ns - d.np) none) st))
      else .bad
theorem callN_zero (G : GD) (U : Up) (P : Prog) (f : String) (args : List D) (st : Store) : callN G U P 0 f args st = .bad := by with_unfolding_all rfl
theorem callN_succ (G : GD) (U : Up) (P : Prog) (n : Nat) (f : String) (args : List D) (st : Store) : callN G U P (n + 1) f args st = match P f with
    | none => .bad
    | some d => if args.length = d.np then
        cutR st (endR (evS G U (callN G U P n) d.body (args.map some ++ List.replicate (d.ns - d.np) none) st))
      else .bad := by with_unfolding_all rfl
end MG

set_option Elab.async false
set_option linter.all false
set_option maxRecDepth 100000
set_option maxHeartbeats 4000000
/-! The core language's states against the hand layer's abstract heap. -/
namespace MGS
open PySem PySem.Spec PyProof.Rows L2

/-- what of the module the values need: where a class, a written dict stands -/
structure Mc where
  K : PySem.W.Frag
  cls : String → Option Addr
  xcls : String → Option Addr
  gd : String → Option Addr
  G : MG.GD
  exc : Bool

/-- the state of the core machine over the abstract heap: m: where the store's objects stand -/
structure Sx where
  m : List Addr
  st : MG.Store
  H : Hp

def live (s : Sx) (a : Addr) : Prop := ∃ (r : Nat) (o : MG.O), s.m[r]? = some a ∧ s.st[r]? = some o ∧ o ≠ MG.O.dead

abbrev sOf (x : String) : Str := Str.ofString x

mutual
/-- a core value stands as a value of the layer -/
inductive RD (M : Mc) (s : Sx) : MG.D → V → Prop
  | non : RD M s .non .non
  | bl (b : Bool) : RD M s (.bl b) (.bl b)
  | int (i : Int) : RD M s (.int i) (.int i)
  | str (x : String) : RD M s (.str x) (.str (sOf x))
  | tup {a : Addr} {vs : List V} {ds : List MG.D} : s.H a = some (.tup vs) → ¬ live s a → RDs M s ds vs → RD M s (.tup ds) (.ref a)
  | tupK {a : Addr} {vs : List V} {ds : List MG.D} : (∀ H, SqT M.K H a vs) → ds ∈ M.G.kt → RDs M s ds vs → RD M s (.tup ds) (.ref a)
  | lst {a : Addr} {vs : List V} {ds : List MG.D} : s.H a = some (.lst vs) → ¬ live s a → RDs M s ds vs → RD M s (.lst ds) (.ref a)
  | scr {a : Addr} {ns : List Int} : Rd s.H a (.lst (ns.map V.int)) → ¬ live s a → RD M s (.scr ns) (.ref a)
  | scrK {a : Addr} {ns : List Int} : (∀ H, SqL M.K H a (ns.map V.int)) → RD M s (.scr ns) (.ref a)
  | ref {a : Addr} {r : Nat} : s.m[r]? = some a → RD M s (.ref r) (.ref a)
  | gd {a : Addr} {n : String} : M.gd n = some a → RD M s (.gd n) (.ref a)
inductive RDs (M : Mc) (s : Sx) : List MG.D → List V → Prop
  | nil : RDs M s [] []
  | cons {d : MG.D} {v : V} {ds : List MG.D} {vs : List V} : RD M s d v → RDs M s ds vs → RDs M s (d :: ds) (v :: vs)
end

/-- a dict's key -/
def keyOf : MG.D → Option Key
  | .int i => some (.inl i)
  | .str x => some (.inr (sOf x))
  | _ => none
def keysOf : List MG.D → Option (List Key)
  | [] => some []
  | d :: ds => match keyOf d, keysOf ds with
    | some k, some ks => some (k :: ks)
    | _, _ => none
def tkeyOf : MG.D → Option (List Key)
  | .tup ds => keysOf ds
  | _ => none
inductive RKV (M : Mc) (s : Sx) : List (MG.D × MG.D) → List (Key × V) → Prop
  | nil : RKV M s [] []
  | cons {k : MG.D} {κ : Key} {d : MG.D} {v : V} {r : List (MG.D × MG.D)} {q : List (Key × V)} : keyOf k = some κ → RD M s d v → RKV M s r q → RKV M s ((k, d) :: r) ((κ, v) :: q)
inductive RTV (M : Mc) (s : Sx) : List (MG.D × MG.D) → List (List Key × V) → Prop
  | nil : RTV M s [] []
  | cons {k : MG.D} {κ : List Key} {d : MG.D} {v : V} {r : List (MG.D × MG.D)} {q : List (List Key × V)} : tkeyOf k = some κ → RD M s d v → RTV M s r q → RTV M s ((k, d) :: r) ((κ, v) :: q)
/-- fields: by lookup -/
def RF (M : Mc) (s : Sx) (fs : List (String × MG.D)) (gs : List (Str × V)) : Prop :=
  gs.length = fs.length ∧ ∀ f : String, match MG.fget fs f with
    | none => gs.lookup (sOf f) = none
    | some d => ∃ v, gs.lookup (sOf f) = some v ∧ RD M s d v
/-- an object of the store at its address -/
def RO (M : Mc) (s : Sx) (a : Addr) : MG.O → Prop
  | .lst ds => ∃ vs, s.H a = some (.lst vs) ∧ RDs M s ds vs
  | .dK kvs => ∃ q, s.H a = some (.dK q) ∧ RKV M s kvs q
  | .dT kvs => ∃ q, s.H a = some (.dT q) ∧ RTV M s kvs q
  | .ins c fs => ∃ C dx gs, M.cls c = some C ∧ s.H a = some (.ins C dx gs) ∧ RF M s fs gs
  | .dead => True

structure Sim (M : Mc) (s : Sx) : Prop where
  len : s.m.length = s.st.length
  nd : s.m.Nodup
  al : ∀ a ∈ s.m, s.H a ≠ none
  ob : ∀ (r : Nat) (a : Addr) (o : MG.O), s.m[r]? = some a → s.st[r]? = some o → RO M s a o

/-- what a value may stand at -/
def valO : HO → Bool
  | .tup _ => true
  | .lst _ => true
  | .frz _ _ => true
  | .xd _ => true
  | _ => false
/-- what a piece of code may do -/
structure Step (s t : Sx) : Prop where
  pre : ∃ l, t.m = s.m ++ l
  kf : ∀ a o, valO o = true → s.H a = some o → ¬ live s a → t.H a = some o ∧ ¬ live t a
  more : ∀ a, s.H a ≠ none → t.H a ≠ none

theorem Step.refl (s : Sx) : Step s s := ⟨⟨[], by simp⟩, fun _ _ _ h n => ⟨h, n⟩, fun _ h => h⟩
theorem Step.trans {s t u : Sx} (a : Step s t) (b : Step t u) : Step s u := by
  refine ⟨?_, fun x o v h n => b.kf x o v (a.kf x o v h n).1 (a.kf x o v h n).2, fun x h => b.more x (a.more x h)⟩
  obtain ⟨l, e⟩ := a.pre
  obtain ⟨l', e'⟩ := b.pre
  exact ⟨l ++ l', by rw [e', e, List.append_assoc]⟩
theorem Step.mk' {s t : Sx} (pre : ∃ l, t.m = s.m ++ l) (keep : ∀ a o, s.H a = some o → ¬ live s a → t.H a = some o) (fresh : ∀ a, s.H a ≠ none → ¬ live s a → ¬ live t a) (more : ∀ a, s.H a ≠ none → t.H a ≠ none) : Step s t :=
  ⟨pre, fun a o _ h n => ⟨keep a o h n, fresh a (by rw [h]; simp) n⟩, more⟩
theorem Step.at {s t : Sx} (a : Step s t) {r : Nat} {x : Addr} (h : s.m[r]? = some x) : t.m[r]? = some x := by
  obtain ⟨l, e⟩ := a.pre
  rw [e, List.getElem?_append_left (List.getElem?_eq_some_iff.mp h).1]
  exact h
theorem Step.rd {s t : Sx} (a : Step s t) {x : Addr} {xs : List V} (h : Rd s.H x (.lst xs)) (n : ¬ live s x) : Rd t.H x (.lst xs) ∧ ¬ live t x := by
  rcases h with h | ⟨o, h⟩
  · exact ⟨.inl (a.kf x _ rfl h n).1, (a.kf x _ rfl h n).2⟩
  · exact ⟨.inr ⟨o, (a.kf x _ rfl h n).1⟩, (a.kf x _ rfl h n).2⟩
theorem Rd.ne {H : Hp} {a : Addr} {u : HO} (h : Rd H a u) : H a ≠ none := by
  rcases h with h | ⟨o, h⟩ <;> rw [h] <;> simp

mutual
theorem RD.step {M : Mc} {s t : Sx} (a : Step s t) : ∀ {d : MG.D} {v : V}, RD M s d v → RD M t d v
  | _, _, .non => .non
  | _, _, .bl b => .bl b
  | _, _, .int i => .int i
  | _, _, .str x => .str x
  | _, _, .tup h n r => .tup (a.kf _ _ rfl h n).1 (a.kf _ _ rfl h n).2 (RDs.step a r)
  | _, _, .tupK h n r => .tupK h n (RDs.step a r)
  | _, _, .lst h n r => .lst (a.kf _ _ rfl h n).1 (a.kf _ _ rfl h n).2 (RDs.step a r)
  | _, _, .scr h n => .scr (a.rd h n).1 (a.rd h n).2
  | _, _, .scrK h => .scrK h
  | _, _, .ref h => .ref (a.at h)
  | _, _, .gd h => .gd h
theorem RDs.step {M : Mc} {s t : Sx} (a : Step s t) : ∀ {ds : List MG.D} {vs : List V}, RDs M s ds vs → RDs M t ds vs
  | _, _, .nil => .nil
  | _, _, .cons h r => .cons (RD.step a h) (RDs.step a r)
end

/-! ### what is known of related values -/
theorem RDs.length {M : Mc} {s : Sx} : ∀ {ds : List MG.D} {vs : List V}, RDs M s ds vs → ds.length = vs.length
  | _, _, .nil => rfl
  | _, _, .cons _ r => by rw [List.length_cons, List.length_cons, RDs.length r]
theorem RDs.get {M : Mc} {s : Sx} : ∀ {ds : List MG.D} {vs : List V} {i : Nat} {d : MG.D}, RDs M s ds vs → ds[i]? = some d → ∃ v, vs[i]? = some v ∧ RD M s d v
  | _, _, _, _, .nil, e => by simp at e
  | _, _, 0, _, .cons h _, e => by simp at e; subst e; exact ⟨_, rfl, h⟩
  | _, _, i + 1, d, .cons _ r, e => by
    obtain ⟨v, h1, h2⟩ := RDs.get (i := i) (d := d) r (by simpa using e)
    exact ⟨v, by simpa using h1, h2⟩
theorem RDs.getV {M : Mc} {s : Sx} : ∀ {ds : List MG.D} {vs : List V} {i : Nat} {v : V}, RDs M s ds vs → vs[i]? = some v → ∃ d, ds[i]? = some d ∧ RD M s d v
  | _, _, _, _, .nil, e => by simp at e
  | _, _, 0, _, .cons h _, e => by simp at e; subst e; exact ⟨_, rfl, h⟩
  | _, _, i + 1, v, .cons _ r, e => by
    obtain ⟨d, h1, h2⟩ := RDs.getV (i := i) (v := v) r (by simpa using e)
    exact ⟨d, by simpa using h1, h2⟩
theorem RDs.append {M : Mc} {s : Sx} : ∀ {ds es : List MG.D} {vs us : List V}, RDs M s ds vs → RDs M s es us → RDs M s (ds ++ es) (vs ++ us)
  | _, _, _, _, .nil, q => q
  | _, _, _, _, .cons h r, q => .cons h (RDs.append r q)
theorem RDs.take {M : Mc} {s : Sx} : ∀ {ds : List MG.D} {vs : List V} (n : Nat), RDs M s ds vs → RDs M s (ds.take n) (vs.take n)
  | _, _, 0, _ => by simp; exact .nil
  | _, _, _ + 1, .nil => by simp; exact .nil
  | _, _, n + 1, .cons h r => .cons h (RDs.take n r)
theorem RDs.drop {M : Mc} {s : Sx} : ∀ {ds : List MG.D} {vs : List V} (n : Nat), RDs M s ds vs → RDs M s (ds.drop n) (vs.drop n)
  | _, _, 0, r => r
  | _, _, _ + 1, .nil => .nil
  | _, _, n + 1, .cons _ r => RDs.drop n r
theorem RDs.reverse {M : Mc} {s : Sx} : ∀ {ds : List MG.D} {vs : List V}, RDs M s ds vs → RDs M s ds.reverse vs.reverse
  | _, _, .nil => .nil
  | _, _, .cons h r => by
    rw [List.reverse_cons, List.reverse_cons]
    exact (RDs.reverse r).append (.cons h .nil)
theorem RDs.set {M : Mc} {s : Sx} {d : MG.D} {v : V} (h : RD M s d v) : ∀ {ds : List MG.D} {vs : List V} (i : Nat), RDs M s ds vs → RDs M s (ds.set i d) (vs.set i v)
  | _, _, _, .nil => .nil
  | _, _, 0, .cons _ r => .cons h r
  | _, _, i + 1, .cons q r => .cons q (RDs.set h i r)
theorem RDs.eraseIdx {M : Mc} {s : Sx} : ∀ {ds : List MG.D} {vs : List V} (i : Nat), RDs M s ds vs → RDs M s (ds.eraseIdx i) (vs.eraseIdx i)
  | _, _, _, .nil => .nil
  | _, _, 0, .cons _ r => r
  | _, _, i + 1, .cons q r => .cons q (RDs.eraseIdx i r)
theorem RDs.dropLast {M : Mc} {s : Sx} {ds : List MG.D} {vs : List V} (r : RDs M s ds vs) : RDs M s ds.dropLast vs.dropLast := by
  rw [List.dropLast_eq_take, List.dropLast_eq_take, r.length]
  exact r.take _
theorem RDs.replicate {M : Mc} {s : Sx} {ds : List MG.D} {vs : List V} (r : RDs M s ds vs) : ∀ n : Nat, RDs M s (List.replicate n ds).flatten (List.replicate n vs).flatten
  | 0 => .nil
  | n + 1 => by
    rw [List.replicate_succ, List.replicate_succ, List.flatten_cons, List.flatten_cons]
    exact r.append (RDs.replicate r n)
theorem RDs.ints {M : Mc} {s : Sx} : ∀ ns : List Int, RDs M s (ns.map MG.D.int) (ns.map V.int)
  | [] => .nil
  | n :: ns => .cons (.int n) (RDs.ints ns)

theorem RKV.step {M : Mc} {s t : Sx} (a : Step s t) : ∀ {r : List (MG.D × MG.D)} {q : List (Key × V)}, RKV M s r q → RKV M t r q
  | _, _, .nil => .nil
  | _, _, .cons k h r => .cons k (h.step a) (RKV.step a r)
theorem RTV.step {M : Mc} {s t : Sx} (a : Step s t) : ∀ {r : List (MG.D × MG.D)} {q : List (List Key × V)}, RTV M s r q → RTV M t r q
  | _, _, .nil => .nil
  | _, _, .cons k h r => .cons k (h.step a) (RTV.step a r)
theorem RF.step {M : Mc} {s t : Sx} (a : Step s t) {fs : List (String × MG.D)} {gs : List (Str × V)} (h : RF M s fs gs) : RF M t fs gs := by
  refine ⟨h.1, fun f => ?_⟩
  have q := h.2 f
  revert q
  cases MG.fget fs f with
  | none => exact fun q => q
  | some d => exact fun ⟨v, q1, q2⟩ => ⟨v, q1, q2.step a⟩
/-- an object that stands as it stood -/
theorem RO.step {M : Mc} {s t : Sx} (a : Step s t) {x : Addr} {o : MG.O} (h : RO M s x o) (e : t.H x = s.H x) : RO M t x o := by
  cases o with
  | lst ds => obtain ⟨vs, h1, h2⟩ := h; exact ⟨vs, by rw [e]; exact h1, h2.step a⟩
  | dK kvs => obtain ⟨q, h1, h2⟩ := h; exact ⟨q, by rw [e]; exact h1, h2.step a⟩
  | dT kvs => obtain ⟨q, h1, h2⟩ := h; exact ⟨q, by rw [e]; exact h1, h2.step a⟩
  | ins c fs => obtain ⟨C, dx, gs, h0, h1, h2⟩ := h; exact ⟨C, dx, gs, h0, by rw [e]; exact h1, h2.step a⟩
  | dead => trivial

theorem live_ne {M : Mc} {s : Sx} (S : Sim M s) {a : Addr} (h : live s a) : s.H a ≠ none := by
  obtain ⟨r, o, h1, _, _⟩ := h
  exact S.al a (List.mem_of_getElem? h1)
theorem not_live {M : Mc} {s : Sx} (S : Sim M s) {a : Addr} (h : s.H a = none) : ¬ live s a := fun q => live_ne S q h

/-! ### what code does to the state -/
/-- a new object that the store does not know -/
theorem lay_step {M : Mc} {s : Sx} (S : Sim M s) {p : Addr} {o : HO} (n : s.H p = none) : Step s { s with H := upd s.H p o } := by
  refine Step.mk' ⟨[], by simp⟩ (fun a u h _ => ?_) (fun a h nl => nl) fun a h => ?_
  · show upd s.H p o a = some u
    rw [upd_ne (ne_of_none h n)]
    exact h
  · show upd s.H p o a ≠ none
    by_cases e : a = p
    · rw [e, upd_same]; simp
    · rw [upd_ne e]; exact h
theorem lay_sim {M : Mc} {s : Sx} (S : Sim M s) {p : Addr} {o : HO} (n : s.H p = none) : Sim M { s with H := upd s.H p o } := by
  have T := lay_step (o := o) S n
  refine ⟨S.len, S.nd, fun a h => T.more a (S.al a h), fun r a ob h1 h2 => ?_⟩
  have ne : a ≠ p := fun e => S.al a (List.mem_of_getElem? h1) (by rw [e]; exact n)
  exact (S.ob r a ob h1 h2).step T (upd_ne ne)
theorem lay_live {M : Mc} {s : Sx} (S : Sim M s) {p : Addr} {o : HO} (n : s.H p = none) : ¬ live { s with H := upd s.H p o } p := fun ⟨r, ob, h1, _, _⟩ => S.al p (List.mem_of_getElem? h1) n

/-- a new object that the store takes up -/
theorem own_step {M : Mc} {s : Sx} (S : Sim M s) {p : Addr} {o : HO} {ob : MG.O} (n : s.H p = none) : Step s ⟨s.m ++ [p], s.st ++ [ob], upd s.H p o⟩ := by
  refine Step.mk' ⟨[p], rfl⟩ (fun a u h _ => ?_) (fun a h nl q => ?_) fun a h => ?_
  · show upd s.H p o a = some u
    rw [upd_ne (ne_of_none h n)]
    exact h
  · obtain ⟨r, o', h1, h2, h3⟩ := q
    have h1 : (s.m ++ [p])[r]? = some a := h1
    have h2 : (s.st ++ [ob])[r]? = some o' := h2
    by_cases hr : r < s.m.length
    · rw [List.getElem?_append_left hr] at h1
      rw [List.getElem?_append_left (by rw [← S.len]; exact hr)] at h2
      exact nl ⟨r, o', h1, h2, h3⟩
    · have : r = s.m.length := by
        have := (List.getElem?_eq_some_iff.mp h1).1
        simp at this
        omega
      subst this
      rw [List.getElem?_concat_length] at h1
      cases h1
      exact h n
  · show upd s.H p o a ≠ none
    by_cases e : a = p
    · rw [e, upd_same]; simp
    · rw [upd_ne e]; exact h
theorem own_sim {M : Mc} {s : Sx} (S : Sim M s) {p : Addr} {o : HO} {ob : MG.O} (n : s.H p = none) (h : RO M ⟨s.m ++ [p], s.st ++ [ob], upd s.H p o⟩ p ob) : Sim M ⟨s.m ++ [p], s.st ++ [ob], upd s.H p o⟩ := by
  have T := own_step (o := o) (ob := ob) S n
  have np : p ∉ s.m := fun q => S.al p q n
  refine ⟨by simp [S.len], ?_, fun a ha => ?_, fun r a o' h1 h2 => ?_⟩
  · show (s.m ++ [p]).Nodup
    rw [List.nodup_append]
    exact ⟨S.nd, by simp, fun a ha b hb e => by simp at hb; subst hb; subst e; exact np ha⟩
  · have ha : a ∈ s.m ++ [p] := ha
    rcases List.mem_append.mp ha with q | q
    · exact T.more a (S.al a q)
    · have : a = p := by simpa using q
      subst this
      show upd s.H a o a ≠ none
      rw [upd_same]; simp
  · have h1 : (s.m ++ [p])[r]? = some a := h1
    have h2 : (s.st ++ [ob])[r]? = some o' := h2
    by_cases hr : r < s.m.length
    · rw [List.getElem?_append_left hr] at h1
      rw [List.getElem?_append_left (by rw [← S.len]; exact hr)] at h2
      have ne : a ≠ p := fun e => np (e ▸ List.mem_of_getElem? h1)
      exact (S.ob r a o' h1 h2).step T (upd_ne ne)
    · have : r = s.m.length := by
        have := (List.getElem?_eq_some_iff.mp h1).1
        simp at this
        omega
      subst this
      rw [List.getElem?_concat_length] at h1
      cases h1
      rw [S.len, List.getElem?_concat_length] at h2
      cases h2
      exact h
/-- an object of the store is changed -/
theorem set_step {M : Mc} {s : Sx} (S : Sim M s) {r : Nat} {a : Addr} {o o' : MG.O} {u : HO} (h1 : s.m[r]? = some a) (h2 : s.st[r]? = some o) (h3 : o ≠ .dead) : Step s ⟨s.m, s.st.set r o', upd s.H a u⟩ := by
  have la : live s a := ⟨r, o, h1, h2, h3⟩
  refine Step.mk' ⟨[], by simp⟩ (fun b w h n => ?_) (fun b h n q => ?_) fun b h => ?_
  · show upd s.H a u b = some w
    rw [upd_ne (fun (e : b = a) => n (by rw [e]; exact la))]
    exact h
  · obtain ⟨r', ob, q1, q2, q3⟩ := q
    have q1 : s.m[r']? = some b := q1
    have q2 : (s.st.set r o')[r']? = some ob := q2
    by_cases e : r = r'
    · subst e
      rw [h1] at q1
      cases q1
      exact n la
    · rw [List.getElem?_set_ne e] at q2
      exact n ⟨r', ob, q1, q2, q3⟩
  · show upd s.H a u b ≠ none
    by_cases e : b = a
    · rw [e, upd_same]; simp
    · rw [upd_ne e]; exact h
theorem set_sim {M : Mc} {s : Sx} (S : Sim M s) {r : Nat} {a : Addr} {o o' : MG.O} {u : HO} (h1 : s.m[r]? = some a) (h2 : s.st[r]? = some o) (h3 : o ≠ .dead) (h : RO M ⟨s.m, s.st.set r o', upd s.H a u⟩ a o') :
    Sim M ⟨s.m, s.st.set r o', upd s.H a u⟩ := by
  have T := set_step (o' := o') (u := u) S h1 h2 h3
  refine ⟨by simp [S.len], S.nd, fun b hb => T.more b (S.al b hb), fun r' b ob q1 q2 => ?_⟩
  have q1 : s.m[r']? = some b := q1
  have q2 : (s.st.set r o')[r']? = some ob := q2
  by_cases e : r = r'
  · subst e
    rw [h1] at q1
    cases q1
    rw [List.getElem?_set_self (List.getElem?_eq_some_iff.mp h2).1] at q2
    cases q2
    exact h
  · rw [List.getElem?_set_ne e] at q2
    have ne : b ≠ a := fun z => by
      subst z
      exact e (nodup_ix' S.nd h1 q1)
    exact (S.ob r' b ob q1 q2).step T (upd_ne ne)
where
  nodup_ix' {N : List Addr} (hN : N.Nodup) {i j : Nat} {x : Addr} (a : N[i]? = some x) (b : N[j]? = some x) : i = j := by
    obtain ⟨h1, e1⟩ := List.getElem?_eq_some_iff.mp a
    obtain ⟨h2, e2⟩ := List.getElem?_eq_some_iff.mp b
    exact (List.getElem_inj hN).mp (e1.trans e2.symm)
/-- an object of the store is let go -/
theorem free_step {M : Mc} {s : Sx} (S : Sim M s) {r : Nat} : Step s ⟨s.m, s.st.set r .dead, s.H⟩ := by
  refine Step.mk' ⟨[], by simp⟩ (fun b w h n => h) (fun b h n q => ?_) fun b h => h
  obtain ⟨r', ob, q1, q2, q3⟩ := q
  have q1 : s.m[r']? = some b := q1
  have q2 : (s.st.set r .dead)[r']? = some ob := q2
  by_cases e : r = r'
  · subst e
    by_cases hr : r < s.st.length
    · rw [List.getElem?_set_self hr] at q2
      cases q2
      exact q3 rfl
    · rw [List.getElem?_eq_none (by simpa using hr)] at q2
      cases q2
  · rw [List.getElem?_set_ne e] at q2
    exact n ⟨r', ob, q1, q2, q3⟩
theorem free_sim {M : Mc} {s : Sx} (S : Sim M s) {r : Nat} : Sim M ⟨s.m, s.st.set r .dead, s.H⟩ := by
  have T := free_step (r := r) S
  refine ⟨by simp [S.len], S.nd, S.al, fun r' b ob q1 q2 => ?_⟩
  have q1 : s.m[r']? = some b := q1
  have q2 : (s.st.set r .dead)[r']? = some ob := q2
  by_cases e : r = r'
  · subst e
    by_cases hr : r < s.st.length
    · rw [List.getElem?_set_self hr] at q2
      cases q2
      trivial
    · rw [List.getElem?_eq_none (by simpa using hr)] at q2
      cases q2
  · rw [List.getElem?_set_ne e] at q2
    exact (S.ob r' b ob q1 q2).step T rfl
theorem free_not {M : Mc} {s : Sx} (S : Sim M s) {r : Nat} {a : Addr} (h1 : s.m[r]? = some a) : ¬ live ⟨s.m, s.st.set r .dead, s.H⟩ a := fun ⟨r', ob, q1, q2, q3⟩ => by
  have q1 : s.m[r']? = some a := q1
  have q2 : (s.st.set r .dead)[r']? = some ob := q2
  have e : r = r' := set_sim.nodup_ix' S.nd h1 q1
  subst e
  by_cases hr : r < s.st.length
  · rw [List.getElem?_set_self hr] at q2
    cases q2
    exact q3 rfl
  · rw [List.getElem?_eq_none (by simpa using hr)] at q2
    cases q2

/-! ### the slots -/
def RE (M : Mc) (s : Sx) (ρ : MG.Env) (σ : L2.St) : Prop := ρ.length = σ.length ∧ ∀ (i : Nat) (d : MG.D), ρ[i]? = some (some d) → ∃ v, σ[i]? = some (some v) ∧ RD M s d v
theorem RE.step {M : Mc} {s t : Sx} (a : Step s t) {ρ : MG.Env} {σ : L2.St} (h : RE M s ρ σ) : RE M t ρ σ := ⟨h.1, fun i d e => let ⟨v, h1, h2⟩ := h.2 i d e; ⟨v, h1, h2.step a⟩⟩
theorem RE.set {M : Mc} {s : Sx} {ρ : MG.Env} {σ : L2.St} {d : MG.D} {v : V} (h : RE M s ρ σ) (q : RD M s d v) (i : Nat) : RE M s (ρ.set i (some d)) (σ.set i (some v)) := by
  refine ⟨by simp [h.1], fun j e he => ?_⟩
  by_cases hj : i = j
  · subst hj
    by_cases hi : i < ρ.length
    · rw [List.getElem?_set_self hi] at he
      cases he
      exact ⟨v, List.getElem?_set_self (by rw [← h.1]; exact hi), q⟩
    · rw [List.getElem?_eq_none (by simpa using hi)] at he
      cases he
  · rw [List.getElem?_set_ne hj] at he
    obtain ⟨u, h1, h2⟩ := h.2 j e he
    exact ⟨u, by rw [List.getElem?_set_ne hj]; exact h1, h2⟩
theorem RE.wipe {M : Mc} {s : Sx} {ρ : MG.Env} {σ : L2.St} (h : RE M s ρ σ) : ∀ vs : List Nat, RE M s (MG.wipe ρ vs) (L2.wipe σ vs)
  | [] => h
  | v :: vs => by
    have ih := RE.wipe h vs
    show RE M s ((MG.wipe ρ vs).set v none) ((L2.wipe σ vs).set v none)
    refine ⟨by simp [ih.1], fun j e he => ?_⟩
    by_cases hj : v = j
    · subst hj
      by_cases hi : v < (MG.wipe ρ vs).length
      · rw [List.getElem?_set_self hi] at he
        cases he
      · rw [List.getElem?_eq_none (by simpa using hi)] at he
        cases he
    · rw [List.getElem?_set_ne hj] at he
      obtain ⟨u, h1, h2⟩ := ih.2 j e he
      exact ⟨u, by rw [List.getElem?_set_ne hj]; exact h1, h2⟩

/-! ### what is wanted behind a piece of code -/
/-- an exception as the layer tells it -/
def XR (M : Mc) (s : Sx) (x : MG.Exc) (cv : Value) (d : Option Addr) : Prop :=
  ∃ C, M.xcls x.cls = some C ∧ cv = .ref C ∧ ((x.fs = [] ∧ d = none) ∨ ∃ da gs, d = some da ∧ s.H da = some (.xd gs) ∧ ¬ live s da ∧ RF M s x.fs gs)
def Post (M : Mc) (W : WX) (s : Sx) (σ : L2.St) (r : MG.Res MG.D) (Q : VK) : Prop :=
  match r with
  | .ok d st' => ∀ (m' : List Addr) (H' : Hp) (v : V), Sim M ⟨m', st', H'⟩ → Step s ⟨m', st', H'⟩ → RD M ⟨m', st', H'⟩ d v → Q v H'
  | .err x st' => M.exc = true ∧ ∀ (m' : List Addr) (H' : Hp) (cv : Value) (d : Option Addr), Sim M ⟨m', st', H'⟩ → Step s ⟨m', st', H'⟩ → XR M ⟨m', st', H'⟩ x cv d → W cv d σ H'
  | .bad => False
theorem Post.shift {M : Mc} {W : WX} {s t : Sx} {σ : L2.St} {r : MG.Res MG.D} {Q : VK} (h : Post M W s σ r Q) (a : Step s t) : Post M W t σ r Q := by
  cases r with
  | ok d st' => exact fun m' H' v h1 h2 h3 => h m' H' v h1 (a.trans h2) h3
  | err x st' => exact ⟨h.1, fun m' H' cv d h1 h2 h3 => h.2 m' H' cv d h1 (a.trans h2) h3⟩
  | bad => exact h
/-- one piece behind another -/
theorem Post.bind {M : Mc} {W : WX} {s : Sx} {σ : L2.St} {r : MG.Res MG.D} {f : MG.D → MG.Store → MG.Res MG.D} {Q : VK} (h : Post M W s σ (r.bind f) Q) :
    Post M W s σ r fun v H1 => ∃ m1 st1 d, Sim M ⟨m1, st1, H1⟩ ∧ Step s ⟨m1, st1, H1⟩ ∧ RD M ⟨m1, st1, H1⟩ d v ∧ r = .ok d st1 ∧ Post M W ⟨m1, st1, H1⟩ σ (f d st1) Q := by
  cases r with
  | ok d st' => exact fun m' H' v h1 h2 h3 => ⟨m', st', d, h1, h2, h3, rfl, Post.shift h h2⟩
  | err x st' => exact h
  | bad => exact h
end MGS

set_option Elab.async false
set_option linter.all false
set_option maxRecDepth 100000
set_option maxHeartbeats 4000000
/-! Operations by values. -/
namespace MGS
open PySem PySem.Spec PyProof.Rows L2

/-! ### texts -/
theorem sOf_cps (x : String) : (sOf x).cps.toList = x.toList.map Char.toNat := by
  show (Str.ofString x).cps.toList = _
  rw [Str.ofString_eq_toList]
theorem sOf_length (x : String) : (sOf x).length = x.length := by
  show (sOf x).cps.size = _
  rw [← Array.length_toList, sOf_cps, List.length_map, String.length_toList]
theorem toNat_inj {a b : Char} (h : a.toNat = b.toNat) : a = b := Char.ext (UInt32.toNat_inj.mp h)
theorem map_toNat_inj : ∀ {a b : List Char}, a.map Char.toNat = b.map Char.toNat → a = b
  | [], [], _ => rfl
  | [], _ :: _, h => by simp at h
  | _ :: _, [], h => by simp at h
  | x :: xs, y :: ys, h => by
    simp only [List.map_cons, List.cons.injEq] at h
    rw [toNat_inj h.1, map_toNat_inj h.2]
theorem sOf_inj {x y : String} (h : sOf x = sOf y) : x = y := by
  have e : (sOf x).cps.toList = (sOf y).cps.toList := by rw [h]
  rw [sOf_cps, sOf_cps] at e
  exact String.toList_inj.mp (map_toNat_inj e)
theorem sOf_beq (x y : String) : (sOf x == sOf y) = (x == y) := by
  by_cases e : x = y
  · subst e; simp
  · have : ¬ sOf x = sOf y := fun q => e (sOf_inj q)
    rw [beq_eq_false_iff_ne.mpr this, beq_eq_false_iff_ne.mpr e]
theorem sOf_append (x y : String) : sOf (x ++ y) = sOf x ++ sOf y := by
  show sOf (x ++ y) = Str.append (sOf x) (sOf y)
  unfold Str.append
  have h : (sOf (x ++ y)).cps.toList = ((sOf x).cps ++ (sOf y).cps).toList := by
    rw [Array.toList_append, sOf_cps, sOf_cps, sOf_cps, String.toList_append, List.map_append]
  have h2 : (sOf (x ++ y)).cps = (sOf x).cps ++ (sOf y).cps := Array.toList_inj.mp h
  calc sOf (x ++ y) = ⟨(sOf (x ++ y)).cps⟩ := rfl
    _ = _ := by rw [h2]
theorem sOf_ok (x : String) : PyData.strOk (sOf x) = true := by
  unfold PyData.strOk
  rw [← Array.all_toList, sOf_cps]
  simp only [List.all_map, List.all_eq_true]
  intro c _
  have h := c.valid
  simp only [UInt32.isValidChar, Nat.isValidChar] at h
  have e : c.toNat = c.val.toNat := rfl
  simp only [Function.comp, e]
  exact decide_eq_true (by omega)

/-! ### data to be compared -/
mutual
def pyOf : MG.D → PyData
  | .non => .none
  | .bl b => .bool b
  | .int i => .int i
  | .str x => .str (sOf x)
  | .tup ds => .tuple (pyAll ds)
  | .lst ds => .list (pyAll ds)
  | .scr _ => .none
  | .ref _ => .none
  | .gd _ => .none
def pyAll : List MG.D → List PyData
  | [] => []
  | d :: ds => pyOf d :: pyAll ds
end
mutual
theorem eqv_py : ∀ (n k : Nat) (d e : MG.D), MG.pur n d = true → MG.pur k e = true → PyData.eqv (pyOf d) (pyOf e) = MG.eqv d e
  | n, k, .non, e, h, q => by cases e <;> cases k <;> simp_all [pyOf, PyData.eqv, MG.eqv, MG.pur]
  | n, k, .bl b, e, h, q => by cases e <;> cases k <;> simp_all [pyOf, PyData.eqv, MG.eqv, MG.pur]
  | n, k, .int i, e, h, q => by cases e <;> cases k <;> simp_all [pyOf, PyData.eqv, MG.eqv, MG.pur]
  | n, k, .str x, e, h, q => by cases e <;> cases k <;> simp_all [pyOf, PyData.eqv, MG.eqv, MG.pur, sOf_beq]
  | n + 1, k, .tup ds, e, h, q => by
    cases e with
    | tup es =>
      cases k with
      | zero => simp [MG.pur] at q
      | succ k =>
        simp only [MG.pur] at h q
        simp only [pyOf, PyData.eqv, MG.eqv]
        exact eqv_pyAll n k ds es h q
    | _ => cases k <;> simp_all [pyOf, PyData.eqv, MG.eqv, MG.pur]
  | n + 1, k, .lst ds, e, h, q => by
    cases e with
    | lst es =>
      cases k with
      | zero => simp [MG.pur] at q
      | succ k =>
        simp only [MG.pur] at h q
        simp only [pyOf, PyData.eqv, MG.eqv]
        exact eqv_pyAll n k ds es h q
    | _ => cases k <;> simp_all [pyOf, PyData.eqv, MG.eqv, MG.pur]
  | 0, _, .tup _, _, h, _ => by simp [MG.pur] at h
  | 0, _, .lst _, _, h, _ => by simp [MG.pur] at h
  | n, _, .scr _, _, h, _ => by cases n <;> simp [MG.pur] at h
  | n, _, .ref _, _, h, _ => by cases n <;> simp [MG.pur] at h
  | n, _, .gd _, _, h, _ => by cases n <;> simp [MG.pur] at h
theorem eqv_pyAll : ∀ (n k : Nat) (ds es : List MG.D), MG.purAll n ds = true → MG.purAll k es = true → PyData.eqvAll (pyAll ds) (pyAll es) = MG.eqvAll ds es
  | n, k, [], [], _, _ => by simp [pyAll, PyData.eqvAll, MG.eqvAll]
  | n, k, [], e :: es, _, _ => by simp [pyAll, PyData.eqvAll, MG.eqvAll]
  | n, k, d :: ds, [], _, _ => by simp [pyAll, PyData.eqvAll, MG.eqvAll]
  | n, k, d :: ds, e :: es, h, q => by
    simp only [MG.purAll, Bool.and_eq_true] at h q
    simp only [pyAll, PyData.eqvAll, MG.eqvAll]
    rw [eqv_py n k d e h.1 q.1, eqv_pyAll n k ds es h.2 q.2]
end
mutual
theorem py_lay : ∀ (n : Nat) (d : MG.D), MG.pur n d = true → (pyOf d).canLay0 = true ∧ (pyOf d).depth ≤ n
  | n, .non, h => by simp [pyOf, PyData.canLay0, PyData.depth]
  | n, .bl b, h => by simp [pyOf, PyData.canLay0, PyData.depth]
  | n, .int i, h => by simp [pyOf, PyData.canLay0, PyData.depth]
  | n, .str x, h => by simp [pyOf, PyData.canLay0, PyData.depth, sOf_ok]
  | n + 1, .tup ds, h => by
    simp only [MG.pur] at h
    obtain ⟨h1, h2⟩ := py_layAll n ds h
    simp only [pyOf, PyData.canLay0, PyData.depth]
    exact ⟨h1, by omega⟩
  | n + 1, .lst ds, h => by
    simp only [MG.pur] at h
    obtain ⟨h1, h2⟩ := py_layAll n ds h
    simp only [pyOf, PyData.canLay0, PyData.depth]
    exact ⟨h1, by omega⟩
  | 0, .tup _, h => by simp [MG.pur] at h
  | 0, .lst _, h => by simp [MG.pur] at h
  | n, .scr _, h => by cases n <;> simp [MG.pur] at h
  | n, .ref _, h => by cases n <;> simp [MG.pur] at h
  | n, .gd _, h => by cases n <;> simp [MG.pur] at h
theorem py_layAll : ∀ (n : Nat) (ds : List MG.D), MG.purAll n ds = true → PyData.canLayAll0 (pyAll ds) = true ∧ PyData.depthAll (pyAll ds) ≤ n
  | n, [], _ => by simp [pyAll, PyData.canLayAll0, PyData.depthAll]
  | n, d :: ds, h => by
    simp only [MG.purAll, Bool.and_eq_true] at h
    obtain ⟨h1, h2⟩ := py_lay n d h.1
    obtain ⟨h3, h4⟩ := py_layAll n ds h.2
    simp only [pyAll, PyData.canLayAll0, PyData.depthAll, h1, h3]
    exact ⟨rfl, by omega⟩
end
theorem py_shaped {n : Nat} {d : MG.D} (hn : n ≤ 64) (h : MG.pur n d = true) : SeqAt.shaped (pyOf d) = true := by
  obtain ⟨h1, h2⟩ := py_lay n d h
  unfold SeqAt.shaped
  rw [h1, decide_eq_true (by omega)]
  rfl
mutual
theorem dp_of {M : Mc} {s : Sx} : ∀ (n : Nat) {d : MG.D} {v : V}, MG.pur n d = true → RD M s d v → Dp M.K s.H v (pyOf d)
  | n, .non, _, _, h => by cases h; exact .non
  | n, .bl b, _, _, h => by cases h; exact .bl b
  | n, .int i, _, _, h => by cases h; exact .int i
  | n, .str x, _, _, h => by cases h; exact .str _
  | n + 1, .tup ds, _, p, h => by
    simp only [MG.pur] at p
    cases h with
    | tup h1 h2 h3 => exact .tup (.inl (.inl h1)) (dp_all n p h3)
    | tupK h1 h2 h3 => exact .tup (h1 _) (dp_all n p h3)
  | n + 1, .lst ds, _, p, h => by
    simp only [MG.pur] at p
    cases h with
    | lst h1 h2 h3 => exact .lst (.inl (.inl h1)) (dp_all n p h3)
  | 0, .tup _, _, p, _ => by simp [MG.pur] at p
  | 0, .lst _, _, p, _ => by simp [MG.pur] at p
  | n, .scr _, _, p, _ => by cases n <;> simp [MG.pur] at p
  | n, .ref _, _, p, _ => by cases n <;> simp [MG.pur] at p
  | n, .gd _, _, p, _ => by cases n <;> simp [MG.pur] at p
theorem dp_all {M : Mc} {s : Sx} : ∀ (n : Nat) {ds : List MG.D} {vs : List V}, MG.purAll n ds = true → RDs M s ds vs → DpAll M.K s.H vs (pyAll ds)
  | n, [], _, _, h => by cases h; exact .nil
  | n, d :: ds, _, p, h => by
    simp only [MG.purAll, Bool.and_eq_true] at p
    cases h with
    | cons h1 h2 => exact .cons (dp_of n p.1 h1) (dp_all n p.2 h2)
end
/-- a value to be compared: a list of the store by its items -/
theorem dp_shallow {M : Mc} {s : Sx} (S : Sim M s) {n : Nat} {d : MG.D} {v : V} (p : MG.pur n (MG.shallow s.st d) = true) (h : RD M s d v) : Dp M.K s.H v (pyOf (MG.shallow s.st d)) := by
  cases d with
  | ref r =>
    simp only [MG.shallow] at p ⊢
    cases h with
    | @ref a _ h1 =>
      cases e : s.st[r]? with
      | none => rw [e] at p; cases n <;> simp [MG.pur] at p
      | some o =>
        rw [e] at p
        cases o with
        | lst ds =>
          obtain ⟨vs, q1, q2⟩ := S.ob r a _ h1 e
          simp only at p ⊢
          cases n with
          | zero => simp [MG.pur] at p
          | succ n =>
            simp only [MG.pur] at p
            exact .lst (.inl (.inl q1)) (dp_all n p q2)
        | _ => cases n <;> simp [MG.pur] at p
  | _ => exact dp_of n p h

mutual
theorem dsame_refl : ∀ d : MG.D, MG.same d d = true
  | .non => rfl
  | .bl b => by simp [MG.same]
  | .int i => by simp [MG.same]
  | .str x => by simp [MG.same]
  | .tup ds => by simp only [MG.same]; exact dsameAll_refl ds
  | .lst ds => by simp only [MG.same]; exact dsameAll_refl ds
  | .scr ns => by simp [MG.same]
  | .ref r => by simp [MG.same]
  | .gd n => by simp [MG.same]
theorem dsameAll_refl : ∀ ds : List MG.D, MG.sameAll ds ds = true
  | [] => rfl
  | d :: ds => by simp only [MG.sameAll]; rw [dsame_refl d, dsameAll_refl ds]; rfl
end
/-! ### results by values -/
def PV (M : Mc) (s : Sx) (r : MG.Res MG.D) (Q : VK) : Prop := Post M (fun _ _ _ _ => False) s [] r Q
theorem PV.val {M : Mc} {s : Sx} {d : MG.D} {v : V} {Q : VK} (h : PV M s (.ok d s.st) Q) (S : Sim M s) (q : RD M s d v) : Q v s.H := h s.m s.H v S (Step.refl s) q
theorem PV.okB {M : Mc} {s : Sx} {α : Type} {f : α → MG.D} {o : Option α} {Q : VK} (h : PV M s (MG.okB s.st f o) Q) : ∃ a, o = some a ∧ PV M s (.ok (f a) s.st) Q := by
  cases o with
  | none => exact h.elim
  | some a => exact ⟨a, rfl, h⟩
/-- a new tuple -/
theorem PV.tup {M : Mc} {s : Sx} {ds : List MG.D} {vs : List V} {Q : VK} {p : Addr} (h : PV M s (.ok (.tup ds) s.st) Q) (S : Sim M s) (r : RDs M s ds vs) (n : s.H p = none) : Q (.ref p) (upd s.H p (.tup vs)) :=
  h s.m _ _ (lay_sim S n) (lay_step S n) (.tup upd_same (lay_live S n) (r.step (lay_step S n)))
/-- a new list -/
theorem PV.give {M : Mc} {s : Sx} {own : Bool} {ds : List MG.D} {vs : List V} {Q : VK} {p : Addr} (h : PV M s (MG.give own ds s.st) Q) (S : Sim M s) (r : RDs M s ds vs) (n : s.H p = none) : Q (.ref p) (upd s.H p (.lst vs)) := by
  cases own with
  | false => exact h s.m _ _ (lay_sim S n) (lay_step S n) (.lst upd_same (lay_live S n) (r.step (lay_step S n)))
  | true =>
    have T : Step s ⟨s.m ++ [p], s.st ++ [.lst ds], upd s.H p (.lst vs)⟩ := own_step S n
    refine h (s.m ++ [p]) _ _ (own_sim S n ⟨vs, upd_same, r.step T⟩) T (.ref ?_)
    show (s.m ++ [p])[s.st.length]? = some p
    rw [← S.len, List.getElem?_concat_length]

theorem rd_lst {M : Mc} {s : Sx} (S : Sim M s) {d : MG.D} {ds : List MG.D} {v : V} (h : RD M s d v) (e : MG.lstOf s.st d = some ds) : ∃ a vs, v = .ref a ∧ s.H a = some (.lst vs) ∧ RDs M s ds vs := by
  cases d with
  | lst es =>
    cases e
    cases h with
    | lst h1 h2 h3 => exact ⟨_, _, rfl, h1, h3⟩
  | ref r =>
    cases h with
    | @ref a _ h1 =>
      simp only [MG.lstOf] at e
      cases q : s.st[r]? with
      | none => rw [q] at e; cases e
      | some o =>
        rw [q] at e
        cases o with
        | lst es =>
          cases e
          obtain ⟨vs, q1, q2⟩ := S.ob r a _ h1 q
          exact ⟨a, vs, rfl, q1, q2⟩
        | _ => cases e
  | _ => simp [MG.lstOf] at e
theorem rd_tup {M : Mc} {s : Sx} {ds : List MG.D} {v : V} (h : RD M s (.tup ds) v) : ∃ a vs, v = .ref a ∧ SqT M.K s.H a vs ∧ RDs M s ds vs := by
  cases h with
  | tup h1 h2 h3 => exact ⟨_, _, rfl, .inl (.inl h1), h3⟩
  | tupK h1 h2 h3 => exact ⟨_, _, rfl, h1 _, h3⟩

/-! ### () * n -/
theorem tuple_mul0 (l : Addr) (n : Nat) (dd : Option Addr) (sl : Array (Option Value)) (x : Int) (u : Tok) (c0 : (decide (x < -(2 ^ 63)) || decide (x ≥ 2 ^ 63)) = false) :
    Meets (Builtin.«tuple.__mul__» ⟨[.ref l, .int x u], []⟩) (fun _ R s => s.heap.get? l = some { cls := .type "tuple", dict := dd, data := .seq #[] n, slots := sl } ∧ R (.ok (.ret (Value.ref l))) s) :=
  .of_wp fun prog w A R s h => by
    obtain ⟨hp, g, d, tk, os⟩ := s
    obtain ⟨hl, h⟩ := h
    have f1 := AutoSeq1.idx_int
    wp_walk using wpAny_loadPart' hl
    repeat (first
      | (refine wpAny_ite_false (decide_eq_false (by rw [c0]; exact Bool.false_ne_true)) ?_; wp_walk using wpAny_loadPart' hl))
    exact ⟨_, rfl, h⟩
theorem op_repT0 {X : Cx} : OpR X (binaryOp .Mult) (fun x y H Q => ∃ (l : Addr) (k : Int), x = .ref l ∧ y = .int k ∧ SqT X.K H l [] ∧ 0 ≤ k ∧ k ≤ 1000 ∧ Q (.ref l) H) := by
  intro pins s σ H x y v u Q I rx ry h
  obtain ⟨l, k, rfl, rfl, hT, h1, h2, q⟩ := h
  cases rx
  obtain ⟨t, rfl⟩ := ry
  obtain ⟨its, r, ⟨⟨cls, dd, data, sl⟩, ho, hc, n, hd⟩, hs⟩ := I.tuple hT
  simp only at hc hd
  subst hc hd
  cases r
  have c0 : (decide (k < -(2 ^ 63)) || decide (k ≥ 2 ^ 63)) = false := by
    rw [decide_eq_false (by omega), decide_eq_false (by omega)] <;> rfl
  refine wpAny_binaryOp_repeat_ref (T := "tuple") (U := "int") (by decide) ⟨_, ho, rfl⟩ (fun s' => typeIs_int s' k t) noFill_tuple_mul F.fills_int_mul F.slot_int_rmul repeat_tuple F.slot_int_index.lookup
    (call_meets F.slot_int_rmul (typeIs_int s k t) F.entry_int_rmul (F.args_int_rmul_2 _ _) (int_rmul_tuple k t l #[] n dd sl)
      ⟨ho, rfl, ⟨_, ho, rfl⟩, call_meets F.slot_tuple_mul ⟨_, ho, rfl⟩ F.entry_tuple_mul (F.args_tuple_mul_2 _ _) (tuple_mul0 l n dd sl k t c0) ⟨ho, ?_⟩⟩)
  exact ⟨.ref l, H, I, rfl, q⟩

/-- two values, by the core machine -/
def rV (M : Mc) (f : MG.D → MG.D → MG.Store → MG.Res MG.D) : R2 := fun x y H Q => ∃ m st d e, Sim M ⟨m, st, H⟩ ∧ RD M ⟨m, st, H⟩ d x ∧ RD M ⟨m, st, H⟩ e y ∧ PV M ⟨m, st, H⟩ (f d e st) Q
def rV1 (M : Mc) (f : MG.D → MG.Store → MG.Res MG.D) : V → Hp → VK → Prop := fun x H Q => ∃ m st d, Sim M ⟨m, st, H⟩ ∧ RD M ⟨m, st, H⟩ d x ∧ PV M ⟨m, st, H⟩ (f d st) Q
section
variable {X : Cx} {M : Mc} (hK : M.K = X.K)
include hK
theorem ov_add {own : Bool} : OpR X (binaryOp .Add) (rV M fun d e st => MG.addV own st d e) := by
  intro pins s σ H x y v u Q I rx ry h
  obtain ⟨m, st, d, e, S, hd, he, q⟩ := h
  have lists : ∀ {a b : List MG.D}, MG.lstOf st d = some a → MG.lstOf st e = some b → a.length + b.length ≤ MG.LIM → PV M ⟨m, st, H⟩ (MG.give own (a ++ b) st) Q → wpAny (model X.prog X.w) X.A (binaryOp .Add v u) (EP X pins σ Q) X.xe s := by
    intro a b ea eb hl q
    obtain ⟨p, vs, rfl, h1, r1⟩ := rd_lst S hd ea
    obtain ⟨p', us, rfl, h2, r2⟩ := rd_lst S he eb
    refine op_cat pins s σ H _ _ v u Q I rx ry ⟨p, p', vs, us, rfl, rfl, h1, h2, ?_, fun z hz => q.give S (r1.append r2) hz⟩
    rw [← r1.length, ← r2.length]
    exact hl
  have lists' : (match MG.lstOf st d, MG.lstOf st e with
      | some a, some b => if a.length + b.length ≤ MG.LIM then MG.give own (a ++ b) st else .bad
      | _, _ => .bad) = MG.addV own st d e → wpAny (model X.prog X.w) X.A (binaryOp .Add v u) (EP X pins σ Q) X.xe s := by
    intro z
    replace q : PV M ⟨m, st, H⟩ (MG.addV own st d e) Q := q
    rw [← z] at q
    cases ea : MG.lstOf st d with
    | none => rw [ea] at q; exact q.elim
    | some a =>
      cases eb : MG.lstOf st e with
      | none => rw [ea, eb] at q; exact q.elim
      | some b =>
        rw [ea, eb] at q
        by_cases hl : a.length + b.length ≤ MG.LIM
        · simp only [if_pos hl] at q
          exact lists ea eb hl q
        · simp only [if_neg hl] at q
          exact q.elim
  cases d with
  | int i =>
    cases e with
    | int j =>
      cases hd; cases he
      exact op_add pins s σ H _ _ v u Q I rx ry ⟨i, j, rfl, rfl, q.val S (.int _)⟩
    | _ => exact lists' rfl
  | str a =>
    cases e with
    | str b =>
      cases hd; cases he
      have q : PV M ⟨m, st, H⟩ (if a.length + b.length ≤ MG.LIM then .ok (.str (a ++ b)) st else .bad) Q := q
      by_cases hl : a.length + b.length ≤ MG.LIM
      · rw [if_pos hl] at q
        refine op_add_str pins s σ H _ _ v u Q I rx ry ⟨_, _, rfl, rfl, ?_, ?_⟩
        · rw [sOf_length, sOf_length]; exact hl
        · rw [← sOf_append]; exact q.val S (.str _)
      · rw [if_neg hl] at q
        exact q.elim
    | _ => exact lists' rfl
  | tup a =>
    cases e with
    | tup b =>
      obtain ⟨p, vs, rfl, h1, r1⟩ := rd_tup hd
      obtain ⟨p', us, rfl, h2, r2⟩ := rd_tup he
      have q : PV M ⟨m, st, H⟩ (if a.length + b.length ≤ MG.LIM then .ok (.tup (a ++ b)) st else .bad) Q := q
      by_cases hl : a.length + b.length ≤ MG.LIM
      · rw [if_pos hl] at q
        rw [hK] at h1 h2
        refine op_catA pins s σ H _ _ v u Q I rx ry ⟨p, p', vs, us, rfl, rfl, h1, h2, ?_, fun z => ?_, fun z1 z => ?_, fun _ _ z hz => q.tup S (r1.append r2) hz⟩
        · rw [← r1.length, ← r2.length]; exact hl
        · subst z
          cases r1
          exact q.val S he
        · subst z
          cases r2
          rw [List.append_nil] at q
          exact q.val S hd
      · rw [if_neg hl] at q
        exact q.elim
    | _ => exact lists' rfl
  | _ => cases e <;> exact lists' rfl

theorem ov_mul {own : Bool} : OpR X (binaryOp .Mult) (rV M fun d e st => MG.mulV own st d e) := by
  intro pins s σ H x y v u Q I rx ry h
  obtain ⟨m, st, d, e, S, hd, he, q⟩ := h
  have lists : ∀ {j : Int}, e = .int j → (match MG.lstOf st d with
      | some a => if -9223372036854775808 ≤ j ∧ j < 9223372036854775808 ∧ a.length * j.toNat ≤ MG.LIM then MG.give own (List.replicate j.toNat a).flatten st else .bad
      | none => .bad) = MG.mulV own st d e → PV M ⟨m, st, H⟩ (MG.mulV own st d e) Q → wpAny (model X.prog X.w) X.A (binaryOp .Mult v u) (EP X pins σ Q) X.xe s := by
    intro j ej z q
    subst ej
    rw [← z] at q
    cases ea : MG.lstOf st d with
    | none => rw [ea] at q; exact q.elim
    | some a =>
      rw [ea] at q
      obtain ⟨p, vs, rfl, h1, r1⟩ := rd_lst S hd ea
      cases he
      by_cases hl : -9223372036854775808 ≤ j ∧ j < 9223372036854775808 ∧ a.length * j.toNat ≤ MG.LIM
      · simp only [if_pos hl] at q
        refine op_rep pins s σ H _ _ v u Q I rx ry ⟨p, j, vs, rfl, rfl, h1, by have := hl.1; omega, by have := hl.2.1; omega, ?_, fun z hz => q.give S (r1.replicate _) hz⟩
        rw [← r1.length]; exact hl.2.2
      · simp only [if_neg hl] at q
        exact q.elim
  cases d with
  | tup a =>
    cases e with
    | int j =>
      cases he
      obtain ⟨p, vs, rfl, h1, r1⟩ := rd_tup hd
      replace q : PV M ⟨m, st, H⟩ (if j = 2 ∧ a.length ≤ 1000 then .ok (.tup (a ++ a)) st else .bad) Q := q
      by_cases hl : j = 2 ∧ a.length ≤ 1000
      · rw [if_pos hl] at q
        obtain ⟨rfl, hz⟩ := hl
        rw [hK] at h1
        cases a with
        | nil =>
          cases r1
          exact op_repT0 pins s σ H _ _ v u Q I rx ry ⟨p, 2, rfl, rfl, h1, by omega, by omega, q.val S hd⟩
        | cons a0 ar =>
          refine op_repT pins s σ H _ _ v u Q I rx ry ⟨p, 2, vs, rfl, rfl, h1, ?_, by omega, by omega, by rw [← r1.length]; exact hz, fun z hz => ?_⟩
          · intro z
            subst z
            cases r1
          · have e2 : (List.replicate (2 : Int).toNat vs).flatten = vs ++ vs := by
              show (List.replicate 2 vs).flatten = _
              simp [List.replicate_succ]
            rw [e2]
            exact q.tup S (r1.append r1) hz
      · rw [if_neg hl] at q
        exact q.elim
    | _ => exact q.elim
  | int i =>
    cases e with
    | int j =>
      cases hd; cases he
      have q : PV M ⟨m, st, H⟩ (if (-18446744073709551616 < i ∧ i < 18446744073709551616) ∨ (-18446744073709551616 < j ∧ j < 18446744073709551616) then .ok (.int (i * j)) st else .bad) Q := q
      by_cases hl : (-18446744073709551616 < i ∧ i < 18446744073709551616) ∨ (-18446744073709551616 < j ∧ j < 18446744073709551616)
      · rw [if_pos hl] at q
        refine op_mul pins s σ H _ _ v u Q I rx ry ⟨i, j, rfl, rfl, ?_, q.val S (.int _)⟩
        unfold CMul
        omega
      · rw [if_neg hl] at q
        exact q.elim
    | _ => exact q.elim
  | _ =>
    cases e with
    | int j => exact lists rfl rfl q
    | _ => exact q.elim
/-- an operation upon two ints -/
theorem ov_int2 {f : Value → Value → Sem Value} {g : Int → Int → MG.D} {c : Int → Int → Bool} {r : R2} (ho : OpR X f r)
    (hr : ∀ (i j : Int) (H : Hp) (Q : VK) (m : List Addr) (st : MG.Store), Sim M ⟨m, st, H⟩ → c i j = true → PV M ⟨m, st, H⟩ (.ok (g i j) st) Q → r (.int i) (.int j) H Q) :
    OpR X f (rV M fun d e st => MG.int2 st d e g c) := by
  intro pins s σ H x y v u Q I rx ry h
  obtain ⟨m, st, d, e, S, hd, he, q⟩ := h
  cases d with
  | int i =>
    cases e with
    | int j =>
      cases hd; cases he
      have q : PV M ⟨m, st, H⟩ (if c i j = true then .ok (g i j) st else .bad) Q := q
      by_cases hl : c i j = true
      · rw [if_pos hl] at q
        exact ho pins s σ H _ _ v u Q I rx ry (hr i j H Q m st S hl q)
      · rw [if_neg hl] at q
        exact q.elim
    | _ => exact q.elim
  | _ => cases e <;> exact q.elim
theorem ov_sub {G : MG.GD} {own : Bool} : OpR X (binaryOp .Sub) (rV M (MG.op2V G own .sub)) := ov_int2 hK op_sub fun i j H Q m st S _ q => ⟨i, j, rfl, rfl, q.val S (.int _)⟩
theorem ov_fdiv {G : MG.GD} {own : Bool} : OpR X (binaryOp .FloorDiv) (rV M (MG.op2V G own .fdiv)) := ov_int2 hK op_fdiv fun i j H Q m st S c q => ⟨i, j, rfl, rfl, (of_decide_eq_true c : 0 < j ∧ j < 1073741824), q.val S (.int _)⟩
theorem ov_md {G : MG.GD} {own : Bool} : OpR X (binaryOp .Mod) (rV M (MG.op2V G own .md)) := ov_int2 hK op_mod fun i j H Q m st S c q => ⟨i, j, rfl, rfl, of_decide_eq_true c, q.val S (.int _)⟩
theorem ov_pow {G : MG.GD} {own : Bool} : OpR X (binaryOp .Pow) (rV M (MG.op2V G own .pow)) := ov_int2 hK op_pow fun i j H Q m st S c q => by
  have c := of_decide_eq_true c
  exact ⟨i, j, rfl, rfl, ⟨c.1, c.2.1, by have := c.2.2; omega⟩, q.val S (.int _)⟩
theorem ov_lt {G : MG.GD} {own : Bool} : OpR X (compareOp .Lt) (rV M (MG.op2V G own .lt)) := ov_int2 hK op_lt fun i j H Q m st S _ q => ⟨i, j, rfl, rfl, q.val S (.bl _)⟩
theorem ov_le {G : MG.GD} {own : Bool} : OpR X (compareOp .LtE) (rV M (MG.op2V G own .le)) := ov_int2 hK op_le fun i j H Q m st S _ q => ⟨i, j, rfl, rfl, q.val S (.bl _)⟩
theorem ov_gt {G : MG.GD} {own : Bool} : OpR X (compareOp .Gt) (rV M (MG.op2V G own .gt)) := ov_int2 hK op_gt fun i j H Q m st S _ q => ⟨i, j, rfl, rfl, q.val S (.bl _)⟩
theorem ov_ge {G : MG.GD} {own : Bool} : OpR X (compareOp .GtE) (rV M (MG.op2V G own .ge)) := ov_int2 hK op_ge fun i j H Q m st S _ q => ⟨i, j, rfl, rfl, q.val S (.bl _)⟩

/-! ### ==, != -/
omit hK in
theorem eqB_of {M : Mc} {s : Sx} (S : Sim M s) {d e : MG.D} {x y : V} {b : Bool} (hd : RD M s d x) (he : RD M s e y) (h : MG.eqB s.st d e = some b) :
    ∃ p q, Dp M.K s.H x p ∧ Dp M.K s.H y q ∧ SeqAt.shaped p = true ∧ SeqAt.shaped q = true ∧ PyData.eqv p q = b := by
  unfold MG.eqB at h
  by_cases c : (MG.pur 60 (MG.shallow s.st d) && MG.pur 60 (MG.shallow s.st e)) = true
  · rw [if_pos c] at h
    rw [Bool.and_eq_true] at c
    refine ⟨_, _, dp_shallow S c.1 hd, dp_shallow S c.2 he, py_shaped (by omega) c.1, py_shaped (by omega) c.2, ?_⟩
    rw [eqv_py 60 60 _ _ c.1 c.2]
    exact Option.some.inj h
  · rw [if_neg c] at h
    cases h
theorem ov_eq {G : MG.GD} {own : Bool} (hu : X.A.units + 64 < cLine) : OpR X (compareOp .Eq) (rV M (MG.op2V G own .eq)) := by
  intro pins s σ H x y v u Q I rx ry h
  obtain ⟨m, st, d, e, S, hd, he, q⟩ := h
  obtain ⟨b, eb, q⟩ := PV.okB (s := ⟨m, st, H⟩) q
  obtain ⟨p, p', h1, h2, h3, h4, h5⟩ := eqB_of S hd he eb
  rw [hK] at h1 h2
  refine op_eqD hu pins s σ H x y v u Q I rx ry ⟨p, p', h1, h2, h3, h4, ?_⟩
  rw [h5]
  exact q.val S (.bl b)
theorem ov_ne {G : MG.GD} {own : Bool} (hu : X.A.units + 64 < cLine) : OpR X (compareOp .NotEq) (rV M (MG.op2V G own .ne)) := by
  intro pins s σ H x y v u Q I rx ry h
  obtain ⟨m, st, d, e, S, hd, he, q⟩ := h
  obtain ⟨b, eb, q⟩ := PV.okB (s := ⟨m, st, H⟩) q
  obtain ⟨p, p', h1, h2, h3, h4, h5⟩ := eqB_of S hd he eb
  rw [hK] at h1 h2
  refine op_neD hu pins s σ H x y v u Q I rx ry ⟨p, p', h1, h2, h3, h4, ?_⟩
  rw [h5]
  exact q.val S (.bl (!b))

/-! ### in, not in -/
omit hK in
theorem flat_rel {M : Mc} {s : Sx} {d : MG.D} {v : V} (h : RD M s d v) (f : MG.flat d = true) : flatV v = true := by
  cases h <;> first | rfl | (simp [MG.flat] at f)
omit hK in
theorem flat_eq {M : Mc} {s : Sx} {d e : MG.D} {v u : V} (h : RD M s d v) (q : RD M s e u) (f : MG.flat d = true) (g : MG.flat e = true) : eqV v u = MG.eqv d e := by
  cases h <;> (first | (simp [MG.flat] at f; done) | (cases q <;> first | (simp [MG.flat] at g; done) | simp [eqV, MG.eqv, sOf_beq]))
omit hK in
theorem flat_all {M : Mc} {s : Sx} : ∀ {ds : List MG.D} {vs : List V}, RDs M s ds vs → ds.all MG.flat = true → vs.all flatV = true
  | _, _, .nil, _ => rfl
  | _, _, .cons h r, f => by
    simp only [List.all_cons, Bool.and_eq_true] at f ⊢
    exact ⟨flat_rel h f.1, flat_all r f.2⟩
omit hK in
theorem flat_any {M : Mc} {s : Sx} {e : MG.D} {u : V} (q : RD M s e u) (g : MG.flat e = true) : ∀ {ds : List MG.D} {vs : List V}, RDs M s ds vs → ds.all MG.flat = true → (vs.any fun y => eqV y u) = ds.any fun y => MG.eqv y e
  | _, _, .nil, _ => rfl
  | _, _, .cons h r, f => by
    simp only [List.all_cons, Bool.and_eq_true] at f
    simp only [List.any_cons]
    rw [flat_eq h q f.1 g, flat_any q g r f.2]
omit hK in
theorem any_py {n k : Nat} {e : MG.D} (g : MG.pur k e = true) : ∀ ds : List MG.D, MG.purAll n ds = true → ((pyAll ds).any fun z => PyData.eqv z (pyOf e)) = ds.any fun y => MG.eqv y e
  | [], _ => rfl
  | d :: ds, h => by
    simp only [MG.purAll, Bool.and_eq_true] at h
    simp only [pyAll, List.any_cons]
    rw [eqv_py n k d e h.1 g, any_py g ds h.2]
omit hK in
theorem one_sign {c : String} (h : c.length = 1) : ∃ z : Char, c.toList = [z] ∧ sOf c = ⟨#[z.toNat]⟩ := by
  rw [← String.length_toList] at h
  obtain ⟨z, e⟩ := List.length_eq_one_iff.mp h
  refine ⟨z, e, ?_⟩
  show Str.ofString c = _
  rw [Str.ofString_eq_toList, e]
  rfl
omit hK in
theorem sign_any {z : Char} : ∀ l : List Char, (l.any fun y => [z] == [y]) = decide (z.toNat ∈ l.map Char.toNat)
  | [] => by simp
  | y :: l => by
    simp only [List.any_cons, List.map_cons, List.mem_cons]
    rw [sign_any l]
    by_cases e : z = y
    · subst e; simp
    · have : ¬ z.toNat = y.toNat := fun q => e (toNat_inj q)
      simp [e, this]
omit hK in
theorem key_eqv {a b : MG.D} {k l : Key} (h : keyOf a = some k) (q : keyOf b = some l) : MG.eqv a b = decide (k = l) := by
  cases a <;> simp only [keyOf, reduceCtorEq] at h <;> cases b <;> simp only [keyOf, reduceCtorEq] at q <;> cases h <;> cases q
  · rw [key_ll]; rfl
  · rw [key_lr]; rfl
  · rw [key_rl]; rfl
  · rw [key_rr]
    show (_ == _) = _
    rw [← sOf_beq]
    exact Bool.beq_eq_decide_eq _ _
omit hK in
theorem keyK_of {d : MG.D} (h : MG.keyK d = true) : ∃ k, keyOf d = some k := by
  cases d <;> first | exact ⟨_, rfl⟩ | (simp [MG.keyK] at h)
omit hK in
theorem keyK_v {M : Mc} {s : Sx} {d : MG.D} {k : Key} {v : V} (h : keyOf d = some k) (q : RD M s d v) : v = kV k := by
  cases d <;> simp only [keyOf, reduceCtorEq] at h <;> cases h <;> cases q <;> rfl
omit hK in
theorem dget_val {M : Mc} {s : Sx} {x : MG.D} {k : Key} (hx : keyOf x = some k) : ∀ {r : List (MG.D × MG.D)} {q : List (Key × V)}, RKV M s r q → match MG.dget r x with
    | none => valV q k = none
    | some d => ∃ v, valV q k = some v ∧ RD M s d v
  | _, _, .nil => rfl
  | _, _, @RKV.cons _ _ kk κ d v r q h1 h2 h3 => by
    have ih := dget_val hx h3
    simp only [MG.dget]
    rw [key_eqv h1 hx]
    by_cases e : κ = k
    · rw [if_pos (decide_eq_true e)]
      exact ⟨v, valV_pos (p := (κ, v)) e, h2⟩
    · rw [if_neg (by simpa using e), valV_neg (p := (κ, v)) e]
      exact ih

omit hK in
theorem keysOf_all : ∀ {ds : List MG.D}, ds.all MG.keyK = true → ∃ ks, keysOf ds = some ks
  | [], _ => ⟨[], rfl⟩
  | d :: ds, h => by
    simp only [List.all_cons, Bool.and_eq_true] at h
    obtain ⟨k, e⟩ := keyK_of h.1
    obtain ⟨ks, e'⟩ := keysOf_all h.2
    exact ⟨k :: ks, by simp only [keysOf, e, e']⟩
omit hK in
theorem keysOf_v {M : Mc} {s : Sx} : ∀ {ds : List MG.D} {ks : List Key} {vs : List V}, keysOf ds = some ks → RDs M s ds vs → vs = ks.map kV
  | [], _, _, h, r => by
    cases h
    cases r
    rfl
  | d :: ds, ks, _, h, r => by
    cases r with
    | cons h1 h2 =>
      simp only [keysOf] at h
      cases e : keyOf d with
      | none => rw [e] at h; cases h
      | some k =>
        cases e' : keysOf ds with
        | none => rw [e, e'] at h; cases h
        | some l =>
          rw [e, e'] at h
          cases h
          rw [List.map_cons, keyK_v e h1, keysOf_v e' h2]
omit hK in
theorem keys_eqv : ∀ {a b : List MG.D} {k l : List Key}, keysOf a = some k → keysOf b = some l → MG.eqvAll a b = decide (k = l)
  | [], [], _, _, h, q => by cases h; cases q; rfl
  | [], y :: b, _, _, h, q => by
    simp only [keysOf] at h q
    cases h
    cases e : keyOf y with
    | none => rw [e] at q; cases q
    | some k =>
      cases e' : keysOf b with
      | none => rw [e, e'] at q; cases q
      | some l => rw [e, e'] at q; cases q; rfl
  | x :: a, [], _, _, h, q => by
    simp only [keysOf] at h q
    cases q
    cases e : keyOf x with
    | none => rw [e] at h; cases h
    | some k =>
      cases e' : keysOf a with
      | none => rw [e, e'] at h; cases h
      | some l => rw [e, e'] at h; cases h; rfl
  | x :: a, y :: b, _, _, h, q => by
    simp only [keysOf] at h q
    cases e1 : keyOf x with
    | none => rw [e1] at h; cases h
    | some k =>
      cases e2 : keysOf a with
      | none => rw [e1, e2] at h; cases h
      | some l =>
        rw [e1, e2] at h
        cases h
        cases e3 : keyOf y with
        | none => rw [e3] at q; cases q
        | some k' =>
          cases e4 : keysOf b with
          | none => rw [e3, e4] at q; cases q
          | some l' =>
            rw [e3, e4] at q
            cases q
            simp only [MG.eqvAll]
            rw [key_eqv e1 e3, keys_eqv e2 e4]
            by_cases c1 : k = k'
            · subst c1; simp
            · simp [c1]
omit hK in
theorem tkey_eqv {a b : MG.D} {k l : List Key} (h : tkeyOf a = some k) (q : tkeyOf b = some l) : MG.eqv a b = decide (k = l) := by
  cases a <;> simp only [tkeyOf, reduceCtorEq] at h
  cases b <;> simp only [tkeyOf, reduceCtorEq] at q
  simp only [MG.eqv]
  exact keys_eqv h q
omit hK in
theorem dget_valT {M : Mc} {s : Sx} {x : MG.D} {k : List Key} (hx : tkeyOf x = some k) : ∀ {r : List (MG.D × MG.D)} {q : List (List Key × V)}, RTV M s r q → match MG.dget r x with
    | none => valV q k = none
    | some d => ∃ v, valV q k = some v ∧ RD M s d v
  | _, _, .nil => rfl
  | _, _, @RTV.cons _ _ kk κ d v r q h1 h2 h3 => by
    have ih := dget_valT hx h3
    simp only [MG.dget]
    rw [tkey_eqv h1 hx]
    by_cases e : κ = k
    · rw [if_pos (decide_eq_true e)]
      exact ⟨v, valV_pos (p := (κ, v)) e, h2⟩
    · rw [if_neg (by simpa using e), valV_neg (p := (κ, v)) e]
      exact ih
omit hK in
theorem keyT_of {M : Mc} {s : Sx} {d : MG.D} {v : V} (h : MG.keyT M.G d = true) (q : RD M s d v) : ∃ b ks, tkeyOf d = some ks ∧ v = .ref b ∧ s.H b = some (.tup (ks.map kV)) := by
  cases d with
  | tup ds =>
    simp only [MG.keyT, Bool.and_eq_true, Bool.not_eq_true'] at h
    obtain ⟨ks, e⟩ := keysOf_all h.1
    cases q with
    | tup h1 h2 h3 =>
      refine ⟨_, ks, e, rfl, ?_⟩
      rw [← keysOf_v e h3]
      exact h1
    | tupK h1 h2 h3 =>
      exfalso
      have := List.any_eq_false.mp h.2 ds h2
      exact this (dsameAll_refl ds)
  | _ => simp [MG.keyT] at h
/-- what a dict tells -/
def OR (M : Mc) (s : Sx) : Option MG.D → Option V → Prop
  | none, none => True
  | some d, some v => RD M s d v
  | _, _ => False
omit hK in
theorem OR.some_ {M : Mc} {s : Sx} {d : MG.D} {o : Option V} (h : OR M s (some d) o) : ∃ v, o = some v ∧ RD M s d v := by
  cases o with
  | none => exact h.elim
  | some v => exact ⟨v, rfl, h⟩
omit hK in
theorem OR.isSome {M : Mc} {s : Sx} {x : Option MG.D} {o : Option V} (h : OR M s x o) : o.isSome = x.isSome := by
  cases x <;> cases o <;> first | rfl | exact h.elim
omit hK in
theorem OR.getD {M : Mc} {s : Sx} {x : Option MG.D} {o : Option V} {d : MG.D} {v : V} (h : OR M s x o) (q : RD M s d v) : RD M s (x.getD d) (o.getD v) := by
  cases x <;> cases o <;> first | exact h.elim | exact q | exact h
omit hK in
theorem OR.of {M : Mc} {s : Sx} {x : Option MG.D} {o : Option V} (h : match x with | none => o = none | some d => ∃ v, o = some v ∧ RD M s d v) : OR M s x o := by
  cases x with
  | none => rw [show o = none from h]; trivial
  | some d =>
    obtain ⟨v, e, q⟩ := h
    rw [e]
    exact q
omit hK in
theorem dictAt_ok {M : Mc} {s : Sx} (S : Sim M s) {d key : MG.D} {x y : V} {kvs : List (MG.D × MG.D)} (hd : RD M s d x) (hk : RD M s key y) (h : MG.dictAt M.G s.st d key = some kvs) :
    ∃ a, x = .ref a ∧ ((∃ o, DGet s.H a y o ∧ OR M s (MG.dget kvs key) o) ∨ ∃ n z, d = .gd n ∧ key = .str z ∧ kvs = M.G.get n ∧ M.gd n = some a) := by
  cases d with
  | gd n =>
    cases hd with
    | @gd a _ h1 =>
      cases key with
      | str z =>
        simp only [MG.dictAt, Option.some.injEq] at h
        exact ⟨a, rfl, .inr ⟨n, z, rfl, rfl, h.symm, h1⟩⟩
      | _ => simp [MG.dictAt] at h
  | ref r =>
    cases hd with
    | @ref a _ h1 =>
      refine ⟨a, rfl, .inl ?_⟩
      simp only [MG.dictAt] at h
      cases e : s.st[r]? with
      | none => rw [e] at h; cases h
      | some o =>
        rw [e] at h
        cases o with
        | dK q =>
          simp only at h
          by_cases c : MG.keyK key = true
          · rw [if_pos c] at h
            cases h
            obtain ⟨qs, q1, q2⟩ := S.ob r a _ h1 e
            obtain ⟨k, ek⟩ := keyK_of c
            rw [keyK_v ek hk]
            exact ⟨valV qs k, DGet.k q1, OR.of (dget_val ek q2)⟩
          · rw [if_neg c] at h; cases h
        | dT q =>
          simp only at h
          by_cases c : MG.keyT M.G key = true
          · rw [if_pos c] at h
            cases h
            obtain ⟨qs, q1, q2⟩ := S.ob r a _ h1 e
            obtain ⟨b, ks, ek, rfl, hb⟩ := keyT_of c hk
            exact ⟨valV qs ks, DGet.t q1 hb, OR.of (dget_valT ek q2)⟩
          · rw [if_neg c] at h; cases h
        | _ => cases h
  | _ => simp [MG.dictAt] at h
/-- what is known of the written dicts -/
def GdOk (M : Mc) (X : Cx) : Prop := ∀ n a, M.gd n = some a → (∃ es k, KDict X.K X.w a es k) ∧ ∀ z : String, match MG.dget (M.G.get n) (.str z) with
  | none => PySem.W.nsIn X.K a (sOf z) = some none
  | some d => ∃ u v, PySem.W.nsIn X.K a (sOf z) = some (some u) ∧ RelV v u ∧ ∀ s, RD M s d v

theorem ov_in {own : Bool} (hu : X.A.units + 65 < cLine) (hg : GdOk M X) : OpR X (compareOp .In) (rV M (MG.op2V M.G own .in_)) := by
  intro pins s σ H x y v u Q I rx ry h
  obtain ⟨m, st, d, e, S, hd, he, q⟩ := h
  obtain ⟨b, eb, q⟩ := PV.okB (s := ⟨m, st, H⟩) q
  have qv := q.val S (.bl b)
  clear q
  have dict : ∀ {kvs : List (MG.D × MG.D)}, MG.dictAt M.G st e d = some kvs → (MG.dget kvs d).isSome = b → wpAny (model X.prog X.w) X.A (compareOp .In v u) (EP X pins σ Q) X.xe s := by
    intro kvs h1 h2
    obtain ⟨a, rfl, h3 | h3⟩ := dictAt_ok S he hd h1
    · obtain ⟨o, g, r⟩ := h3
      cases ry
      refine d_in (by omega) I g rx fun s' I' => ⟨.bl _, H, I', rfl, ?_⟩
      rw [r.isSome, h2]
      exact qv
    · obtain ⟨n, z, rfl, rfl, rfl, ga⟩ := h3
      obtain ⟨⟨es, k, kd⟩, g⟩ := hg n a ga
      have g := g z
      cases hd
      rw [← h2] at qv
      revert g qv
      cases MG.dget (M.G.get n) (.str z) with
      | none => exact fun q g => op_in_kd kd pins s σ H _ _ v u Q I rx ry ⟨_, _, rfl, rfl, g, q⟩
      | some d' => exact fun q ⟨u', v', g1, _, _⟩ => op_in_kd kd pins s σ H _ _ v u Q I rx ry ⟨_, _, rfl, rfl, g1, q⟩
  have list : ∀ {ds : List MG.D}, MG.lstOf st e = some ds → (if (MG.pur 60 d && MG.purAll 60 ds) = true then some (ds.any fun y => MG.eqv y d) else none) = some b → wpAny (model X.prog X.w) X.A (compareOp .In v u) (EP X pins σ Q) X.xe s := by
    intro ds h1 h2
    by_cases c : (MG.pur 60 d && MG.purAll 60 ds) = true
    · rw [if_pos c] at h2
      rw [Bool.and_eq_true] at c
      obtain ⟨a, vs, rfl, h3, r⟩ := rd_lst S he h1
      have hdp := dp_of 60 c.1 hd
      rw [hK] at hdp
      have hal := dp_all 60 c.2 r
      rw [hK] at hal
      refine op_inD hu pins s σ H _ _ v u Q I rx ry ⟨pyOf d, pyAll ds, hdp, .lst (.inl (.inl h3)) hal, py_shaped (by omega) c.1, py_shaped (n := 61) (d := .lst ds) (by omega) (by simp only [MG.pur]; exact c.2), ?_⟩
      rw [any_py c.1 ds c.2, Option.some.inj h2]
      exact qv
    · rw [if_neg c] at h2; cases h2
  cases e with
  | tup ds =>
    simp only [MG.memB] at eb
    by_cases c : (MG.flat d && ds.all MG.flat) = true
    · rw [if_pos c] at eb
      rw [Bool.and_eq_true] at c
      obtain ⟨a, vs, rfl, h3, r⟩ := rd_tup he
      rw [hK] at h3
      refine op_in_seq pins s σ H _ _ v u Q I rx ry ⟨a, vs, rfl, .inr h3, flat_rel hd c.1, flat_all r c.2, ?_⟩
      simp only [Bool.false_eq_true, if_false]
      unfold inV
      rw [flat_any hd c.1 r c.2, Option.some.inj eb]
      exact qv
    · rw [if_neg c] at eb; cases eb
  | str z =>
    simp only [MG.memB] at eb
    cases d with
    | str c =>
      simp only at eb
      by_cases hc : c.length = 1
      · rw [if_pos hc] at eb
        obtain ⟨w, e1, e2⟩ := one_sign hc
        cases hd; cases he
        refine op_in_sign pins s σ H _ _ v u Q I rx ry ⟨w.toNat, sOf z, by rw [e2], rfl, ?_⟩
        rw [sOf_cps, ← sign_any, ← e1, Option.some.inj eb]
        exact qv
      · rw [if_neg hc] at eb; cases eb
    | _ => cases eb
  | gd n =>
    simp only [MG.memB] at eb
    obtain ⟨kvs, h1, h2⟩ := Option.map_eq_some_iff.mp eb
    exact dict h1 h2
  | lst ds => exact list rfl eb
  | ref r =>
    simp only [MG.memB] at eb
    cases e1 : st[r]? with
    | none => rw [e1] at eb; simp [MG.dictAt, e1] at eb
    | some o =>
      rw [e1] at eb
      cases o with
      | lst ds => exact list (by simp only [MG.lstOf, e1]) eb
      | _ =>
        obtain ⟨kvs, h1, h2⟩ := Option.map_eq_some_iff.mp eb
        exact dict h1 h2
  | _ => simp [MG.memB] at eb
theorem ov_nin {own : Bool} (hu : X.A.units + 65 < cLine) (hg : GdOk M X) : OpR X (compareOp .NotIn) (rV M (MG.op2V M.G own .nin)) := by
  intro pins s σ H x y v u Q I rx ry h
  obtain ⟨m, st, d, e, S, hd, he, q⟩ := h
  obtain ⟨b, eb, q⟩ := PV.okB (s := ⟨m, st, H⟩) q
  have qv := q.val S (.bl (!b))
  clear q
  have dict : ∀ {kvs : List (MG.D × MG.D)}, MG.dictAt M.G st e d = some kvs → (MG.dget kvs d).isSome = b → wpAny (model X.prog X.w) X.A (compareOp .NotIn v u) (EP X pins σ Q) X.xe s := by
    intro kvs h1 h2
    obtain ⟨a, rfl, h3 | h3⟩ := dictAt_ok S he hd h1
    · obtain ⟨o, g, r⟩ := h3
      cases ry
      refine d_notIn (by omega) I g rx fun s' I' => ⟨.bl _, H, I', rfl, ?_⟩
      rw [r.isSome, h2]
      exact qv
    · obtain ⟨n, z, rfl, rfl, rfl, ga⟩ := h3
      obtain ⟨⟨es, k, kd⟩, g⟩ := hg n a ga
      have g := g z
      cases hd
      rw [← h2] at qv
      revert g qv
      cases MG.dget (M.G.get n) (.str z) with
      | none => exact fun q g => op_notIn_kd kd pins s σ H _ _ v u Q I rx ry ⟨_, _, rfl, rfl, g, q⟩
      | some d' => exact fun q ⟨u', v', g1, _, _⟩ => op_notIn_kd kd pins s σ H _ _ v u Q I rx ry ⟨_, _, rfl, rfl, g1, q⟩
  have list : ∀ {ds : List MG.D}, MG.lstOf st e = some ds → (if (MG.pur 60 d && MG.purAll 60 ds) = true then some (ds.any fun y => MG.eqv y d) else none) = some b → wpAny (model X.prog X.w) X.A (compareOp .NotIn v u) (EP X pins σ Q) X.xe s := by
    intro ds h1 h2
    by_cases c : (MG.pur 60 d && MG.purAll 60 ds) = true
    · rw [if_pos c] at h2
      rw [Bool.and_eq_true] at c
      obtain ⟨a, vs, rfl, h3, r⟩ := rd_lst S he h1
      have hdp := dp_of 60 c.1 hd
      rw [hK] at hdp
      have hal := dp_all 60 c.2 r
      rw [hK] at hal
      refine op_notInD hu pins s σ H _ _ v u Q I rx ry ⟨pyOf d, pyAll ds, hdp, .lst (.inl (.inl h3)) hal, py_shaped (by omega) c.1, py_shaped (n := 61) (d := .lst ds) (by omega) (by simp only [MG.pur]; exact c.2), ?_⟩
      rw [any_py c.1 ds c.2, Option.some.inj h2]
      exact qv
    · rw [if_neg c] at h2; cases h2
  cases e with
  | tup ds =>
    simp only [MG.memB] at eb
    by_cases c : (MG.flat d && ds.all MG.flat) = true
    · rw [if_pos c] at eb
      rw [Bool.and_eq_true] at c
      obtain ⟨a, vs, rfl, h3, r⟩ := rd_tup he
      rw [hK] at h3
      refine op_notIn_seq pins s σ H _ _ v u Q I rx ry ⟨a, vs, rfl, .inr h3, flat_rel hd c.1, flat_all r c.2, ?_⟩
      simp only [if_true]
      unfold inV
      rw [flat_any hd c.1 r c.2, Option.some.inj eb]
      exact qv
    · rw [if_neg c] at eb; cases eb
  | str z =>
    simp only [MG.memB] at eb
    cases d with
    | str c =>
      simp only at eb
      by_cases hc : c.length = 1
      · rw [if_pos hc] at eb
        obtain ⟨w, e1, e2⟩ := one_sign hc
        cases hd; cases he
        refine op_notIn_sign pins s σ H _ _ v u Q I rx ry ⟨w.toNat, sOf z, by rw [e2], rfl, ?_⟩
        rw [sOf_cps, ← sign_any, ← e1, Option.some.inj eb]
        exact qv
      · rw [if_neg hc] at eb; cases eb
    | _ => cases eb
  | gd n =>
    simp only [MG.memB] at eb
    obtain ⟨kvs, h1, h2⟩ := Option.map_eq_some_iff.mp eb
    exact dict h1 h2
  | lst ds => exact list rfl eb
  | ref r =>
    simp only [MG.memB] at eb
    cases e1 : st[r]? with
    | none => rw [e1] at eb; simp [MG.dictAt, e1] at eb
    | some o =>
      rw [e1] at eb
      cases o with
      | lst ds => exact list (by simp only [MG.lstOf, e1]) eb
      | _ =>
        obtain ⟨kvs, h1, h2⟩ := Option.map_eq_some_iff.mp eb
        exact dict h1 h2
  | _ => simp [MG.memB] at eb

/-! ### x[i] -/
omit hK in
theorem place_eq (n : Nat) (i : Int) : MG.place n i = ixN n i := rfl
omit hK in
theorem item_rel {M : Mc} {s : Sx} {ds : List MG.D} {vs : List V} {i : Int} {d : MG.D} (r : RDs M s ds vs) (h : MG.itemAt ds i = some d) : ∃ v, atI vs i = some v ∧ RD M s d v := by
  unfold MG.itemAt at h
  unfold atI
  rw [← r.length, ← place_eq]
  cases e : MG.place ds.length i with
  | none => rw [e] at h; cases h
  | some j =>
    rw [e] at h
    exact r.get h
omit hK in
theorem atI_map {α β : Type} (f : α → β) (xs : List α) (i : Int) : atI (xs.map f) i = (atI xs i).map f := by
  unfold atI
  rw [List.length_map]
  cases ixN xs.length i with
  | none => rfl
  | some j => simp
theorem iv_idx {own : Bool} (hu : X.A.units + 1 < cLine) (hg : GdOk M X) : IxR X (rV M (MG.op2V M.G own .idx)) := by
  intro value slice pins s σ H x y v u Q I rx ry h hs
  obtain ⟨m, st, d, e, S, hd, he, q⟩ := h
  obtain ⟨w, ew, qw⟩ := PV.okB (s := ⟨m, st, H⟩) q
  clear q
  have dict : ∀ {kvs : List (MG.D × MG.D)}, MG.dictAt M.G st d e = some kvs → MG.dget kvs e = some w → wpAny (model X.prog X.w) X.A (subscriptTail value slice v u) (EP X pins σ Q) X.xe s := by
    intro kvs h1 h2
    obtain ⟨a, rfl, h3 | h3⟩ := dictAt_ok S hd he h1
    · obtain ⟨o, g, r⟩ := h3
      rw [h2] at r
      obtain ⟨z, rfl, rz⟩ := r.some_
      cases rx
      exact tail_any (dict_typeIs I g) slot_dict_getitem.lookup (d_getItem hu I g ry fun w' s' I' rw' => ⟨z, H, I', rw', qw.val S rz⟩) hs
    · obtain ⟨n, z, rfl, rfl, rfl, ga⟩ := h3
      obtain ⟨⟨es, k, kd⟩, g⟩ := hg n a ga
      have g := g z
      rw [h2] at g
      obtain ⟨u', v', g1, g2, g3⟩ := g
      cases he
      exact ix_kdict value slice pins s σ H _ _ v u Q I rx ry ⟨a, _, v', rfl, rfl, ⟨es, k, u', kd.at_, kd.lit, g1, g2⟩, qw.val S (g3 _)⟩ hs
  have dict' : (MG.dictAt M.G st d e).bind (fun kvs => MG.dget kvs e) = some w → wpAny (model X.prog X.w) X.A (subscriptTail value slice v u) (EP X pins σ Q) X.xe s := by
    intro z
    obtain ⟨kvs, h1, h2⟩ := Option.bind_eq_some_iff.mp z
    exact dict h1 h2
  cases e with
  | int i =>
    cases he
    cases d with
    | tup ds =>
      obtain ⟨a, vs, rfl, h3, r⟩ := rd_tup hd
      obtain ⟨z, e1, rz⟩ := item_rel r ew
      rw [hK] at h3
      exact ix_tup value slice pins s σ H _ _ v u Q I rx ry ⟨a, vs, i, z, rfl, rfl, h3, e1, qw.val S rz⟩ hs
    | lst ds =>
      obtain ⟨a, vs, rfl, h3, r⟩ := rd_lst S hd rfl
      obtain ⟨z, e1, rz⟩ := item_rel r ew
      exact ix_list value slice pins s σ H _ _ v u Q I rx ry ⟨a, vs, i, z, rfl, rfl, .inl (.inl h3), e1, qw.val S rz⟩ hs
    | scr ns =>
      have e1 : atI ns i = (MG.place ns.length i).bind fun j => ns[j]? := rfl
      have e2 : ∃ k, atI ns i = some k ∧ w = .int k := by
        simp only [MG.idxV] at ew
        rw [e1]
        cases ep : MG.place ns.length i with
        | none => rw [ep] at ew; cases ew
        | some j =>
          rw [ep] at ew
          simp only [Option.bind_some] at ew ⊢
          cases en : ns[j]? with
          | none => rw [en] at ew; cases ew
          | some k =>
            rw [en] at ew
            exact ⟨k, rfl, (Option.some.inj ew).symm⟩
      obtain ⟨k, e3, rfl⟩ := e2
      have fin : ∀ {a : Addr}, SqL X.K H a (ns.map V.int) → x = .ref a → wpAny (model X.prog X.w) X.A (subscriptTail value slice v u) (EP X pins σ Q) X.xe s := by
        intro a h1 ex
        subst ex
        exact ix_list value slice pins s σ H _ _ v u Q I rx ry ⟨a, _, i, .int k, rfl, rfl, h1, by rw [atI_map, e3]; rfl, qw.val S (.int k)⟩ hs
      cases hd with
      | scr h1 h2 => exact fin (.inl h1) rfl
      | scrK h1 => exact fin (by rw [← hK]; exact h1 _) rfl
    | str z =>
      simp only [MG.idxV] at ew
      by_cases hl : z.length ≤ MG.LIM
      · rw [if_pos hl] at ew
        unfold MG.itemAt MG.chars at ew
        rw [List.length_map] at ew
        cases ep : MG.place z.toList.length i with
        | none => rw [ep] at ew; cases ew
        | some j =>
          rw [ep] at ew
          simp only [Option.bind_some, List.getElem?_map] at ew
          cases ec : z.toList[j]? with
          | none => rw [ec] at ew; cases ew
          | some c =>
            rw [ec] at ew
            have ew := Option.some.inj ew
            subst ew
            cases hd
            refine ix_str value slice pins s σ H _ _ v u Q I rx ry ⟨sOf z, i, c.toNat, rfl, rfl, by rw [sOf_length]; exact hl, ?_, ?_⟩ hs
            · rw [sOf_cps, atI_map]
              unfold atI
              rw [← place_eq, ep]
              simp [ec]
            · have : sOf (String.singleton c) = ⟨#[c.toNat]⟩ := by
                show Str.ofString _ = _
                rw [Str.ofString_eq_toList]
                simp
              rw [← this]
              exact qw.val S (.str _)
      · rw [if_neg hl] at ew; cases ew
    | ref r =>
      simp only [MG.idxV] at ew
      cases e1 : st[r]? with
      | none => rw [e1] at ew; exact dict' ew
      | some o =>
        rw [e1] at ew
        cases o with
        | lst ds =>
          obtain ⟨a, vs, rfl, h3, r⟩ := rd_lst (ds := ds) S hd (by simp only [MG.lstOf, e1])
          obtain ⟨z, e1, rz⟩ := item_rel r ew
          exact ix_list value slice pins s σ H _ _ v u Q I rx ry ⟨a, vs, i, z, rfl, rfl, .inl (.inl h3), e1, qw.val S rz⟩ hs
        | _ => exact dict' ew
    | _ => simp [MG.idxV] at ew
  | _ => exact dict' ew

/-! ### not, -, is None -/
theorem uv_neg : UnR X (unaryOp .USub) (rV1 M (MG.op1V .neg)) := by
  intro pins s σ H x v Q I rx h
  obtain ⟨m, st, d, S, hd, q⟩ := h
  cases d with
  | int i => cases hd; exact un_neg pins s σ H _ v Q I rx ⟨i, rfl, q.val S (.int _)⟩
  | _ => exact q.elim
omit hK in
theorem rd_non {M : Mc} {s : Sx} {d : MG.D} {v : V} (h : RD M s d v) : decide (v = .non) = (match d with | .non => true | _ => false) := by
  cases h <;> simp
end
end MGS

set_option Elab.async false
set_option linter.all false
set_option maxRecDepth 100000
set_option maxHeartbeats 4000000
/-! Built-ins by values. -/
namespace MGS
open PySem PySem.Spec PyProof.Rows L2

/-- what is known of a class without ancestors of its own -/
structure PlainC (K : PySem.W.Frag) (C : Addr) : Prop where
  cl : Cls K C
  ha : PySem.W.findIn K (.ref C) "__class__" = some (some (.builtin "object.__class__"))
  hn : PySem.W.specialIn K (.builtin "object.__class__") "__get__" = some (some (.builtin "getset_descriptor.__get__"))
  htk : PySem.W.takesIn K (.builtin "object.__class__") = some true
  hm : PySem.W.mroIn K C (.type "object") = some true
  ki : PySem.W.kitOne K (.ref C) (.type "int") = some false
  kb : PySem.W.kitOne K (.ref C) (.type "bool") = some false
  ks : PySem.W.kitOne K (.ref C) (.type "str") = some false
  kt : PySem.W.kitOne K (.ref C) (.type "tuple") = some false
  kl : PySem.W.kitOne K (.ref C) (.type "list") = some false
  ka : PySem.W.kitAny K (.ref C) [.type "tuple", .type "list"] = some false

/-- the module's facts that the built-ins need -/
structure BltOk (M : Mc) (X : Cx) : Prop where
  hK : M.K = X.K
  gd : GdOk M X
  pl : ∀ c C, M.cls c = some C → PlainC X.K C

theorem RKV.length {M : Mc} {s : Sx} : ∀ {r : List (MG.D × MG.D)} {q : List (Key × V)}, RKV M s r q → q.length = r.length
  | _, _, .nil => rfl
  | _, _, .cons _ _ r => by rw [List.length_cons, List.length_cons, RKV.length r]
theorem RTV.length {M : Mc} {s : Sx} : ∀ {r : List (MG.D × MG.D)} {q : List (List Key × V)}, RTV M s r q → q.length = r.length
  | _, _, .nil => rfl
  | _, _, .cons _ _ r => by rw [List.length_cons, List.length_cons, RTV.length r]
theorem RKV.any {M : Mc} {s : Sx} {x : MG.D} {k : Key} (hx : keyOf x = some k) : ∀ {r : List (MG.D × MG.D)} {q : List (Key × V)}, RKV M s r q → (q.any fun kv => decide (kv.1 = k)) = r.any fun p => MG.eqv p.1 x
  | _, _, .nil => rfl
  | _, _, .cons h1 _ h3 => by
    simp only [List.any_cons]
    rw [key_eqv h1 hx, RKV.any hx h3]
theorem RTV.any {M : Mc} {s : Sx} {x : MG.D} {k : List Key} (hx : tkeyOf x = some k) : ∀ {r : List (MG.D × MG.D)} {q : List (List Key × V)}, RTV M s r q → (q.any fun kv => decide (kv.1 = k)) = r.any fun p => MG.eqv p.1 x
  | _, _, .nil => rfl
  | _, _, .cons h1 _ h3 => by
    simp only [List.any_cons]
    rw [tkey_eqv h1 hx, RTV.any hx h3]
theorem RKV.repl {M : Mc} {s : Sx} {x d : MG.D} {k : Key} {v : V} (hx : keyOf x = some k) (hd : RD M s d v) : ∀ {r : List (MG.D × MG.D)} {q : List (Key × V)}, RKV M s r q →
    RKV M s (r.map fun p => if MG.eqv p.1 x = true then (p.1, d) else p) (q.map fun kv => if kv.1 = k then (kv.1, v) else kv)
  | _, _, .nil => .nil
  | _, _, @RKV.cons _ _ kk κ d0 v0 r q h1 h2 h3 => by
    simp only [List.map_cons]
    rw [key_eqv h1 hx]
    by_cases e : κ = k
    · simp only [e, decide_true, if_true]
      exact .cons (by rw [h1, e]) hd (RKV.repl hx hd h3)
    · simp only [e, decide_false, if_false, Bool.false_eq_true]
      exact .cons h1 h2 (RKV.repl hx hd h3)
theorem RTV.repl {M : Mc} {s : Sx} {x d : MG.D} {k : List Key} {v : V} (hx : tkeyOf x = some k) (hd : RD M s d v) : ∀ {r : List (MG.D × MG.D)} {q : List (List Key × V)}, RTV M s r q →
    RTV M s (r.map fun p => if MG.eqv p.1 x = true then (p.1, d) else p) (q.map fun kv => if kv.1 = k then (kv.1, v) else kv)
  | _, _, .nil => .nil
  | _, _, @RTV.cons _ _ kk κ d0 v0 r q h1 h2 h3 => by
    simp only [List.map_cons]
    rw [tkey_eqv h1 hx]
    by_cases e : κ = k
    · simp only [e, decide_true, if_true]
      exact .cons (by rw [h1, e]) hd (RTV.repl hx hd h3)
    · simp only [e, decide_false, if_false, Bool.false_eq_true]
      exact .cons h1 h2 (RTV.repl hx hd h3)
theorem RKV.append {M : Mc} {s : Sx} : ∀ {r r' : List (MG.D × MG.D)} {q q' : List (Key × V)}, RKV M s r q → RKV M s r' q' → RKV M s (r ++ r') (q ++ q')
  | _, _, _, _, .nil, z => z
  | _, _, _, _, .cons h1 h2 h3, z => .cons h1 h2 (RKV.append h3 z)
theorem RTV.append {M : Mc} {s : Sx} : ∀ {r r' : List (MG.D × MG.D)} {q q' : List (List Key × V)}, RTV M s r q → RTV M s r' q' → RTV M s (r ++ r') (q ++ q')
  | _, _, _, _, .nil, z => z
  | _, _, _, _, .cons h1 h2 h3, z => .cons h1 h2 (RTV.append h3 z)
theorem RKV.put {M : Mc} {s : Sx} {x d : MG.D} {k : Key} {v : V} {r : List (MG.D × MG.D)} {q : List (Key × V)} (hx : keyOf x = some k) (hd : RD M s d v) (h : RKV M s r q) : RKV M s (MG.dput r x d) (putK q k v) := by
  unfold MG.dput putK
  rw [h.any hx]
  by_cases c : (r.any fun p => MG.eqv p.1 x) = true
  · rw [if_pos c, if_pos c]
    exact h.repl hx hd
  · rw [if_neg c, if_neg c]
    exact h.append (.cons hx hd .nil)
theorem RTV.put {M : Mc} {s : Sx} {x d : MG.D} {k : List Key} {v : V} {r : List (MG.D × MG.D)} {q : List (List Key × V)} (hx : tkeyOf x = some k) (hd : RD M s d v) (h : RTV M s r q) : RTV M s (MG.dput r x d) (putK q k v) := by
  unfold MG.dput putK
  rw [h.any hx]
  by_cases c : (r.any fun p => MG.eqv p.1 x) = true
  · rw [if_pos c, if_pos c]
    exact h.repl hx hd
  · rw [if_neg c, if_neg c]
    exact h.append (.cons hx hd .nil)
theorem RKV.merge {M : Mc} {s : Sx} : ∀ {n : List (MG.D × MG.D)} {w : List (Key × V)} {r : List (MG.D × MG.D)} {q : List (Key × V)}, RKV M s n w → RKV M s r q → RKV M s (MG.dputAll r n) (mergeK q w)
  | _, _, _, _, .nil, h => h
  | _, _, r, q, @RKV.cons _ _ k κ d v n w h1 h2 h3, h => by
    show RKV M s (MG.dputAll (MG.dput r k d) n) (mergeK (putK q κ v) w)
    exact RKV.merge h3 (h.put h1 h2)

/-- several values, by the core machine -/
def rL (M : Mc) (f : List MG.D → MG.Store → MG.Res MG.D) : List V → Hp → VK → Prop := fun xs H Q => ∃ m st ds, Sim M ⟨m, st, H⟩ ∧ RDs M ⟨m, st, H⟩ ds xs ∧ PV M ⟨m, st, H⟩ (f ds st) Q

section
variable {X : Cx} {M : Mc} (B : BltOk M X)
include B
/-! ### arguments -/
omit B in
theorem PV.one {M : Mc} {s : Sx} {ds : List MG.D} {vs : List V} {k : MG.D → MG.Res MG.D} {Q : VK} (q : PV M s (MG.one ds k) Q) (r : RDs M s ds vs) : ∃ d v, ds = [d] ∧ vs = [v] ∧ RD M s d v ∧ PV M s (k d) Q := by
  match ds, vs, r, q with
  | [], _, _, q => exact q.elim
  | _ :: _ :: _, _, _, q => exact q.elim
  | [d], [v], .cons h .nil, q => exact ⟨d, v, rfl, rfl, h, q⟩
omit B in
theorem PV.two {M : Mc} {s : Sx} {ds : List MG.D} {vs : List V} {k : MG.D → MG.D → MG.Res MG.D} {Q : VK} (q : PV M s (MG.two ds k) Q) (r : RDs M s ds vs) : ∃ d e v u, ds = [d, e] ∧ vs = [v, u] ∧ RD M s d v ∧ RD M s e u ∧ PV M s (k d e) Q := by
  match ds, vs, r, q with
  | [], _, _, q => exact q.elim
  | [_], _, _, q => exact q.elim
  | _ :: _ :: _ :: _, _, _, q => exact q.elim
  | [d, e], [v, u], .cons h (.cons h' .nil), q => exact ⟨d, e, v, u, rfl, rfl, h, h', q⟩
omit B in
theorem PV.three {M : Mc} {s : Sx} {ds : List MG.D} {vs : List V} {k : MG.D → MG.D → MG.D → MG.Res MG.D} {Q : VK} (q : PV M s (MG.three ds k) Q) (r : RDs M s ds vs) :
    ∃ d e f v u w, ds = [d, e, f] ∧ vs = [v, u, w] ∧ RD M s d v ∧ RD M s e u ∧ RD M s f w ∧ PV M s (k d e f) Q := by
  match ds, vs, r, q with
  | [], _, _, q => exact q.elim
  | [_], _, _, q => exact q.elim
  | [_, _], _, _, q => exact q.elim
  | _ :: _ :: _ :: _ :: _, _, _, q => exact q.elim
  | [d, e, f], [v, u, w], .cons h (.cons h' (.cons h'' .nil)), q => exact ⟨d, e, f, v, u, w, rfl, rfl, h, h', h'', q⟩
omit B in
theorem PV.onL {M : Mc} {s : Sx} (S : Sim M s) {d : MG.D} {v : V} {k : List MG.D → MG.Res MG.D} {Q : VK} (q : PV M s (MG.onL s.st d k) Q) (h : RD M s d v) : ∃ ds a vs, MG.lstOf s.st d = some ds ∧ v = .ref a ∧ s.H a = some (.lst vs) ∧ RDs M s ds vs ∧ PV M s (k ds) Q := by
  unfold MG.onL at q
  cases e : MG.lstOf s.st d with
  | none => rw [e] at q; exact q.elim
  | some ds =>
    rw [e] at q
    obtain ⟨a, vs, h1, h2, h3⟩ := rd_lst S h e
    exact ⟨ds, a, vs, rfl, h1, h2, h3, q⟩
omit B in
theorem PV.objL {M : Mc} {s : Sx} (S : Sim M s) {d : MG.D} {v : V} {k : Nat → List MG.D → MG.Res MG.D} {Q : VK} (q : PV M s (MG.objL s.st d k) Q) (h : RD M s d v) :
    ∃ r ds a vs, d = .ref r ∧ s.st[r]? = some (.lst ds) ∧ s.m[r]? = some a ∧ v = .ref a ∧ s.H a = some (.lst vs) ∧ RDs M s ds vs ∧ PV M s (k r ds) Q := by
  cases d with
  | ref r =>
    unfold MG.objL at q
    simp only at q
    cases e : s.st[r]? with
    | none => rw [e] at q; exact q.elim
    | some o =>
      rw [e] at q
      cases o with
      | lst ds =>
        cases h with
        | @ref a _ h1 =>
          obtain ⟨vs, h2, h3⟩ := S.ob r a _ h1 e
          exact ⟨r, ds, a, vs, rfl, e, h1, rfl, h2, h3, q⟩
      | _ => exact q.elim
  | _ => exact q.elim
omit B in
theorem PV.withI {M : Mc} {s : Sx} {d : MG.D} {v : V} {k : Int → MG.Res MG.D} {Q : VK} (q : PV M s (MG.withI d k) Q) (h : RD M s d v) : ∃ i, d = .int i ∧ v = .int i ∧ PV M s (k i) Q := by
  cases d with
  | int i => cases h; exact ⟨i, rfl, rfl, q⟩
  | _ => exact q.elim
omit B in
theorem PV.ite {M : Mc} {s : Sx} {c : Prop} [Decidable c] {r : MG.Res MG.D} {Q : VK} (q : PV M s (if c then r else .bad) Q) : c ∧ PV M s r Q := by
  by_cases h : c
  · rw [if_pos h] at q; exact ⟨h, q⟩
  · rw [if_neg h] at q; exact q.elim
omit B in
theorem PV.setL {M : Mc} {s : Sx} (S : Sim M s) {r : Nat} {a : Addr} {ds es : List MG.D} {us : List V} {d : MG.D} {v : V} {Q : VK} (h1 : s.m[r]? = some a) (h2 : s.st[r]? = some (.lst ds)) (q : PV M s (.ok d (s.st.set r (.lst es))) Q)
    (rd : RD M s d v) (rs : RDs M s es us) : Q v (upd s.H a (.lst us)) := by
  have T : Step s ⟨s.m, s.st.set r (.lst es), upd s.H a (.lst us)⟩ := set_step S h1 h2 (by simp)
  exact q s.m _ _ (set_sim S h1 h2 (by simp) ⟨us, upd_same, rs.step T⟩) T (rd.step T)

/-! ### len -/
theorem cv_len {own : Bool} : CallR X (.builtin "len") (rL M (MG.biV M.G own .len)) := by
  intro pins s σ H xs us Q I r h
  obtain ⟨m, st, ds, S, rd, q⟩ := h
  obtain ⟨d, x, rfl, rfl, hd, q⟩ := PV.one (s := ⟨m, st, H⟩) q rd
  obtain ⟨n, en, q⟩ := PV.okB (s := ⟨m, st, H⟩) q
  have qv := q.val S (.int n)
  clear q
  cases d with
  | tup ds =>
    obtain ⟨a, vs, rfl, h3, rr⟩ := rd_tup hd
    rw [B.hK] at h3
    simp only [MG.lenV, Option.some.injEq] at en
    refine call_len pins s σ H _ us Q I r ⟨_, n, rfl, .inr ⟨vs, h3, ?_⟩, qv⟩
    rw [← rr.length, en]
  | lst ds =>
    obtain ⟨a, vs, rfl, h3, rr⟩ := rd_lst S hd rfl
    simp only [MG.lenV, Option.some.injEq] at en
    refine call_len pins s σ H _ us Q I r ⟨_, n, rfl, .inl ⟨vs, .inl (.inl h3), ?_⟩, qv⟩
    rw [← rr.length, en]
  | scr ns =>
    simp only [MG.lenV, Option.some.injEq] at en
    have fin : ∀ {a : Addr}, SqL X.K H a (ns.map V.int) → x = .ref a → wpAny (model X.prog X.w) X.A (call (.builtin "len") us) (EP X pins σ Q) X.xe s := by
      intro a h1 ex
      subst ex
      refine call_len pins s σ H _ us Q I r ⟨_, n, rfl, .inl ⟨_, h1, ?_⟩, qv⟩
      rw [List.length_map, en]
    cases hd with
    | scr h1 h2 => exact fin (.inl h1) rfl
    | scrK h1 => exact fin (by rw [← B.hK]; exact h1 _) rfl
  | str z =>
    cases hd
    simp only [MG.lenV] at en
    by_cases hl : z.length ≤ MG.LIM
    · rw [if_pos hl] at en
      refine call_len pins s σ H _ us Q I r ⟨_, n, rfl, ⟨by rw [sOf_length]; exact hl, ?_⟩, qv⟩
      rw [sOf_length, Option.some.inj en]
    · rw [if_neg hl] at en; cases en
  | ref k =>
    simp only [MG.lenV] at en
    cases e1 : st[k]? with
    | none => rw [e1] at en; cases en
    | some o =>
      rw [e1] at en
      cases o with
      | lst ds =>
        obtain ⟨a, vs, rfl, h3, rr⟩ := rd_lst (ds := ds) S hd (by simp only [MG.lstOf, e1])
        simp only [Option.some.injEq] at en
        refine call_len pins s σ H _ us Q I r ⟨_, n, rfl, .inl ⟨vs, .inl (.inl h3), ?_⟩, qv⟩
        rw [← rr.length, en]
      | dK kvs =>
        cases hd with
        | @ref a _ h1 =>
          obtain ⟨q1, h3, rr⟩ := S.ob k a _ h1 e1
          simp only [Option.some.injEq] at en
          refine call_lenD pins s σ H _ us Q I r ⟨a, q1, rfl, h3, ?_⟩
          rw [rr.length, en]
          exact qv
      | _ => cases en
  | _ => cases en

/-! ### tuple, list, int, max, min -/
theorem cv_tuple {own : Bool} : CallR X (.type "tuple") (rL M (MG.biV M.G own .tuple)) := by
  intro pins s σ H xs us Q I r h
  obtain ⟨m, st, ds, S, rd, q⟩ := h
  obtain ⟨d, x, rfl, rfl, hd, q⟩ := PV.one (s := ⟨m, st, H⟩) q rd
  by_cases e : ∃ l, d = .tup l
  · obtain ⟨l, rfl⟩ := e
    obtain ⟨a, vs, rfl, h3, rr⟩ := rd_tup hd
    rw [B.hK] at h3
    exact call_tuple_of pins s σ H _ us Q I r ⟨a, vs, rfl, .inr ⟨h3, PV.val (s := ⟨m, st, H⟩) q S hd⟩⟩
  · have z : MG.toTuple st d = MG.onL st d fun ds => .ok (.tup ds) st := by
      cases d <;> first | rfl | exact (e ⟨_, rfl⟩).elim
    rw [z] at q
    obtain ⟨l, a, vs, _, rfl, h3, rr, q⟩ := PV.onL (s := ⟨m, st, H⟩) S q hd
    exact call_tuple_of pins s σ H _ us Q I r ⟨a, vs, rfl, .inl ⟨.inl (.inl h3), fun p hp => q.tup S rr hp⟩⟩
theorem cv_list {own : Bool} : CallR X (.type "list") (rL M (MG.biV M.G own .list)) := by
  intro pins s σ H xs us Q I r h
  obtain ⟨m, st, ds, S, rd, q⟩ := h
  obtain ⟨d, x, rfl, rfl, hd, q⟩ := PV.one (s := ⟨m, st, H⟩) q rd
  by_cases e : ∃ l, d = .tup l
  · obtain ⟨l, rfl⟩ := e
    obtain ⟨a, vs, rfl, h3, rr⟩ := rd_tup hd
    rw [B.hK] at h3
    exact call_list_of pins s σ H _ us Q I r ⟨a, vs, rfl, .inr h3, fun p hp => PV.give (s := ⟨m, st, H⟩) q S rr hp⟩
  · have z : MG.toList own st d = MG.onL st d fun ds => MG.give own ds st := by
      cases d <;> first | rfl | exact (e ⟨_, rfl⟩).elim
    rw [z] at q
    obtain ⟨l, a, vs, _, rfl, h3, rr, q⟩ := PV.onL (s := ⟨m, st, H⟩) S q hd
    exact call_list_of pins s σ H _ us Q I r ⟨a, vs, rfl, .inl (.inl (.inl h3)), fun p hp => q.give S rr hp⟩
theorem cv_int {own : Bool} : CallR X (.type "int") (rL M (MG.biV M.G own .int)) := by
  intro pins s σ H xs us Q I r h
  obtain ⟨m, st, ds, S, rd, q⟩ := h
  obtain ⟨d, x, rfl, rfl, hd, q⟩ := PV.one (s := ⟨m, st, H⟩) q rd
  cases d with
  | int i => cases hd; exact call_int1 pins s σ H _ us Q I r (.inl ⟨i, rfl, PV.val (s := ⟨m, st, H⟩) q S (.int i)⟩)
  | bl b => cases hd; exact call_int1 pins s σ H _ us Q I r (.inr ⟨b, rfl, PV.val (s := ⟨m, st, H⟩) q S (.int _)⟩)
  | _ => exact q.elim
theorem cv_max {own : Bool} (hc : X.calm = true) : CallR X (.builtin "max") (rL M (MG.biV M.G own .max)) := by
  intro pins s σ H xs us Q I r h
  obtain ⟨m, st, ds, S, rd, q⟩ := h
  obtain ⟨d, e, x, y, rfl, rfl, hd, he, q⟩ := PV.two (s := ⟨m, st, H⟩) q rd
  obtain ⟨i, rfl, rfl, q⟩ := PV.withI q hd
  obtain ⟨j, rfl, rfl, q⟩ := PV.withI q he
  exact call_max2 hc pins s σ H _ us Q I r ⟨i, j, rfl, PV.val (s := ⟨m, st, H⟩) q S (.int _)⟩
theorem cv_min {own : Bool} (hc : X.calm = true) : CallR X (.builtin "min") (rL M (MG.biV M.G own .min)) := by
  intro pins s σ H xs us Q I r h
  obtain ⟨m, st, ds, S, rd, q⟩ := h
  obtain ⟨d, e, x, y, rfl, rfl, hd, he, q⟩ := PV.two (s := ⟨m, st, H⟩) q rd
  obtain ⟨i, rfl, rfl, q⟩ := PV.withI q hd
  obtain ⟨j, rfl, rfl, q⟩ := PV.withI q he
  exact call_min2 hc pins s σ H _ us Q I r ⟨i, j, rfl, PV.val (s := ⟨m, st, H⟩) q S (.int _)⟩

/-! ### isinstance -/
/-- a value's type -/
def tyD (M : Mc) (st : MG.Store) : MG.D → Option Value
  | .non => some (.type "NoneType")
  | .bl _ => some (.type "bool")
  | .int _ => some (.type "int")
  | .str _ => some (.type "str")
  | .tup _ => some (.type "tuple")
  | .lst _ => some (.type "list")
  | .scr _ => some (.type "list")
  | .ref r => match st[r]? with
    | some (.lst _) => some (.type "list")
    | some (.ins c _) => (M.cls c).map Value.ref
    | _ => none
  | .gd _ => none
theorem tyD_ok {s : Sx} (S : Sim M s) {d : MG.D} {v : V} (h : RD M s d v) (q : MG.seenB s.st d = true) : ∃ t, tyD M s.st d = some t ∧ TyX X.K s.H v t := by
  cases d with
  | non => cases h; exact ⟨_, rfl, .base .non⟩
  | bl b => cases h; exact ⟨_, rfl, .base (.bl b)⟩
  | int i => cases h; exact ⟨_, rfl, .base (.int i)⟩
  | str z => cases h; exact ⟨_, rfl, .base (.str _)⟩
  | tup ds =>
    refine ⟨_, rfl, ?_⟩
    cases h with
    | tup h1 _ _ => exact .base (.tup h1)
    | @tupK a vs _ h1 _ _ =>
      have h1 := h1 (fun _ => none)
      rw [B.hK] at h1
      rcases h1 with (h1 | ⟨_, h1⟩) | ⟨o, _, _, h1, h2, _⟩
      · cases h1
      · cases h1
      · exact .kTuple h1 h2
  | lst ds => cases h with | lst h1 _ _ => exact ⟨_, rfl, .base (.lst h1)⟩
  | scr ns =>
    refine ⟨_, rfl, ?_⟩
    cases h with
    | scr h1 _ =>
      rcases h1 with h1 | ⟨_, h1⟩
      · exact .base (.lst h1)
      · exact .base (.frz h1)
    | scrK h1 =>
      have h1 := h1 (fun _ => none)
      rw [B.hK] at h1
      rcases h1 with (h1 | ⟨_, h1⟩) | ⟨o, _, _, h1, h2, _⟩
      · cases h1
      · cases h1
      · exact .kList h1 h2
  | ref r =>
    cases h with
    | @ref a _ h1 =>
      simp only [MG.seenB] at q
      simp only [tyD]
      cases e : s.st[r]? with
      | none => rw [e] at q; cases q
      | some o =>
        rw [e] at q
        cases o with
        | lst ds =>
          obtain ⟨vs, h2, _⟩ := S.ob r a _ h1 e
          exact ⟨_, rfl, .base (.lst h2)⟩
        | ins c fs =>
          obtain ⟨C, dx, gs, h2, h3, _⟩ := S.ob r a _ h1 e
          have P := B.pl c C h2
          refine ⟨.ref C, by simp [h2], .base (.ins h3 P.cl P.ha P.hn P.htk P.hm)⟩
        | _ => cases q
  | gd n => simp [MG.seenB] at q
/-- isinstance(x, T) of a built-in type -/
theorem cv_isi {T : String} {g : MG.Store → MG.D → Bool} (hg : ∀ (st : MG.Store) (d : MG.D) (t : Value), tyD M st d = some t → PySem.W.kitOne X.K t (.type T) = some (g st d)) :
    CallR X (.builtin "isinstance") (fun xs H Q => ∃ m st d x, xs = [x, .ty T] ∧ Sim M ⟨m, st, H⟩ ∧ RD M ⟨m, st, H⟩ d x ∧ PV M ⟨m, st, H⟩ (MG.seen st d (g st d)) Q) := by
  intro pins s σ H xs us Q I r h
  obtain ⟨m, st, d, x, rfl, S, hd, q⟩ := h
  obtain ⟨c, q⟩ := PV.ite (s := ⟨m, st, H⟩) q
  obtain ⟨t, e, ty⟩ := tyD_ok B S hd c
  exact call_isi pins s σ H _ us Q I r ⟨x, .ty T, t, .type T, _, rfl, .ty T, ty, hg st d t e, PV.val (s := ⟨m, st, H⟩) q S (.bl _)⟩
theorem tyD_cls {st : MG.Store} {r : Nat} {t : Value} (h : tyD M st (.ref r) = some t) : (∃ ds, st[r]? = some (.lst ds) ∧ t = .type "list") ∨ ∃ c fs C, st[r]? = some (.ins c fs) ∧ M.cls c = some C ∧ t = .ref C ∧ PlainC X.K C := by
  simp only [tyD] at h
  cases e : st[r]? with
  | none => rw [e] at h; cases h
  | some o =>
    rw [e] at h
    cases o with
    | lst ds => cases h; exact .inl ⟨ds, rfl, rfl⟩
    | ins c fs =>
      simp only at h
      cases ec : M.cls c with
      | none => rw [ec] at h; cases h
      | some C => rw [ec] at h; cases h; exact .inr ⟨c, fs, C, rfl, ec, rfl, B.pl c C ec⟩
    | _ => cases h
theorem hg_int (st : MG.Store) (d : MG.D) (t : Value) (h : tyD M st d = some t) : PySem.W.kitOne X.K t (.type "int") = some (MG.isIntB d) := by
  cases d with
  | ref r =>
    rcases tyD_cls B h with ⟨_, _, rfl⟩ | ⟨_, _, C, _, _, rfl, P⟩
    · rfl
    · exact P.ki
  | gd n => cases h
  | _ => cases h; rfl
theorem hg_bool (st : MG.Store) (d : MG.D) (t : Value) (h : tyD M st d = some t) : PySem.W.kitOne X.K t (.type "bool") = some (MG.isBoolB d) := by
  cases d with
  | ref r =>
    rcases tyD_cls B h with ⟨_, _, rfl⟩ | ⟨_, _, C, _, _, rfl, P⟩
    · rfl
    · exact P.kb
  | gd n => cases h
  | _ => cases h; rfl
theorem hg_str (st : MG.Store) (d : MG.D) (t : Value) (h : tyD M st d = some t) : PySem.W.kitOne X.K t (.type "str") = some (MG.isStrB d) := by
  cases d with
  | ref r =>
    rcases tyD_cls B h with ⟨_, _, rfl⟩ | ⟨_, _, C, _, _, rfl, P⟩
    · rfl
    · exact P.ks
  | gd n => cases h
  | _ => cases h; rfl
theorem hg_tup (st : MG.Store) (d : MG.D) (t : Value) (h : tyD M st d = some t) : PySem.W.kitOne X.K t (.type "tuple") = some (MG.isTupB d) := by
  cases d with
  | ref r =>
    rcases tyD_cls B h with ⟨_, _, rfl⟩ | ⟨_, _, C, _, _, rfl, P⟩
    · rfl
    · exact P.kt
  | gd n => cases h
  | _ => cases h; rfl
theorem hg_lst (st : MG.Store) (d : MG.D) (t : Value) (h : tyD M st d = some t) : PySem.W.kitOne X.K t (.type "list") = some (MG.isLstB st d) := by
  cases d with
  | ref r =>
    rcases tyD_cls B h with ⟨_, e, rfl⟩ | ⟨_, _, C, e, _, rfl, P⟩
    · simp only [MG.isLstB, e]; rfl
    · simp only [MG.isLstB, e]; exact P.kl
  | gd n => cases h
  | _ => cases h; rfl

/-! ### methods of lists -/
theorem mv_append {own : Bool} : MtR X "list.append" (fun x xs H Q => rL M (MG.biV M.G own .append) (x :: xs) H Q) := by
  intro pins s σ H x xs v us Q I rx r h
  obtain ⟨m, st, ds, S, rd, q⟩ := h
  obtain ⟨d, e, x', y, rfl, ex, hd, he, q⟩ := PV.two (s := ⟨m, st, H⟩) q rd
  cases ex
  obtain ⟨k, l, a, vs, rfl, h1, h2, rfl, h3, rs, q⟩ := PV.objL (s := ⟨m, st, H⟩) S q hd
  obtain ⟨c, q⟩ := PV.ite (s := ⟨m, st, H⟩) q
  exact mt_append pins s σ H _ _ v us Q I rx r ⟨a, vs, y, rfl, rfl, h3, by rw [← rs.length]; exact c, PV.setL (s := ⟨m, st, H⟩) S h2 h1 q .non (rs.append (.cons he .nil))⟩
theorem mv_extend {own : Bool} : MtR X "list.extend" (fun x xs H Q => rL M (MG.biV M.G own .extend) (x :: xs) H Q) := by
  intro pins s σ H x xs v us Q I rx r h
  obtain ⟨m, st, ds, S, rd, q⟩ := h
  obtain ⟨d, e, x', y, rfl, ex, hd, he, q⟩ := PV.two (s := ⟨m, st, H⟩) q rd
  cases ex
  obtain ⟨k, l, a, vs, rfl, h1, h2, rfl, h3, rs, q⟩ := PV.objL (s := ⟨m, st, H⟩) S q hd
  obtain ⟨l2, b, ws, _, rfl, h4, rt, q⟩ := PV.onL (s := ⟨m, st, H⟩) S q he
  obtain ⟨c, q⟩ := PV.ite (s := ⟨m, st, H⟩) q
  exact mt_extend pins s σ H _ _ v us Q I rx r ⟨a, b, vs, ws, rfl, rfl, h3, h4, by rw [← rs.length, ← rt.length]; exact c, PV.setL (s := ⟨m, st, H⟩) S h2 h1 q .non (rs.append rt)⟩
theorem mv_pop {own : Bool} : MtR X "list.pop" (fun x xs H Q => rL M (MG.biV M.G own .pop) (x :: xs) H Q) := by
  intro pins s σ H x xs v us Q I rx r h
  obtain ⟨m, st, ds, S, rd, q⟩ := h
  obtain ⟨d, x', rfl, ex, hd, q⟩ := PV.one (s := ⟨m, st, H⟩) q rd
  cases ex
  obtain ⟨k, l, a, vs, rfl, h1, h2, rfl, h3, rs, q⟩ := PV.objL (s := ⟨m, st, H⟩) S q hd
  unfold MG.popL at q
  cases e : l.getLast? with
  | none => rw [e] at q; exact q.elim
  | some d =>
    rw [e] at q
    rw [List.getLast?_eq_getElem?, rs.length] at e
    obtain ⟨y, e1, rd⟩ := rs.get e
    exact mt_pop pins s σ H _ _ v us Q I rx r ⟨a, vs, y, rfl, rfl, h3, e1, PV.setL (s := ⟨m, st, H⟩) S h2 h1 q rd rs.dropLast⟩
theorem mv_popAt {own : Bool} : MtR X "list.pop" (fun x xs H Q => rL M (MG.biV M.G own .popAt) (x :: xs) H Q) := by
  intro pins s σ H x xs v us Q I rx r h
  obtain ⟨m, st, ds, S, rd, q⟩ := h
  obtain ⟨d, e, x', y, rfl, ex, hd, he, q⟩ := PV.two (s := ⟨m, st, H⟩) q rd
  cases ex
  obtain ⟨k, l, a, vs, rfl, h1, h2, rfl, h3, rs, q⟩ := PV.objL (s := ⟨m, st, H⟩) S q hd
  obtain ⟨i, rfl, rfl, q⟩ := PV.withI q he
  obtain ⟨c, q⟩ := PV.ite (s := ⟨m, st, H⟩) q
  unfold MG.popAtL at q
  cases ep : MG.place l.length i with
  | none => rw [ep] at q; exact q.elim
  | some j =>
    rw [ep] at q
    simp only at q
    cases el : l[j]? with
    | none => rw [el] at q; exact q.elim
    | some d =>
      rw [el] at q
      obtain ⟨y, e1, rd⟩ := rs.get el
      rw [place_eq, rs.length] at ep
      exact mt_popAt pins s σ H _ _ v us Q I rx r ⟨a, vs, i, j, y, rfl, rfl, h3, by have := c.1; omega, by have := c.2; omega, (ixN_seq ep).1, e1, PV.setL (s := ⟨m, st, H⟩) S h2 h1 q rd (rs.eraseIdx j)⟩
end
end MGS

set_option Elab.async false
set_option linter.all false
set_option maxRecDepth 100000
set_option maxHeartbeats 4000000
/-! Dicts' methods, stores by values. -/
namespace MGS
open PySem PySem.Spec PyProof.Rows L2
section
variable {X : Cx} {M : Mc} (B : BltOk M X)
include B
/-! ### d.get -/
theorem getL_ok (hu : X.A.units + 1 < cLine) {pins : List (Addr × Obj)} {s : Shared} {σ : L2.St} {m : List Addr} {st : MG.Store} {H : Hp} {Q : VK} {d x z : MG.D} {dv xv zv : V} {u uk : Value} (I : L2.Inv X pins σ H s) (S : Sim M ⟨m, st, H⟩)
    (hd : RD M ⟨m, st, H⟩ d dv) (hx : RD M ⟨m, st, H⟩ x xv) (hz : RD M ⟨m, st, H⟩ z zv) (ru : L2.RelV dv u) (rk : L2.RelV xv uk) (q : PV M ⟨m, st, H⟩ (MG.getL M.G st d x z) Q) {us : List Value} {w0 : Value} (rz : L2.RelV zv w0)
    (hus : (us = [u, uk] ∧ z = .non) ∨ us = [u, uk, w0]) : wpAny (model X.prog X.w) X.A (call (.builtin "dict.get") us) (EP X pins σ Q) X.xe s := by
  unfold MG.getL at q
  cases e : MG.dictAt M.G st d x with
  | none => rw [e] at q; exact q.elim
  | some kvs =>
    rw [e] at q
    obtain ⟨a, rfl, h3 | h3⟩ := dictAt_ok S hd hx e
    · obtain ⟨o, g, r⟩ := h3
      cases ru
      have qv := q.val S (r.getD hz)
      rcases hus with ⟨rfl, rfl⟩ | rfl
      · cases hz
        exact d_get1 hu I g rk fun w' s' I' rw' => ⟨_, H, I', rw', qv⟩
      · exact d_get2 hu I g rk rz fun w' s' I' rw' => ⟨_, H, I', rw', qv⟩
    · obtain ⟨n, t, rfl, rfl, rfl, ga⟩ := h3
      obtain ⟨⟨es, k, kd⟩, g⟩ := B.gd n a ga
      have g := g t
      cases hx
      obtain ⟨tt, rfl⟩ := rk
      cases ru
      have hm := PySem.W.mapOf_K (prog := X.prog) (w := X.w) I.kIn kd.at_ kd.lit
      have fin : ∃ v, Q v H ∧ L2.RelV v ((findBy Value.isStrOf es (sOf t)).getD w0) := by
        replace q : PV M ⟨m, st, H⟩ (.ok ((MG.dget (M.G.get n) (.str t)).getD z) st) Q := q
        cases eg : MG.dget (M.G.get n) (.str t) with
        | none =>
          rw [eg] at q g
          rw [PySem.W.find_K kd.at_ g]
          exact ⟨zv, PV.val (s := ⟨m, st, H⟩) q S hz, rz⟩
        | some d' =>
          rw [eg] at q g
          obtain ⟨u', v', g1, g2, g3⟩ := g
          rw [PySem.W.find_K kd.at_ g1]
          exact ⟨v', PV.val (s := ⟨m, st, H⟩) q S (g3 _), g2⟩
      obtain ⟨v, qv, rv⟩ := fin
      rcases hus with ⟨rfl, rfl⟩ | rfl
      · cases hz
        cases rz
        exact call_meetsIn PySem.F.slot_dict_get hm.typeIs PySem.F.entry_dict_get (PySem.F.args_dict_get_2 _ _) (meets_dict_get (strKind X.prog X.w) a (strKind_is X.prog X.w (sOf t) tt) kd.low) ⟨_, hm, v, H, I.tok _, rv, qv⟩
      · exact call_meetsIn PySem.F.slot_dict_get hm.typeIs PySem.F.entry_dict_get (PySem.F.args_dict_get_3 _ _ _) (meets_dict_get_default (strKind X.prog X.w) a (strKind_is X.prog X.w (sOf t) tt) kd.low w0) ⟨_, hm, v, H, I.tok _, rv, qv⟩
theorem mv_get1 {own : Bool} (hu : X.A.units + 1 < cLine) : MtR X "dict.get" (fun x xs H Q => rL M (MG.biV M.G own .get1) (x :: xs) H Q) := by
  intro pins s σ H x xs v us Q I rx r h
  obtain ⟨m, st, ds, S, rd, q⟩ := h
  obtain ⟨d, e, x', y, rfl, ex, hd, he, q⟩ := PV.two (s := ⟨m, st, H⟩) q rd
  cases ex
  obtain ⟨u1, rfl, ru⟩ := vals1 r
  exact getL_ok B hu I S hd he .non rx ru q (w0 := .none) rfl (.inl ⟨rfl, rfl⟩)
theorem mv_get2 {own : Bool} (hu : X.A.units + 1 < cLine) : MtR X "dict.get" (fun x xs H Q => rL M (MG.biV M.G own .get2) (x :: xs) H Q) := by
  intro pins s σ H x xs v us Q I rx r h
  obtain ⟨m, st, ds, S, rd, q⟩ := h
  obtain ⟨d, e, f, x', y, z, rfl, ex, hd, he, hf, q⟩ := PV.three (s := ⟨m, st, H⟩) q rd
  cases ex
  obtain ⟨u1, u2, rfl, ru, rw'⟩ := vals2 r
  exact getL_ok B hu I S hd he hf rx ru q rw' (.inr rfl)
/-! ### d.update(e) -/
omit B in
theorem idx_ne {l : List Addr} (hN : l.Nodup) {i j : Nat} {x y : Addr} (a : l[i]? = some x) (b : l[j]? = some y) (h : i ≠ j) : x ≠ y := fun e => by
  subst e
  obtain ⟨h1, e1⟩ := List.getElem?_eq_some_iff.mp a
  obtain ⟨h2, e2⟩ := List.getElem?_eq_some_iff.mp b
  exact h ((List.getElem_inj hN).mp (e1.trans e2.symm))
theorem mv_upd {own : Bool} : MtR X "dict.update" (fun x xs H Q => rL M (MG.biV M.G own .upd) (x :: xs) H Q) := by
  intro pins s σ H x xs v us Q I rx r h
  obtain ⟨m, st, ds, S, rd, q⟩ := h
  obtain ⟨d, e, x', y, rfl, ex, hd, he, q⟩ := PV.two (s := ⟨m, st, H⟩) q rd
  cases ex
  obtain ⟨u1, rfl, ru⟩ := vals1 r
  cases d with
  | ref i =>
    cases e with
    | ref j =>
      cases hd with
      | @ref a _ h1 =>
      cases he with
      | @ref b _ h2 =>
      simp only [MG.updL] at q
      cases e1 : st[i]? with
      | none => rw [e1] at q; exact q.elim
      | some o1 =>
        rw [e1] at q
        cases e2 : st[j]? with
        | none => rw [e2] at q; cases o1 <;> exact q.elim
        | some o2 =>
          rw [e2] at q
          cases o1 with
          | dK kvs =>
            cases o2 with
            | dK new =>
              obtain ⟨⟨hne, hl⟩, q⟩ := PV.ite (s := ⟨m, st, H⟩) q
              obtain ⟨q1, g1, k1⟩ := S.ob i a _ h1 e1
              obtain ⟨q2, g2, k2⟩ := S.ob j b _ h2 e2
              cases rx
              cases ru
              have hab : a ≠ b := idx_ne S.nd h1 h2 hne
              obtain ⟨z1, hs1, vs1, rel1, dd1⟩ := dk_of I.hok g1
              obtain ⟨z2, hs2, vs2, rel2, dd2⟩ := dk_of I.hok g2
              have l1 := k1.length
              have l2 := k2.length
              have n1 := rel1.length
              have n2 := rel2.length
              refine call_meetsIn PySem.F.slot_dict_update dd1.typeIs PySem.F.entry_dict_update (PySem.F.args_dict_update_2 _ _) (meets_dict_update (mixKind X.prog X.w) a b hab hs2) ⟨vs1, vs2, dd1, dd2, by rw [sizeLine_eq]; omega, fun h' dd1' dd2' sb => ?_⟩
              have T : Step ⟨m, st, H⟩ ⟨m, st.set i (.dK (MG.dputAll kvs new)), upd H a (.dK (mergeK q1 q2))⟩ := set_step S h1 e1 (by simp)
              have lm : (mergeK q1 q2).length ≤ sizeLine := by
                have := length_mergeK q2 q1
                rw [sizeLine_eq]
                omega
              have he : ∃ z, h'.get? a = some z := let ⟨z, _, _, hz, _⟩ := dd1'; ⟨z, hz⟩
              refine ⟨.non, _, d_write I (by rw [show H a = some (.dK q1) from g1]; exact True.intro) sb he (dk_new lm hs1 (rel2.merge rel1) dd1'), rfl, ?_⟩
              exact q m _ _ (set_sim S h1 e1 (by simp) ⟨_, upd_same, (k2.step T).merge (k1.step T)⟩) T .non
            | _ => exact q.elim
          | _ => cases o2 <;> exact q.elim
    | _ => exact q.elim
  | _ => cases e <;> exact q.elim

/-! ### o[i] = v -/
theorem sv_idx (hu : X.A.units + 1 < cLine) : PSet X (fun o i v H Q => ∃ m st d e w st', Sim M ⟨m, st, H⟩ ∧ RD M ⟨m, st, H⟩ d o ∧ RD M ⟨m, st, H⟩ e i ∧ RD M ⟨m, st, H⟩ w v ∧ MG.setIdx M.G st d e w = some st' ∧
    ∀ m' H', Sim M ⟨m', st', H'⟩ → Step ⟨m, st, H⟩ ⟨m', st', H'⟩ → Q H') := by
  intro pins s σ H o i v ov iv u Q I ro ri rv h
  obtain ⟨m, st, d, e, w, st', S, hd, he, hw, hs, q⟩ := h
  cases d with
  | ref k =>
    cases hd with
    | @ref a _ h1 =>
    cases ro
    simp only [MG.setIdx] at hs
    cases e1 : st[k]? with
    | none => rw [e1] at hs; cases hs
    | some ob =>
      rw [e1] at hs
      cases ob with
      | lst ds =>
        simp only at hs
        cases e with
        | int j =>
          cases he
          obtain ⟨vs, g, rs⟩ := S.ob k a _ h1 e1
          simp only at hs
          cases ep : MG.place ds.length j with
          | none => rw [ep] at hs; cases hs
          | some p =>
            rw [ep] at hs
            cases hs
            rw [place_eq, rs.length] at ep
            have T : Step ⟨m, st, H⟩ ⟨m, st.set k (.lst (ds.set p w)), upd H a (.lst (vs.set p v))⟩ := set_step S h1 e1 (by simp)
            exact set_list pins s σ H (V.ref a) _ v _ iv u Q I rfl ri rv ⟨a, vs, j, p, rfl, rfl, g, ep, q m _ (set_sim S h1 e1 (by simp) ⟨_, upd_same, (RDs.set hw p rs).step T⟩) T⟩
        | _ => cases hs
      | dK kvs =>
        simp only at hs
        by_cases c : (MG.keyK e && decide (kvs.length < 100000)) = true
        · rw [if_pos c] at hs
          cases hs
          rw [Bool.and_eq_true] at c
          obtain ⟨κ, ek⟩ := keyK_of c.1
          have ei := keyK_v ek he
          subst ei
          obtain ⟨qs, g, rs⟩ := S.ob k a _ h1 e1
          have T : Step ⟨m, st, H⟩ ⟨m, st.set k (.dK (MG.dput kvs e w)), upd H a (.dK (putK qs κ v))⟩ := set_step S h1 e1 (by simp)
          refine set_dict hu pins s σ H (V.ref a) _ v _ iv u Q I rfl ri rv ⟨a, _, rfl, DPut.k g ?_, q m _ (set_sim S h1 e1 (by simp) ⟨_, upd_same, (RKV.put ek hw rs).step T⟩) T⟩
          have := of_decide_eq_true c.2
          rw [rs.length, sizeLine_eq]
          omega
        · rw [if_neg c] at hs; cases hs
      | dT kvs =>
        simp only at hs
        by_cases c : (MG.keyT M.G e && decide (kvs.length < 100000)) = true
        · rw [if_pos c] at hs
          cases hs
          rw [Bool.and_eq_true] at c
          obtain ⟨b, κ, ek, rfl, hb⟩ := keyT_of c.1 he
          obtain ⟨qs, g, rs⟩ := S.ob k a _ h1 e1
          have T : Step ⟨m, st, H⟩ ⟨m, st.set k (.dT (MG.dput kvs e w)), upd H a (.dT (putK qs κ v))⟩ := set_step S h1 e1 (by simp)
          refine set_dict hu pins s σ H (V.ref a) _ v _ iv u Q I rfl ri rv ⟨a, _, rfl, DPut.t g hb ?_, q m _ (set_sim S h1 e1 (by simp) ⟨_, upd_same, (RTV.put ek hw rs).step T⟩) T⟩
          have := of_decide_eq_true c.2
          rw [rs.length, sizeLine_eq]
          omega
        · rw [if_neg c] at hs; cases hs
      | _ => cases hs
  | _ => simp [MG.setIdx] at hs
end
end MGS

set_option Elab.async false
set_option linter.all false
set_option maxRecDepth 100000
set_option maxHeartbeats 4000000
/-! list(zip(t, u)) of two tuples. -/
namespace MGZ
open PySem
section
variable {prog : Program} {w : World} {A : Around} {E : Value → Shared → Prop} {s : Shared}
/-- a pair is drawn while the last one is held -/
theorem item_held {z TI TO T i1 i2 l1 l2 : Addr} {f : Bool} {oT : Obj} {k1 k2 : Nat} {xs ys : Array Value} {x y : Value} {Q : Option Value → Shared → Prop} (D : ZipApart z TI TO i1 i2 l1 l2)
    (hz : IsZipHeld s.heap z TI TO T f) (hT : s.heap.get? T = some oT) (hTI : IsPair s.heap TI (.ref i1) (.ref i2))
    (h1 : s.heap.IsTupleIter i1 l1 k1) (h2 : s.heap.IsTupleIter i2 l2 k2) (hl1 : s.heap.IsTuple l1 xs) (hl2 : s.heap.IsTuple l2 ys) (hx : xs[k1]? = some x) (hy : ys[k2]? = some y)
    (hQ : ∀ h', IsZipHeld h' z TI TO T true → h'.IsTupleIter i1 l1 (k1 + 1) → h'.IsTupleIter i2 l2 (k2 + 1) → IsPair h' s.heap.objs.size x y → h'.objs.size = s.heap.objs.size + 1 →
      (∀ c o, c ≠ z → c ≠ i1 → c ≠ i2 → s.heap.get? c = some o → h'.get? c = some o) → Q (some (.ref s.heap.objs.size)) { s with heap := h' }) :
    wpAny (model prog w) A (pyNext (.ref z)) Q E s := by
  have hTy : s.TypeIs (.ref z) "zip" := ⟨_, hz, rfl⟩
  unfold pyNext
  refine wpAny_bind (wpAny_attempt (wpAny_callSpecial?_slot (name := Str.ofString "__next__") hTy F.slot_zip_next (wpAny_call_entry F.slot_zip_next hTy F.entry_zip_next ?_ (F.args_zip_next_1 _))))
  show wpAny _ _ (field (.ref z) 2 >>= _) _ _ _
  refine wpAny_bind (wpAny_field hz rfl (x := .bool false) rfl ?_)
  show wpAny _ _ (field (.ref z) 3 >>= _) _ _ _
  refine wpAny_bind (wpAny_field hz rfl (x := .ref TI) rfl ?_)
  refine wpAny_bind (wpAny_seqItems hTI rfl ?_)
  show wpAny _ _ (Builtin.SmallTypes.ownedTupleIsFree (.ref z) >>= _) _ _ _
  refine wpAny_bind (wpAny_tupleHeld_zip hz hT fun g1 hz1 e1 => ?_)
  simp only [Bool.false_eq_true, if_false]
  refine wpAny_bind ?_
  rw [← Array.forIn_toList]
  simp only [List.forIn_cons, List.forIn_nil]
  refine wpAny_bind (wpAny_bind (wpAny_holding ?_))
  show wpAny _ _ (Builtin.SmallTypes.nextOf (.ref i1) >>= _) _ _ _
  have a1 : g1.IsTupleIter i1 l1 k1 := h1.at fun o e => e1.extBut _ _ D.i1z e
  have b1 : g1.IsTuple l1 xs := hl1.at fun o e => e1.extBut _ _ D.l1z e
  refine wpAny_bind (RZ.nextOf_tuple_item (s := { s with heap := g1 }) a1 b1 hx fun g2 j1 e2 => wpAny_pure ?_)
  refine wpAny_pure ?_
  refine wpAny_bind (wpAny_bind (wpAny_holding ?_))
  show wpAny _ _ (Builtin.SmallTypes.nextOf (.ref i2) >>= _) _ _ _
  have a2 : g2.IsTupleIter i2 l2 k2 := h2.at fun o e => e2.extBut _ _ D.i12.symm (e1.extBut _ _ D.i2z e)
  have b2 : g2.IsTuple l2 ys := hl2.at fun o e => e2.extBut _ _ D.l2i1 (e1.extBut _ _ D.l2z e)
  refine wpAny_bind (RZ.nextOf_tuple_item (s := { s with heap := g2 }) a2 b2 hy fun g3 j2 e3 => wpAny_pure ?_)
  refine wpAny_pure (wpAny_pure ?_)
  show wpAny _ _ (newTuple [x, y] >>= _) _ _ _
  refine wpAny_bind (wpAny_newTuple ?_)
  have hsz : g3.objs.size = s.heap.objs.size := by rw [e3.1, e2.1, e1.1]
  have z3 : IsZipHeld g3 z TI TO T true := e3.extBut _ _ D.i2z.symm (e2.extBut _ _ D.i1z.symm hz1)
  have kk : ∀ c o, c ≠ z → c ≠ i1 → c ≠ i2 → s.heap.get? c = some o → g3.get? c = some o := fun c o c1 c2 c3 e => e3.extBut _ _ c3 (e2.extBut _ _ c2 (e1.extBut _ _ c1 e))
  have j3 : g3.IsTupleIter i1 l1 (k1 + 1) := j1.at fun o e => e3.extBut _ _ D.i12 e
  refine wpAny_pure ⟨_, rfl, wpAny_pure ?_⟩
  show Q (some (.ref g3.objs.size)) _
  have hp : IsPair (g3.push { cls := .type "tuple", data := .seq #[x, y] }) g3.objs.size x y := Heap.get?_push_size _ rfl
  have hz4 : (g3.push { cls := .type "tuple", data := .seq #[x, y] }).objs.size = g3.objs.size + 1 := Heap.size_push ..
  rw [hsz] at hp hz4 ⊢
  exact hQ _ (Heap.get?_push_of_some _ z3) (j3.at fun o e => Heap.get?_push_of_some _ e) (j2.at fun o e => Heap.get?_push_of_some _ e) hp hz4 fun c o c1 c2 c3 e => Heap.get?_push_of_some _ (kk c o c1 c2 c3 e)
/-- the end, while the last one is held -/
theorem end_held {z TI TO T i1 i2 l1 l2 : Addr} {f : Bool} {oT : Obj} {k1 k2 : Nat} {xs ys : Array Value} {Q : Option Value → Shared → Prop} (hh : A.handled = none) (D : ZipApart z TI TO i1 i2 l1 l2)
    (hz : IsZipHeld s.heap z TI TO T f) (hT : s.heap.get? T = some oT) (hTI : IsPair s.heap TI (.ref i1) (.ref i2))
    (h1 : s.heap.IsTupleIter i1 l1 k1) (h2 : s.heap.IsTupleIter i2 l2 k2) (hl1 : s.heap.IsTuple l1 xs) (hl2 : s.heap.IsTuple l2 ys) (hend : xs[k1]? = none ∨ ys[k2]? = none)
    (hQ : ∀ h', (∀ c o, c ≠ z → c ≠ i1 → c ≠ i2 → s.heap.get? c = some o → h'.get? c = some o) → Q none { s with heap := h' }) : wpAny (model prog w) A (pyNext (.ref z)) Q E s := by
  have hTy : s.TypeIs (.ref z) "zip" := ⟨_, hz, rfl⟩
  have stop : ∀ (h' : Heap) (e : Addr), (∀ c o, c ≠ z → c ≠ i1 → c ≠ i2 → s.heap.get? c = some o → h'.get? c = some o) → (∃ o, h'.get? e = some o ∧ o.cls = .type "StopIteration") →
      wpAny (model prog w) A (do if ← isInstance (.ref e) (.type "StopIteration") then return none else throw (.ref e)) Q E { s with heap := h' } := by
    intro h' e hk ⟨o, ho, hc⟩
    refine wpAny_bind (wpAny_isInstance (T := "StopIteration") (b := true) ⟨o, ho, hc⟩ isSubtype_stop ?_)
    exact wpAny_pure (hQ _ hk)
  unfold pyNext
  refine wpAny_bind (wpAny_attempt (wpAny_callSpecial?_slot (name := Str.ofString "__next__") hTy F.slot_zip_next (wpAny_call_entry F.slot_zip_next hTy F.entry_zip_next ?_ (F.args_zip_next_1 _))))
  show wpAny _ _ (field (.ref z) 2 >>= _) _ _ _
  refine wpAny_bind (wpAny_field hz rfl (x := .bool false) rfl ?_)
  show wpAny _ _ (field (.ref z) 3 >>= _) _ _ _
  refine wpAny_bind (wpAny_field hz rfl (x := .ref TI) rfl ?_)
  refine wpAny_bind (wpAny_seqItems hTI rfl ?_)
  show wpAny _ _ (Builtin.SmallTypes.ownedTupleIsFree (.ref z) >>= _) _ _ _
  refine wpAny_bind (wpAny_tupleHeld_zip hz hT fun g1 hz1 e1 => ?_)
  simp only [Bool.false_eq_true, if_false]
  refine wpAny_bind ?_
  rw [← Array.forIn_toList]
  simp only [List.forIn_cons, List.forIn_nil]
  refine wpAny_bind (wpAny_bind (wpAny_holding ?_))
  show wpAny _ _ (Builtin.SmallTypes.nextOf (.ref i1) >>= _) _ _ _
  have a1 : g1.IsTupleIter i1 l1 k1 := h1.at fun o e => e1.extBut _ _ D.i1z e
  have b1 : g1.IsTuple l1 xs := hl1.at fun o e => e1.extBut _ _ D.l1z e
  cases hx : xs[k1]? with
  | none =>
    refine wpAny_bind (RZ.nextOf_tuple_end (s := { s with heap := g1 }) hh a1 b1 hx fun g2 e e2 he => ?_)
    exact stop g2 e (fun c o c1 c2 _ q => e2 _ _ c2 (e1.extBut _ _ c1 q)) he
  | some x =>
    have hy : ys[k2]? = none := by
      rcases hend with h | h
      · rw [hx] at h; cases h
      · exact h
    refine wpAny_bind (RZ.nextOf_tuple_item (s := { s with heap := g1 }) a1 b1 hx fun g2 j1 e2 => wpAny_pure ?_)
    refine wpAny_pure ?_
    refine wpAny_bind (wpAny_bind (wpAny_holding ?_))
    show wpAny _ _ (Builtin.SmallTypes.nextOf (.ref i2) >>= _) _ _ _
    have a2 : g2.IsTupleIter i2 l2 k2 := h2.at fun o e => e2.extBut _ _ D.i12.symm (e1.extBut _ _ D.i2z e)
    have b2 : g2.IsTuple l2 ys := hl2.at fun o e => e2.extBut _ _ D.l2i1 (e1.extBut _ _ D.l2z e)
    refine wpAny_bind (RZ.nextOf_tuple_end (s := { s with heap := g2 }) hh a2 b2 hy fun g3 e e3 he => ?_)
    exact stop g3 e (fun c o c1 c2 c3 q => e3 _ _ c3 (e2.extBut _ _ c2 (e1.extBut _ _ c1 q))) he

/-- the state of the zip at z ahead of the i-th pair; S: the list that is filled -/
structure ZSt (h : Heap) (z TI TO i1 i2 l1 l2 S : Addr) (xs ys : Array Value) (b0 i : Nat) (acc : Array Value) (c : Nat) : Prop where
  ti : IsPair h TI (.ref i1) (.ref i2)
  h1 : h.IsTupleIter i1 l1 i
  h2 : h.IsTupleIter i2 l2 i
  l1 : h.IsTuple l1 xs
  l2 : h.IsTuple l2 ys
  zz : (IsZip h z TI TO .none ∧ ∃ a b, IsPair h TO a b) ∨ ∃ T f oT, IsZipHeld h z TI TO T f ∧ h.get? T = some oT ∧ b0 ≤ T
  ls : h.get? S = some { cls := .type "list", dict := none, data := .seq acc c, slots := #[] }
  sz : b0 ≤ h.objs.size
  len : acc.size = i
  ps : ∀ (j : Nat) (v : Value), acc[j]? = some v → ∃ T x y, v = .ref T ∧ b0 ≤ T ∧ xs[j]? = some x ∧ ys[j]? = some y ∧ IsPair h T x y

structure Off (z TI TO i1 i2 l1 l2 S b0 : Nat) : Prop where
  sz : S ≠ z
  sTI : S ≠ TI
  sTO : S ≠ TO
  s1 : S ≠ i1
  s2 : S ≠ i2
  sl1 : S ≠ l1
  sl2 : S ≠ l2
  lz : z < b0
  lTO : TO < b0
  l1 : i1 < b0
  l2 : i2 < b0
  lS : S < b0
theorem loop {R : Result → Shared → Prop} {z TI TO i1 i2 l1 l2 S b0 : Addr} {xs ys : Array Value} {res : Value} (hh : A.handled = none) (D : ZipApart z TI TO i1 i2 l1 l2) (O : Off z TI TO i1 i2 l1 l2 S b0) (hn : min xs.size ys.size ≤ sizeLine) :
    ∀ (k i : Nat) (s : Shared) (acc : Array Value) (c : Nat), min xs.size ys.size - i = k → i ≤ min xs.size ys.size → ZSt s.heap z TI TO i1 i2 l1 l2 S xs ys b0 i acc c →
    (∀ h' acc' c', (∀ b o, b < b0 → b ≠ z → b ≠ TO → b ≠ i1 → b ≠ i2 → b ≠ S → s.heap.get? b = some o → h'.get? b = some o) → h'.get? S = some { cls := .type "list", dict := none, data := .seq acc' c', slots := #[] } →
      acc'.size = min xs.size ys.size → (∀ (j : Nat) (v : Value), acc'[j]? = some v → ∃ T x y, v = .ref T ∧ b0 ≤ T ∧ xs[j]? = some x ∧ ys[j]? = some y ∧ IsPair h' T x y) → R (.ok (.ret res)) { s with heap := h' }) →
    codeAny (model prog w) A (.builtin "list.extend.loop" ⟨[.ref S, .ref z, res], []⟩) R s := by
  intro k
  have big : ∀ {T : Addr}, b0 ≤ T → T ≠ z ∧ T ≠ TO ∧ T ≠ i1 ∧ T ≠ i2 ∧ T ≠ S := fun {T} h =>
    ⟨Nat.ne_of_gt (Nat.lt_of_lt_of_le O.lz h), Nat.ne_of_gt (Nat.lt_of_lt_of_le O.lTO h), Nat.ne_of_gt (Nat.lt_of_lt_of_le O.l1 h), Nat.ne_of_gt (Nat.lt_of_lt_of_le O.l2 h), Nat.ne_of_gt (Nat.lt_of_lt_of_le O.lS h)⟩
  induction k with
  | zero =>
    intro i s acc c hk hi Z hR
    have hin : i = min xs.size ys.size := by omega
    have hend : xs[i]? = none ∨ ys[i]? = none := by
      rcases Nat.le_total xs.size ys.size with h | h
      · exact .inl (Array.getElem?_eq_none (by omega))
      · exact .inr (Array.getElem?_eq_none (by omega))
    refine codeAny_builtin F.entry_extend_loop ?_
    rw [Around.under_plainId F.plain_extend_loop _]
    show wpAny _ A.in1 (pyNext (.ref z) >>= _) _ _ s
    rcases Z.zz with ⟨hz, a, b, hTO⟩ | ⟨T, f, oT, hz, hT, bT⟩
    · refine wpAny_bind (RZ.pyNext_zipT_end hh D hz Z.ti hTO Z.h1 Z.h2 Z.l1 Z.l2 hend fun h' hk' => wpAny_pure ?_)
      refine hR h' acc c (fun b o _ c1 c2 c3 c4 _ e => hk' b o c1 c2 c3 c4 e) (hk' _ _ O.sz O.sTO O.s1 O.s2 Z.ls) (by rw [Z.len, hin]) fun j v e => ?_
      obtain ⟨T, x, y, e1, e2, e3, e4, e5⟩ := Z.ps j v e
      have g := big e2
      exact ⟨T, x, y, e1, e2, e3, e4, hk' _ _ g.1 g.2.1 g.2.2.1 g.2.2.2.1 e5⟩
    · refine wpAny_bind (end_held hh D hz hT Z.ti Z.h1 Z.h2 Z.l1 Z.l2 hend fun h' hk' => wpAny_pure ?_)
      refine hR h' acc c (fun b o _ c1 _ c3 c4 _ e => hk' b o c1 c3 c4 e) (hk' _ _ O.sz O.s1 O.s2 Z.ls) (by rw [Z.len, hin]) fun j v e => ?_
      obtain ⟨T, x, y, e1, e2, e3, e4, e5⟩ := Z.ps j v e
      have g := big e2
      exact ⟨T, x, y, e1, e2, e3, e4, hk' _ _ g.1 g.2.2.1 g.2.2.2.1 e5⟩
  | succ k ih =>
    intro i s acc c hk hi Z hR
    have hlt : i < min xs.size ys.size := by omega
    have ex := Array.getElem?_eq_getElem (show i < xs.size by omega)
    have ey := Array.getElem?_eq_getElem (show i < ys.size by omega)
    -- what is done with the new pair
    have rest : ∀ h1 : Heap, IsPair h1 s.heap.objs.size xs[i] ys[i] → h1.objs.size = s.heap.objs.size + 1 → h1.IsTupleIter i1 l1 (i + 1) → h1.IsTupleIter i2 l2 (i + 1) →
        (∃ T f oT, IsZipHeld h1 z TI TO T f ∧ h1.get? T = some oT ∧ b0 ≤ T) → (∀ b o, b ≠ z → b ≠ TO → b ≠ i1 → b ≠ i2 → s.heap.get? b = some o → h1.get? b = some o) →
        wpAny (model prog w) A.in1 (updateSeq S (·.push (.ref s.heap.objs.size)) >>= fun _ => (pure (.again (.builtin "list.extend.loop" ⟨[.ref S, .ref z, res], []⟩)) : Sem Fin))
          (fun fin s' => match fin with | .done f => R (.ok f) s' | .again c' => c'.quiet = true ∧ codeAny (model prog w) A c' R s') (fun e s' => R (.error e) s') { s with heap := h1 } := by
      intro h1 hp hs j1 j2 ⟨T, f, oT, hz, hT, bT⟩ hk1
      have hS1 := hk1 _ _ O.sz O.sTO O.s1 O.s2 Z.ls
      refine wpAny_bind (wpAny_updateSeq hS1 rfl (wpAny_pure ⟨plainId_quiet F.plain_extend_loop _, ?_⟩) (by rw [Z.len]; omega) (by show (acc.push _).size ≤ sizeLine + 1; rw [Array.size_push, Z.len]; omega))
      have up : ∀ b o, b ≠ S → h1.get? b = some o → (h1.update S (Obj.mapSeq (·.push (.ref s.heap.objs.size)))).get? b = some o := fun b o hb e => (Heap.get?_update_other _ _ (Ne.symm hb)).trans e
      have bT' := big bT
      have b0s : b0 ≤ s.heap.objs.size := Z.sz
      have bn := big b0s
      obtain ⟨c2, hS2⟩ : ∃ c2, (h1.update S (Obj.mapSeq (·.push (.ref s.heap.objs.size)))).get? S = some { cls := .type "list", dict := none, data := .seq (acc.push (.ref s.heap.objs.size)) c2, slots := #[] } := ⟨_, Heap.get?_update_self _ hS1 rfl⟩
      refine ih (i + 1) _ (acc.push (.ref s.heap.objs.size)) c2 (by omega) hlt ?_ fun h' acc' c' k1 k2 k3 k4 => ?_
      · refine ⟨up _ _ (Ne.symm O.sTI) (hk1 _ _ D.TIz D.TITO D.TIi1 D.TIi2 Z.ti), j1.at fun o e => up _ _ (Ne.symm O.s1) e, j2.at fun o e => up _ _ (Ne.symm O.s2) e, Z.l1.at fun o e => up _ _ (Ne.symm O.sl1) (hk1 _ _ D.l1z D.l1TO D.l1i1 D.l1i2 e),
          Z.l2.at fun o e => up _ _ (Ne.symm O.sl2) (hk1 _ _ D.l2z D.l2TO D.l2i1 D.l2i2 e), .inr ⟨T, f, oT, up _ _ (Ne.symm O.sz) hz, up _ _ bT'.2.2.2.2 hT, bT⟩, hS2, ?_, by rw [Array.size_push, Z.len], fun j v e => ?_⟩
        · have : (h1.update S (Obj.mapSeq (·.push (Value.ref s.heap.objs.size)))).objs.size = h1.objs.size := (Heap.SameBut.update (f := Obj.mapSeq (·.push (Value.ref s.heap.objs.size))) ..).1
          show b0 ≤ (h1.update S (Obj.mapSeq (·.push (Value.ref s.heap.objs.size)))).objs.size
          rw [this, hs]
          exact Nat.le_succ_of_le b0s
        · rw [Array.getElem?_push] at e
          by_cases hj : j = acc.size
          · rw [if_pos hj] at e
            cases e
            rw [hj, Z.len]
            exact ⟨_, _, _, rfl, b0s, ex, ey, up _ _ bn.2.2.2.2 hp⟩
          · rw [if_neg hj] at e
            obtain ⟨T', x, y, e1, e2, e3, e4, e5⟩ := Z.ps j v e
            have g := big e2
            exact ⟨T', x, y, e1, e2, e3, e4, up _ _ g.2.2.2.2 (hk1 _ _ g.1 g.2.1 g.2.2.1 g.2.2.2.1 e5)⟩
      · exact hR h' acc' c' (fun b o b1 c1 c2 c3 c4 c5 e => k1 b o b1 c1 c2 c3 c4 c5 (up b o c5 (hk1 b o c1 c2 c3 c4 e))) k2 k3 k4
    refine codeAny_builtin F.entry_extend_loop ?_
    rw [Around.under_plainId F.plain_extend_loop _]
    show wpAny _ A.in1 (pyNext (.ref z) >>= _) _ _ s
    rcases Z.zz with ⟨hz, a, b, hTO⟩ | ⟨T, f, oT, hz, hT, bT⟩
    · refine wpAny_bind (RZ.pyNext_zipT_item D hz Z.ti hTO Z.h1 Z.h2 Z.l1 Z.l2 ex ey fun h' a1 a2 a3 a4 a5 a6 a7 => ?_)
      exact rest h' a5 a6 a3 a4 ⟨_, false, _, a1, a5, Z.sz⟩ a7
    · refine wpAny_bind (item_held D hz hT Z.ti Z.h1 Z.h2 Z.l1 Z.l2 ex ey fun h' a1 a3 a4 a5 a6 a7 => ?_)
      have g := big bT
      exact rest h' a5 a6 a3 a4 ⟨T, true, oT, a1, a7 _ _ g.1 g.2.2.1 g.2.2.2.1 hT, bT⟩ fun b o c1 _ c3 c4 e => a7 b o c1 c3 c4 e

theorem zip_no_len : typeLookup (.type "zip") "__len__" = pure none := by rw [typeLookup_type, builtinLookup_eq_fast]; kernel_rfl
theorem zip_no_hint : typeLookup (.type "zip") "__length_hint__" = pure none := by rw [typeLookup_type, builtinLookup_eq_fast]; kernel_rfl
/-- list(z), z a zip of two tuples that was just made -/
theorem call_list_zip {z TI TO i1 i2 l1 l2 : Addr} {xs ys : Array Value} {a b : Value} {Q : Value → Shared → Prop} (hh : A.handled = none) (D : ZipApart z TI TO i1 i2 l1 l2) (hz : IsZip s.heap z TI TO .none) (hTI : IsPair s.heap TI (.ref i1) (.ref i2)) (hTO : IsPair s.heap TO a b)
    (h1 : s.heap.IsTupleIter i1 l1 0) (h2 : s.heap.IsTupleIter i2 l2 0) (hl1 : s.heap.IsTuple l1 xs) (hl2 : s.heap.IsTuple l2 ys) (hn : min xs.size ys.size ≤ sizeLine)
    (hQ : ∀ h' acc' c', (∀ b o, b ≠ z → b ≠ TO → b ≠ i1 → b ≠ i2 → s.heap.get? b = some o → h'.get? b = some o) → h'.get? s.heap.objs.size = some { cls := .type "list", dict := none, data := .seq acc' c', slots := #[] } →
      acc'.size = min xs.size ys.size → (∀ (j : Nat) (v : Value), acc'[j]? = some v → ∃ T x y, v = .ref T ∧ s.heap.objs.size + 1 ≤ T ∧ xs[j]? = some x ∧ ys[j]? = some y ∧ IsPair h' T x y) → Q (.ref s.heap.objs.size) { s with heap := h' }) :
    wpAny (model prog w) A (call (.type "list") [.ref z]) Q E s := by
  refine callType_codes (Q₁ := fun obj s₁ => obj = .ref s.heap.objs.size ∧ s₁ = { s with heap := s.heap.push { cls := .type "list", data := .seq #[] } }) PySem.F.called_list (PySem.F.typeCall_list_1 _) PySem.F.entry_list_init
    (code_list_new _ ⟨rfl, rfl⟩) fun obj s₁ h₁ => ?_
  obtain ⟨rfl, rfl⟩ := h₁
  have hS : (s.heap.push { cls := .type "list", data := .seq #[] }).get? s.heap.objs.size = some { cls := .type "list", data := .seq #[] } := Heap.get?_push_size _ rfl
  refine ⟨⟨_, hS, rfl⟩, PySem.F.args_list_init_2 _ _, ?_⟩
  have lt : ∀ {c : Addr} {o : Obj}, s.heap.get? c = some o → s.heap.objs.size ≠ c := fun e => Nat.ne_of_gt (Heap.lt_size e)
  have o1 : ∃ o, s.heap.get? i1 = some o := let ⟨o, e, _⟩ := h1; ⟨o, e⟩
  have o2 : ∃ o, s.heap.get? i2 = some o := let ⟨o, e, _⟩ := h2; ⟨o, e⟩
  have p1 : ∃ o, s.heap.get? l1 = some o := let ⟨o, e, _⟩ := hl1; ⟨o, e⟩
  have p2 : ∃ o, s.heap.get? l2 = some o := let ⟨o, e, _⟩ := hl2; ⟨o, e⟩
  obtain ⟨o1, o1⟩ := o1
  obtain ⟨o2, o2⟩ := o2
  obtain ⟨p1, p1⟩ := p1
  obtain ⟨p2, p2⟩ := p2
  have O : Off z TI TO i1 i2 l1 l2 s.heap.objs.size (s.heap.objs.size + 1) := ⟨lt hz, lt hTI, lt hTO, lt o1, lt o2, lt p1, lt p2, Nat.lt_succ_of_lt (Heap.lt_size hz), Nat.lt_succ_of_lt (Heap.lt_size hTO), Nat.lt_succ_of_lt (Heap.lt_size o1), Nat.lt_succ_of_lt (Heap.lt_size o2), Nat.lt_succ_self _⟩
  generalize hSa : s.heap.objs.size = S at hS O
  generalize hg : s.heap.push { cls := .type "list", data := .seq #[] } = g at hS
  have gk : ∀ b o, s.heap.get? b = some o → g.get? b = some o := fun b o e => by rw [← hg]; exact Heap.get?_push_of_some _ e
  have gs : g.objs.size = S + 1 := by rw [← hg, Heap.size_push, hSa]
  show wpAny _ _ (do let old ← Builtin.List.listItems (.ref S); Builtin.List.listUpdate (.ref S) (fun _ => #[]); letGo old.toList.reverse; Builtin.List.listExtendWith (.ref S) (.ref z) .none) _ _ { s with heap := g }
  refine wpAny_bind ?_
  unfold Builtin.List.listItems
  refine wpAny_bind (wpAny_seqItems hS rfl (wpAny_pure ?_))
  show wpAny _ _ (updateSeq S (fun _ => #[]) >>= fun _ => letGo (#[] : Array Value).toList.reverse >>= fun _ => Builtin.List.listExtendWith (.ref S) (.ref z) .none) _ _ { s with heap := g }
  refine wpAny_bind (wpAny_updateSeq hS rfl ?_)
  obtain ⟨g2, hg2⟩ : ∃ g2, g2 = g.update S (Obj.mapSeq (fun _ => (#[] : Array Value))) := ⟨_, rfl⟩
  have e2 : Heap.SameBut S g g2 := by rw [hg2]; exact Heap.SameBut.update ..
  have hS2 := Heap.get?_update_self (Obj.mapSeq (fun _ => (#[] : Array Value))) hS rfl
  rw [← hg2] at hS2 ⊢
  refine wpAny_bind (wpAny_letGo ?_)
  have k2 : ∀ b o, b ≠ S → s.heap.get? b = some o → g2.get? b = some o := fun b o hb e => e2.extBut _ _ hb (gk b o e)
  have hz2 : IsZip g2 z TI TO .none := k2 _ _ (Ne.symm O.sz) hz
  unfold Builtin.List.listExtendWith
  refine wpAny_bind (wpAny_typeOf (T := "zip") ⟨_, hz2, rfl⟩ ?_)
  have n1 : Builtin.List.listSameRef (.ref S) (.ref z) = false := by simp [Builtin.List.listSameRef, O.sz]
  have n2 : (Value.type "zip" == Value.type "list") = false := by decide
  have n3 : (Value.type "zip" == Value.type "tuple") = false := by decide
  simp only [n1, n2, n3, Bool.or_false, Bool.false_eq_true, if_false]
  refine wpAny_bind (wpAny_pyIter_zip (s := { s with heap := g2 }) hz2 ?_)
  refine wpAny_bind (wpAny_holding ?_)
  unfold Builtin.List.listLengthHint
  refine wpAny_bind (wpAny_specialOf (s := { s with heap := g2 }) (T := "zip") ⟨_, hz2, rfl⟩ zip_no_len ?_)
  show wpAny _ _ (specialOf (Value.ref z) (Str.ofString "__length_hint__") >>= _) _ _ _
  refine wpAny_bind (wpAny_specialOf (s := { s with heap := g2 }) (T := "zip") ⟨_, hz2, rfl⟩ zip_no_hint ?_)
  refine wpAny_pure ?_
  show wpAny _ _ (rule "list.extend.makes-room" >>= fun _ => Builtin.List.listTouch (.ref S) >>= fun _ => again (.builtin "list.extend.loop" ⟨[.ref S, .ref z, .none], []⟩)) _ _ _
  refine wpAny_bind (wpAny_rule (wpAny_bind ?_))
  show wpAny _ _ (updateSeq S (·.push .none) >>= fun _ => updateSeq S (·.pop)) _ _ _
  refine wpAny_bind (wpAny_updateSeq hS2 rfl ?_)
  have hS3 := Heap.get?_update_self (Obj.mapSeq (·.push Value.none)) hS2 rfl
  refine wpAny_updateSeq (hz := by seq_fits) hS3 rfl ?_
  have hS4 := Heap.get?_update_self (Obj.mapSeq (·.pop)) hS3 rfl
  obtain ⟨g4, hg4⟩ : ∃ g4, g4 = (g2.update S (Obj.mapSeq (·.push Value.none))).update S (Obj.mapSeq (·.pop)) := ⟨_, rfl⟩
  rw [← hg4] at hS4 ⊢
  obtain ⟨c4, hS5⟩ : ∃ c4, g4.get? S = some { cls := .type "list", dict := none, data := .seq #[] c4, slots := #[] } := ⟨_, hS4⟩
  have s4 : g4.objs.size = S + 1 := by
    rw [hg4]
    have q1 : ((g2.update S (Obj.mapSeq (·.push Value.none))).update S (Obj.mapSeq (·.pop))).objs.size = (g2.update S (Obj.mapSeq (·.push Value.none))).objs.size := (Heap.SameBut.update (f := Obj.mapSeq (·.pop)) ..).1
    have q2 : (g2.update S (Obj.mapSeq (·.push Value.none))).objs.size = g2.objs.size := (Heap.SameBut.update (f := Obj.mapSeq (·.push Value.none)) ..).1
    rw [q1, q2, e2.1, gs]
  have k4 : ∀ b o, b ≠ S → s.heap.get? b = some o → g4.get? b = some o := fun b o hb e => by
    rw [hg4]
    exact (Heap.get?_update_other _ _ (Ne.symm hb)).trans ((Heap.get?_update_other _ _ (Ne.symm hb)).trans (k2 b o hb e))
  refine wpAny_pure ⟨plainId_quiet F.plain_extend_loop _, loop (A := A.in1) hh D O hn _ 0 { s with heap := g4 } #[] c4 rfl (Nat.zero_le _) ?_ fun h' acc' c' k5 k6 k7 k8 => ?_⟩
  · exact ⟨k4 _ _ (Ne.symm O.sTI) hTI, h1.at fun o e => k4 _ _ (Ne.symm O.s1) e, h2.at fun o e => k4 _ _ (Ne.symm O.s2) e, hl1.at fun o e => k4 _ _ (Ne.symm O.sl1) e, hl2.at fun o e => k4 _ _ (Ne.symm O.sl2) e,
      .inl ⟨k4 _ _ (Ne.symm O.sz) hz, a, b, k4 _ _ (Ne.symm O.sTO) hTO⟩, hS5, Nat.le_of_eq s4.symm, rfl, fun j v e => by simp at e⟩
  · refine ⟨rfl, ?_⟩
    rw [← hSa] at k5 k6 k8 ⊢
    refine hQ h' acc' c' (fun b o c1 c2 c3 c4 e => ?_) k6 k7 k8
    have hb : b ≠ s.heap.objs.size := Nat.ne_of_lt (Heap.lt_size e)
    exact k5 b o (Nat.lt_succ_of_lt (Heap.lt_size e)) c1 c2 c3 c4 hb (k4 b o (by rw [← hSa]; exact hb) e)
end
end MGZ

namespace MGZ
open PySem PySem.Spec PyProof.Rows L2
/-- several new objects are laid and tracked -/
theorem laidMany {X : Cx} {pins : List (Addr × Obj)} {σ : L2.St} {H H' : Hp} {s : Shared} {h' : Heap} {t' : Nat} (I : L2.Inv X pins σ H s) (k : ∀ b u, s.heap.get? b = some u → h'.get? b = some u) (old : ∀ a, a < s.heap.objs.size → H' a = H a)
    (new : ∀ a o, s.heap.objs.size ≤ a → H' a = some o → ObjOk X.prog X.w H' h' a o) : L2.Inv X pins σ H' { s with heap := h', toks := t' } := by
  have lt : ∀ {b : Addr} {u : Obj}, s.heap.get? b = some u → b < s.heap.objs.size := fun e => Heap.lt_size e
  have hl : ∀ {b : Addr} {o : HO}, H b = some o → H' b = some o := fun {b o} e => by rw [old b (I.hok.lt e)]; exact e
  refine I.un ⟨fun b o q _ _ _ => k b o q, fun b o q _ _ _ => ⟨o.slots, k b o q⟩, fun b o q n _ => by rw [old b (lt q)]; exact n, fun b o q _ => ⟨o, k b o q⟩, fun b xs q => hl q, fun b o u q => hl q, fun b ps q => ⟨#[], by rw [hl q]; simp⟩⟩ fun a o e => ?_
  by_cases c : a < s.heap.objs.size
  · rw [old a c] at e
    exact (I.hok a o e).stay (fun b u _ q => k b u q) (fun b q => hl q) fun b xs q => hl q
  · exact new a o (Nat.le_of_not_lt c) e
/-- list(zip(a, b)) of two tuples: the new list at p, the new pairs at Ts -/
def tListZip (K : PySem.W.Frag) (ta : TA) : TE := fun σ H Q => ta σ H fun vs H1 => ∃ (a b : Addr) (xs ys : List V), vs = [.ref a, .ref b] ∧ SqT K H1 a xs ∧ SqT K H1 b ys ∧
  ∀ (p : Addr) (Ts : List Addr) (H' : Hp), H1 p = none → p ∉ Ts → (∀ T ∈ Ts, H1 T = none) → (∀ c, c ≠ p → c ∉ Ts → H' c = H1 c) → H' p = some (.lst (Ts.map V.ref)) → Ts.length = min xs.length ys.length →
    (∀ (j : Nat) (T : Addr), Ts[j]? = some T → ∃ x y, xs[j]? = some x ∧ ys[j]? = some y ∧ H' T = some (.tup [x, y])) → Q (.ref p) H'

theorem refs_of (acc : Array Value) (h0 : ∀ (j : Nat) (v : Value), acc[j]? = some v → ∃ T, v = .ref T) : ∃ Ts : List Addr, acc = (Ts.map Value.ref).toArray := by
  obtain ⟨l⟩ := acc
  have h : ∀ v ∈ l, ∃ T, v = Value.ref T := fun v hv => by
    obtain ⟨j, hj⟩ := List.getElem?_of_mem hv
    exact h0 j v (by simpa using hj)
  clear h0
  have : ∃ Ts : List Addr, l = Ts.map Value.ref := by
    induction l with
    | nil => exact ⟨[], rfl⟩
    | cons v r ih =>
      obtain ⟨T, rfl⟩ := h v List.mem_cons_self
      obtain ⟨Ts, rfl⟩ := ih fun w hw => h w (List.mem_cons_of_mem _ hw)
      exact ⟨T :: Ts, rfl⟩
  obtain ⟨Ts, rfl⟩ := this
  exact ⟨Ts, rfl⟩
theorem vals_refs' : ∀ Ts : List Addr, Vals (Ts.map V.ref) (Ts.map Value.ref)
  | [] => .nil
  | T :: Ts => .cons rfl (vals_refs' Ts)
theorem pe_listZip {X : Cx} {e e2 : Expr} {ta : TA} {p p2 pos pos2 : Pos} (hc : X.calm = true) (hg : Gl X "list") (hm : X.mg "list" = none) (hg2 : Gl X "zip") (hm2 : X.mg "zip" = none) (ha : PA X [e, e2] ta)
    (hs : starEach [.Call (.Name "zip" p2) [e, e2] [] pos2] X.env = (false, eval (.Call (.Name "zip" p2) [e, e2] [] pos2) X.env) :: starEach [] X.env := by rfl)
    (hs2 : starEach [e, e2] X.env = (false, eval e X.env) :: starEach [e2] X.env := by rfl) (hpl : (backTo pos2 (starEach [e2] X.env)).any (·.1) = false := by rfl) :
    PE X (.Call (.Name "list" p) [.Call (.Name "zip" p2) [e, e2] [] pos2] [] pos) (tListZip X.K ta) := by
  refine ⟨fun pins s σ H Q I hq => ?_⟩
  refine wpAny_Call_Name_kw (ld_blt I hg hm PyProof.Rows.boot_list ?_)
  refine PyProof.Rows.callWith_type1 ?_ hs rfl
  rw [hs]
  show wpAny _ _ (spliced ((false, eval (.Call (.Name "zip" p2) [e, e2] [] pos2) X.env) :: backTo pos (starEach [] X.env))) _ _ s
  refine Calls.spliced_cons ?_
  refine Call_ (ld_blt I hg2 hm2 PyProof.Rows.boot_zip (PyProof.Rows.callWith_type1 (thn (ha.run pos2 pins s σ H _ I hq) fun us s1 ⟨vs, H1, I1, r1, q1⟩ => ?_) hs2 hpl))
  obtain ⟨a, b, xs, ys, ex, hqx, hqy, q⟩ := q1
  subst ex
  obtain ⟨u1, u2, rfl, ra, rb⟩ := vals2 r1
  cases ra
  cases rb
  obtain ⟨its, rv, t1, z1⟩ := I1.tuple hqx
  obtain ⟨its2, rv2, t2, z2⟩ := I1.tuple hqy
  obtain ⟨o1, ho1, _⟩ := id t1
  obtain ⟨o2, ho2, _⟩ := id t2
  refine RZ.call_zipT (show s1.heap.IsTuple a its.toArray from t1) (show s1.heap.IsTuple b its2.toArray from t2) fun h' hz hTI hTO h1 h2 hsz hk => Calls.spliced_nil ?_
  have D := PySem.W.ktu_apart s1.heap.objs.size a b (Heap.lt_size ho1) (Heap.lt_size ho2)
  have l1 := rv.length
  have l2 := rv2.length
  have w1 : h'.IsTuple a its.toArray := Heap.IsTuple.at (show s1.heap.IsTuple a its.toArray from t1) fun o e => hk _ _ e
  have w2 : h'.IsTuple b its2.toArray := Heap.IsTuple.at (show s1.heap.IsTuple b its2.toArray from t2) fun o e => hk _ _ e
  refine call_list_zip (s := { s1 with heap := h' }) (I1.ok.hd hc) D hz hTI hTO h1 h2 w1 w2 (by simp only [List.size_toArray]; omega) fun g acc c_ k1 k2 k3 k4 => ?_
  obtain ⟨Ts, rfl⟩ := refs_of acc fun j v e => let ⟨T, _, _, e1, _⟩ := k4 j v e; ⟨T, e1⟩
  have hsz' : h'.objs.size = s1.heap.objs.size + 5 := hsz
  -- the items of the j-th pair
  have items : ∀ (j : Nat) (T : Addr), Ts[j]? = some T → ∃ x y ux uy, xs[j]? = some x ∧ ys[j]? = some y ∧ RelV x ux ∧ RelV y uy ∧ IsPair g T ux uy ∧ h'.objs.size + 1 ≤ T := by
    intro j T hj
    obtain ⟨T', ux, uy, e1, e2, e3, e4, e5⟩ := k4 j (.ref T) (by simp [hj])
    cases e1
    have e3' : its[j]? = some ux := by simpa using e3
    have e4' : its2[j]? = some uy := by simpa using e4
    have j1 : j < xs.length := by rw [l1]; exact (List.getElem?_eq_some_iff.mp e3').1
    have j2 : j < ys.length := by rw [l2]; exact (List.getElem?_eq_some_iff.mp e4').1
    obtain ⟨u1, q1, r1⟩ := rv.get (List.getElem?_eq_getElem j1)
    obtain ⟨u2, q2, r2⟩ := rv2.get (List.getElem?_eq_getElem j2)
    rw [e3'] at q1
    rw [e4'] at q2
    cases q1
    cases q2
    exact ⟨_, _, ux, uy, List.getElem?_eq_getElem j1, List.getElem?_eq_getElem j2, r1, r2, e5, e2⟩
  have big : ∀ T ∈ Ts, s1.heap.objs.size + 6 ≤ T := fun T hT => by
    obtain ⟨j, hj⟩ := List.getElem?_of_mem hT
    obtain ⟨_, _, _, _, _, _, _, _, _, h⟩ := items j T hj
    rw [hsz'] at h
    exact h
  have keep : ∀ b u, s1.heap.get? b = some u → g.get? b = some u := fun b u e => by
    have lt := Heap.lt_size e
    exact k1 b u (Nat.ne_of_lt (Nat.lt_of_lt_of_le lt (Nat.le_add_right _ _))) (Nat.ne_of_lt (Nat.lt_of_lt_of_le lt (Nat.le_add_right _ _))) (Nat.ne_of_lt lt) (Nat.ne_of_lt (Nat.lt_of_lt_of_le lt (Nat.le_add_right _ _))) (hk b u e)
  obtain ⟨pr, hpr⟩ : ∃ pr : Addr → List V, ∀ (j : Nat) (T : Addr), Ts[j]? = some T → ∃ x y, xs[j]? = some x ∧ ys[j]? = some y ∧ pr T = [x, y] := by
    classical
    refine ⟨fun T => if h : ∃ vs : List V, ∃ x y ux uy, vs = [x, y] ∧ RelV x ux ∧ RelV y uy ∧ IsPair g T ux uy then h.choose else [], fun j T hj => ?_⟩
    obtain ⟨x, y, ux, uy, e1, e2, e3, e4, e5, _⟩ := items j T hj
    have ex : ∃ vs : List V, ∃ x y ux uy, vs = [x, y] ∧ RelV x ux ∧ RelV y uy ∧ IsPair g T ux uy := ⟨[x, y], x, y, ux, uy, rfl, e3, e4, e5⟩
    refine ⟨x, y, e1, e2, ?_⟩
    dsimp only
    rw [dif_pos ex]
    obtain ⟨x', y', ux', uy', q0, q1, q2, q3⟩ := ex.choose_spec
    rw [q0]
    have e6 : some _ = some _ := e5.symm.trans q3
    injection e6 with e7
    injection e7 with _ _ e8
    injection e8 with e9
    have e9 : [ux, uy] = [ux', uy'] := by simpa using congrArg Array.toList e9
    injection e9 with f1 f2
    injection f2 with f2 _
    subst f1 f2
    rw [e3.inj q1, e4.inj q2]
  have hpL : ∀ T ∈ Ts, T ≠ h'.objs.size := fun T hT e => by
    have := big T hT
    rw [e, hsz'] at this
    exact absurd this (by omega)
  have hH : ∃ H' : Hp, (∀ c, c ≠ h'.objs.size → c ∉ Ts → H' c = H1 c) ∧ H' h'.objs.size = some (.lst (Ts.map V.ref)) ∧ ∀ T ∈ Ts, H' T = some (.tup (pr T)) := by
    classical
    refine ⟨fun c => if c = h'.objs.size then some (.lst (Ts.map V.ref)) else if c ∈ Ts then some (.tup (pr c)) else H1 c, fun c c1 c2 => by simp [c1, c2], by simp, fun T hT => by simp [hT, hpL T hT]⟩
  obtain ⟨H', g1, g2, g3⟩ := hH
  have nn : ∀ c, s1.heap.objs.size ≤ c → H1 c = none := fun c h => I1.hok.fresh h
  have J : L2.Inv X pins σ H' { s1 with heap := g, toks := s1.toks } := by
    refine laidMany I1 keep (fun c hc => g1 c ?_ ?_) fun c o hc ho => ?_
    · intro e
      rw [e, hsz'] at hc
      exact absurd hc (by omega)
    · intro hT
      have := big c hT
      exact absurd hc (by omega)
    · by_cases c1 : c = h'.objs.size
      · subst c1
        rw [g2] at ho
        cases ho
        refine ⟨?_, Ts.map Value.ref, c_, vals_refs' Ts, k2⟩
        rw [List.length_map]
        have : Ts.length = min its.length its2.length := by simpa using k3
        omega
      · by_cases c2 : c ∈ Ts
        · rw [g3 c c2] at ho
          cases ho
          obtain ⟨j, hj⟩ := List.getElem?_of_mem c2
          obtain ⟨x, y, e1, e2, e3⟩ := hpr j c hj
          obtain ⟨x', y', ux, uy, e1', e2', r1, r2, e5, _⟩ := items j c hj
          rw [e1] at e1'
          rw [e2] at e2'
          cases e1'
          cases e2'
          rw [e3]
          exact ⟨by show 2 ≤ sizeLine; rw [sizeLine_eq]; omega, [ux, uy], .cons r1 (.cons r2 .nil), _, e5, rfl, 0, rfl⟩
        · rw [g1 c c1 c2, nn c hc] at ho
          cases ho
  refine ⟨.ref h'.objs.size, H', J, rfl, q h'.objs.size Ts H' (nn _ (by rw [hsz']; exact Nat.le_add_right _ _)) (fun h => hpL _ h rfl) (fun T hT => nn T (Nat.le_trans (Nat.le_add_right _ _) (big T hT))) g1 g2 ?_ fun j T hj => ?_⟩
  · have : Ts.length = min its.length its2.length := by simpa using k3
    omega
  · obtain ⟨x, y, e1, e2, e3⟩ := hpr j T hj
    exact ⟨x, y, e1, e2, by rw [g3 T (List.mem_of_getElem? hj), e3]⟩
end MGZ

set_option Elab.async false
set_option linter.all false
set_option maxRecDepth 100000
set_option maxHeartbeats 4000000
/-! for i, x in enumerate(t), t a tuple. -/
namespace MGZ
open PySem
theorem new_enumT (l : Addr) (items : Array Value) :
    Meets (Builtin.«enumerate.__new__» ⟨[.type "enumerate", .ref l], []⟩) (fun _ R s => s.heap.IsTuple l items ∧
      R (.ok (.ret (.ref (s.heap.push { cls := .type "tuple_iterator", data := .fields #[.ref l, .int 0 0] }).objs.size)))
        { s with heap := (s.heap.push { cls := .type "tuple_iterator", data := .fields #[.ref l, .int 0 0] }).push { cls := .type "enumerate", data := .fields #[.none, .bool false, .ref s.heap.objs.size, rawInt 0, .none, .none] } }) :=
  .of_wp fun prog w A R s h => by
    obtain ⟨hp, g, d, tk, os⟩ := s
    obtain ⟨h1, h⟩ := h
    have hsub := sub_enumerate
    have q1 : ∀ {A' : Around} {E : Value → Shared → Prop} {Q : Value → Shared → Prop}, Q (.ref hp.objs.size) ⟨hp.push { cls := .type "tuple_iterator", data := .fields #[.ref l, .int 0 0] }, g, d, tk, os⟩ → wpAny (model prog w) A' (pyIter (.ref l)) Q E ⟨hp, g, d, tk, os⟩ :=
      fun q => (begins_tuple l items).iter prog w _ _ ⟨hp, g, d, tk, os⟩ _ h1 q
    wp_walk using q1
    refine wpAny_stack_any fun st => wpAny_pure ?_
    split
    · rename_i c _ _ _ _ _
      cases (c == Value.type "enumerate")
      · wp_walk using q1
        exact ⟨_, rfl, h⟩
      · wp_walk using q1
        exact ⟨_, rfl, h⟩
    · wp_walk using q1
      exact ⟨_, rfl, h⟩
section
variable {prog : Program} {w : World} {A : Around} {E : Value → Shared → Prop} {s : Shared}
theorem call_enumT {l : Addr} {items : Array Value} {Q : Value → Shared → Prop} (hL : s.heap.IsTuple l items)
    (h : ∀ h', IsEnum h' (s.heap.objs.size + 1) s.heap.objs.size 0 .none → h'.IsTupleIter s.heap.objs.size l 0 → h'.objs.size = s.heap.objs.size + 2 →
      (∀ b o, s.heap.get? b = some o → h'.get? b = some o) → Q (.ref (s.heap.objs.size + 1)) { s with heap := h' }) :
    wpAny (model prog w) A (call (.type "enumerate") [.ref l]) Q E s := by
  refine callType_new F.called_enumerate (by decide) (F.typeCall_enumerate_1 _) (F.newCall_enumerate_1 _) (fun obj => F.args_object_init_2 obj _) F.entry_enumerate_new (new_enumT l items) ⟨hL, ?_⟩
  have hz : (s.heap.push { cls := .type "tuple_iterator", data := .fields #[.ref l, .int 0 0] }).objs.size = s.heap.objs.size + 1 := Heap.size_push ..
  show _ ∧ _
  rw [hz]
  have he : IsEnum ((s.heap.push { cls := .type "tuple_iterator", data := .fields #[.ref l, .int 0 0] }).push
      { cls := .type "enumerate", data := .fields #[.none, .bool false, .ref s.heap.objs.size, rawInt 0, .none, .none] }) (s.heap.objs.size + 1) s.heap.objs.size 0 .none := by
    have q := Heap.get?_push_size (s.heap.push { cls := .type "tuple_iterator", data := .fields #[.ref l, .int 0 0] })
      (o := { cls := .type "enumerate", data := .fields #[.none, .bool false, .ref s.heap.objs.size, rawInt 0, .none, .none] }) rfl
    rw [hz] at q
    exact q
  refine ⟨⟨_, he, rfl⟩, h _ he ⟨_, Heap.get?_push_of_some _ (Heap.get?_push_size _ rfl), rfl, rfl⟩ (by rw [Heap.size_push, hz]) fun b o x => Heap.get?_push_of_some _ (Heap.get?_push_of_some _ x)⟩
end
end MGZ
namespace MGZ
open PySem PySem.Spec PyProof.Rows L2
/-- the tuple at a, its items in new pairs with their places -/
def IteT (K : PySem.W.Frag) (a : Addr) : It :=
  ⟨fun i H => ∃ (xs : List V) (x : V), SqT K H a xs ∧ xs[i]? = some x, fun i H v H' => ∃ T x, v = .ref T ∧ H T = none ∧ H' = upd H T (.tup [.int (i : Nat), x]) ∧ ∀ xs, SqT K H a xs → xs[i]? = some x, fun i H => ∃ xs : List V, SqT K H a xs ∧ xs.length = i⟩
theorem turn_enumT {P : Program} {w : World} {K : PySem.W.Frag} {elts : List Expr} {kk : Nat} {tpos : Pos} (a e it : Addr) (hne : e ≠ it) (hae : a ≠ e) (hai : a ≠ it) :
    Turn P w K (.Tuple elts kk tpos) (IteT K a) [e, it] e (fun i h => (∃ old, IsEnum h e it ((i : Nat) : Int) old) ∧ h.IsTupleIter it a i) where
  mem := by simp
  obj := fun i h st b hb => by
    obtain ⟨⟨old, he⟩, ⟨o, ho, hc, hd⟩⟩ := st
    have e' : b = e ∨ b = it := by simpa using hb
    rcases e' with z | z
    · rw [z]; exact ⟨_, he, fun v q => nomatch q⟩
    · rw [z]; exact ⟨o, ho, fun v q => by rw [hd] at q; cases q⟩
  keep := fun i h h' st k => let ⟨⟨old, he⟩, hi⟩ := st; ⟨⟨old, k e (by simp) _ he⟩, hi.at fun o q => k it (by simp) o q⟩
  item := by
    intro X hP hw hK hc i pins s σ H E I hf st hg
    subst hP hw hK
    obtain ⟨⟨old, he⟩, hit⟩ := st
    obtain ⟨xs, x, hq, hx⟩ := hg
    obtain ⟨its, rv, p, hz⟩ := I.tuple hq
    obtain ⟨u, hu, ru⟩ := rv.get hx
    have hel : e < s.heap.objs.size := Heap.lt_size he
    have hil : it < s.heap.objs.size := by obtain ⟨_, q, _⟩ := hit; exact Heap.lt_size q
    have D := Draws.tuple (prog := X.prog) (w := X.w) (A := X.A.in1) (I.ok.hd hc) it a hai its.toArray
    have hlt : i < its.toArray.size := by rw [List.size_toArray]; exact (List.getElem?_eq_some_iff.mp hu).1
    refine wpAny_pyNext_enum_itemD D he ⟨hit, show s.heap.IsTuple a its.toArray from p⟩ hlt hne (by simp [hne, Ne.symm hae]) fun x' h' tk hPx ho st' hT hsz hk => ?_
    obtain rfl : u = x' := by
      have : its[i]? = some x' := by simpa using hPx
      rw [hu] at this
      exact Option.some.inj this
    refine ⟨_, rfl, wpAny_letOwnedTupleGo_enum (s := { s with heap := h', toks := tk + 1 }) ho fun h'' he' sb => ?_⟩
    have hT2 : h''.get? s.heap.objs.size = some { cls := .type "tuple", data := .seq #[.int i tk, u] } := (sb.2 _ (Nat.ne_of_gt hel)).trans hT
    have new : ObjOk X.prog X.w (upd H s.heap.objs.size (.tup [.int (i : Nat), x])) h'' s.heap.objs.size (.tup [.int (i : Nat), x]) :=
      ⟨by show 2 ≤ sizeLine; decide, [.int i tk, u], .cons ⟨_, rfl⟩ (.cons ru .nil), ⟨_, hT2, rfl, _, rfl⟩⟩
    have I1 : L2.Inv X pins σ (upd H s.heap.objs.size (.tup [.int (i : Nat), x])) { s with heap := h'', toks := tk + 1 } :=
      I.turnedNew (ch := [e, it]) (fun b ob hb q => (sb.2 b (fun z => hb (by simp [z]))).trans (hk b ob (fun z => hb (by simp [z])) (fun z => hb (by simp [z])) q)) hf (Nat.le_refl _) new
    refine ⟨.ref s.heap.objs.size, _, I1, rfl, ⟨_, x, rfl, I.hok.fresh (Nat.le_refl _), rfl, fun ys hy => by rw [I.tuple_inj hy hq]; exact hx⟩, ⟨⟨u, ?_⟩, st'.1.at fun o q => (sb.2 it (Ne.symm hne)).trans q⟩, fun b hb => ?_⟩
    · have e1 : ((i + 1 : Nat) : Int) = (i : Int) + 1 := by omega
      rw [e1]; exact he'
    · have hb' : b < s.heap.objs.size := by
        have e' : b = e ∨ b = it := by simpa using hb
        rcases e' with z | z
        · rw [z]; exact hel
        · rw [z]; exact hil
      rw [upd_ne (Nat.ne_of_lt hb')]
      exact (hf b hb).1
  done := by
    intro X hP hw hK hc i pins s σ H E I hf st hg
    subst hP hw hK
    obtain ⟨⟨old, he⟩, hit⟩ := st
    obtain ⟨xs, hq, hx⟩ := hg
    obtain ⟨its, rv, p, hz⟩ := I.tuple hq
    obtain ⟨f0, f1, f2, f3, f4, f5⟩ := hf it (by simp)
    have hl := rv.length
    have D := Draws.tuple (prog := X.prog) (w := X.w) (A := X.A.in1) (I.ok.hd hc) it a hai its.toArray
    have en : i = its.toArray.size := by rw [List.size_toArray]; omega
    subst en
    exact wpAny_pyNext_enum_endD D he ⟨hit, show s.heap.IsTuple a its.toArray from p⟩ fun h' eb => ⟨rfl, I.turned (t' := s.toks) (fun b o hb q => eb b o hb q) f0 f1 f3 f4 f5⟩
  self := fun A i s Q E st h => let ⟨⟨_, he⟩, _⟩ := st; wpAny_pyIter_enum he h
def iEnumT (K : PySem.W.Frag) (ta : TA) : TI := fun σ H R => ta σ H fun vs H1 => ∃ a xs, vs = [.ref a] ∧ ((SqT K H1 a xs ∧ R (IteT K a) H1) ∨ (SqL K H1 a xs ∧ R (Ite K a) H1))
theorem pi_enumT {X : Cx} {e : Expr} {ta : TA} {p pos tpos : Pos} {elts : List Expr} {kk : Nat} (hg : Gl X "enumerate") (hm : X.mg "enumerate" = none) (ha : PA X [e] ta) (hs : starEach [e] X.env = [(false, eval e X.env)] := by rfl) :
    PI X (.Tuple elts kk tpos) (.Call (.Name "enumerate" p) [e] [] pos) (iEnumT X.K ta) := by
  refine ⟨fun pins s σ H R I h => ?_⟩
  refine Call_ (ld_blt I hg hm boot_enumerate (PyProof.Rows.callWith_type1 (thn (ha.run pos pins s σ H _ I h) fun us s1 ⟨vs, H1, I1, r1, q1⟩ => ?_) hs rfl))
  obtain ⟨a, xs, ex, q1⟩ := q1
  subst ex
  obtain ⟨u1, rfl, ra⟩ := vals1 r1
  cases ra
  have fp : ∀ b ∈ [s1.heap.objs.size + 1, s1.heap.objs.size], FpOk X pins H1 b := fun b hb => by
    have e' : b = s1.heap.objs.size + 1 ∨ b = s1.heap.objs.size := by simpa using hb
    have hle : s1.heap.objs.size ≤ b := by
      rcases e' with z | z
      · rw [z]; exact Nat.le_add_right _ _
      · rw [z]; exact Nat.le_refl _
    exact I1.fpOk hle (I1.hok.fresh hle)
  rcases q1 with ⟨hq, q⟩ | ⟨hq, q⟩
  · obtain ⟨its, rv, p', hz⟩ := I1.tuple hq
    obtain ⟨o, ho, _⟩ := id p'
    have lt := Heap.lt_size ho
    refine call_enumT (show s1.heap.IsTuple a its.toArray from p') fun h' he hit hsz hk => wpAny_pyIter_enum he ?_
    have I2 : L2.Inv X pins σ H1 { s1 with heap := h' } := I1.kept (t' := s1.toks) hk
    exact ⟨s1.heap.objs.size + 1, [s1.heap.objs.size + 1, s1.heap.objs.size], _, _, H1, rfl, I2, turn_enumT a (s1.heap.objs.size + 1) s1.heap.objs.size (Nat.succ_ne_self _) (Nat.ne_of_lt (Nat.lt_succ_of_lt lt)) (Nat.ne_of_lt lt), ⟨⟨.none, he⟩, hit⟩, fp, q⟩
  · obtain ⟨its, rv, p', hz⟩ := I1.list hq
    refine call_enumerate_list p'.isList fun h' he hit hsz hk => wpAny_pyIter_enum he ?_
    have I2 : L2.Inv X pins σ H1 { s1 with heap := h' } := I1.kept (t' := s1.toks) hk
    exact ⟨s1.heap.objs.size + 1, [s1.heap.objs.size + 1, s1.heap.objs.size], _, _, H1, rfl, I2, turn_enum a (s1.heap.objs.size + 1) s1.heap.objs.size, ⟨⟨.none, he⟩, hit, Nat.succ_ne_self _⟩, fp, q⟩
end MGZ

set_option Elab.async false
set_option linter.all false
set_option maxRecDepth 100000
set_option maxHeartbeats 4000000
/-! Core expressions against the layer's judgements, node by node. -/
namespace MGS
open PySem PySem.Spec PyProof.Rows L2

/-! ### weaker readings -/
theorem pe_imp {X : Cx} {e : Expr} {t t' : TE} (h : PE X e t) (hi : ∀ σ H Q, t' σ H Q → t σ H Q) : PE X e t' := ⟨fun pins s σ H Q I q => h.run pins s σ H Q I (hi σ H Q q)⟩
theorem pt_imp {X : Cx} {e : Expr} {t t' : TT} (h : PT X e t) (hi : ∀ σ H Q, t' σ H Q → t σ H Q) : PT X e t' := ⟨fun pins s σ H Q I q => h.run pins s σ H Q I (hi σ H Q q)⟩
theorem pw_imp {X : Cx} {e : Expr} {t t' : TT} (h : PW X e t) (hi : ∀ σ H Q, t' σ H Q → t σ H Q) : PW X e t' := ⟨fun wh pins s σ H Q I q => h.run wh pins s σ H Q I (hi σ H Q q)⟩
theorem pa_imp {X : Cx} {e : List Expr} {t t' : TA} (h : PA X e t) (hi : ∀ σ H Q, t' σ H Q → t σ H Q) : PA X e t' := ⟨fun pos pins s σ H Q I q => h.run pos pins s σ H Q I (hi σ H Q q)⟩
theorem ps_imp {X : Cx} {e : Stmt} {t t' : TS} (h : PS X e t) (hi : ∀ D σ H, t' D σ H → t D σ H) : PS X e t' := ⟨fun pins s σ H D I q => h.run pins s σ H D I (hi D σ H q)⟩
theorem pss_imp {X : Cx} {e : List Stmt} {t t' : TS} (h : PSs X e t) (hi : ∀ D σ H, t' D σ H → t D σ H) : PSs X e t' := ⟨fun pins s σ H D I q => h.run pins s σ H D I (hi D σ H q)⟩
theorem pg_imp {X : Cx} {e : Expr} {t t' : TG} (h : PG X e t) (hi : ∀ v σ H Q, t' v σ H Q → t v σ H Q) : PG X e t' := ⟨fun pins s σ H v u Q I r q => h.run pins s σ H v u Q I r (hi v σ H Q q)⟩
theorem pi_imp {X : Cx} {tg e : Expr} {t t' : TI} (h : PI X tg e t) (hi : ∀ σ H R, t' σ H R → t σ H R) : PI X tg e t' := ⟨fun pins s σ H R I q => h.run pins s σ H R I (hi σ H R q)⟩

/-! ### ends -/
theorem Post.mono {M : Mc} {W : WX} {s : Sx} {σ : L2.St} {r : MG.Res MG.D} {Q Q' : VK} (h : Post M W s σ r Q) (hq : ∀ v H, Q v H → Q' v H) : Post M W s σ r Q' := by
  cases r with
  | ok d st' => exact fun m' H' v h1 h2 h3 => hq v H' (h m' H' v h1 h2 h3)
  | err x st' => exact h
  | bad => exact h
/-- no exception -/
def NoErr (r : MG.Res MG.D) : Prop := ∀ x st, r ≠ .err x st
theorem Post.pv {M : Mc} {W : WX} {s : Sx} {σ : L2.St} {r : MG.Res MG.D} {Q : VK} (h : Post M W s σ r Q) (n : NoErr r) : PV M s r Q := by
  cases r with
  | ok d st' => exact h
  | err x st' => exact absurd rfl (n x st')
  | bad => exact h
theorem okB_ne {α : Type} (st : MG.Store) (f : α → MG.D) (o : Option α) : NoErr (MG.okB st f o) := fun x st' e => by cases o <;> simp [MG.okB] at e
theorem give_ne (own : Bool) (ds : List MG.D) (st : MG.Store) : NoErr (MG.give own ds st) := fun x st' e => by cases own <;> simp [MG.give] at e
theorem int2_ne (st : MG.Store) (x y : MG.D) (f : Int → Int → MG.D) (c : Int → Int → Bool) : NoErr (MG.int2 st x y f c) := fun z st' e => by
  unfold MG.int2 at e
  repeat' split at e
  all_goals cases e
theorem addV_ne (own : Bool) (st : MG.Store) (x y : MG.D) : NoErr (MG.addV own st x y) := fun z st' e => by
  unfold MG.addV at e
  repeat' split at e
  all_goals first | exact give_ne _ _ _ _ _ e | cases e
theorem mulV_ne (own : Bool) (st : MG.Store) (x y : MG.D) : NoErr (MG.mulV own st x y) := fun z st' e => by
  unfold MG.mulV at e
  repeat' split at e
  all_goals first | exact give_ne _ _ _ _ _ e | cases e
theorem op2V_ne (G : MG.GD) (own : Bool) (o : MG.Op2) (x y : MG.D) (st : MG.Store) : NoErr (MG.op2V G own o x y st) := by
  cases o <;> first | exact okB_ne _ _ _ | exact int2_ne _ _ _ _ _ | exact addV_ne _ _ _ _ | exact mulV_ne _ _ _ _
theorem op1V_ne (o : MG.Op1) (x : MG.D) (st : MG.Store) : NoErr (MG.op1V o x st) := fun z st' e => by
  unfold MG.op1V at e
  repeat' split at e
  all_goals cases e

/-! ### readings -/
section
variable {X : Cx} {M : Mc} {W : WX} {cl : MG.Call}
def tE (M : Mc) (W : WX) (cl : MG.Call) (c : MG.C) : TE := fun σ H Q => ∃ m ρ st, Sim M ⟨m, st, H⟩ ∧ RE M ⟨m, st, H⟩ ρ σ ∧ Post M W ⟨m, st, H⟩ σ (MG.evE M.G cl c ρ st) Q
theorem tE.mono {c : MG.C} {σ : L2.St} {H : Hp} {Q Q' : VK} (h : tE M W cl c σ H Q) (hq : ∀ v H, Q v H → Q' v H) : tE M W cl c σ H Q' :=
  let ⟨m, ρ, st, S, R, P⟩ := h
  ⟨m, ρ, st, S, R, P.mono hq⟩
theorem tE.bind {c : MG.C} {σ : L2.St} {ρ : MG.Env} {s : Sx} {f : MG.D → MG.Store → MG.Res MG.D} {Q : VK} (S : Sim M s) (R : RE M s ρ σ) (h : Post M W s σ ((MG.evE M.G cl c ρ s.st).bind f) Q) :
    tE M W cl c σ s.H fun v H1 => ∃ m1 st1 d, Sim M ⟨m1, st1, H1⟩ ∧ Step s ⟨m1, st1, H1⟩ ∧ RE M ⟨m1, st1, H1⟩ ρ σ ∧ RD M ⟨m1, st1, H1⟩ d v ∧ Post M W ⟨m1, st1, H1⟩ σ (f d st1) Q :=
  ⟨s.m, ρ, s.st, S, R, (Post.bind h).mono fun v H1 ⟨m1, st1, d, S1, T1, r1, _, P1⟩ => ⟨m1, st1, d, S1, T1, R.step T1, r1, P1⟩⟩
/-- argument lists -/
def PostA (M : Mc) (W : WX) (s : Sx) (σ : L2.St) (r : MG.Res MG.D) (Q : List V → Hp → Prop) : Prop :=
  match r with
  | .ok (.tup l) st' => ∀ (m' : List Addr) (H' : Hp) (vs : List V), Sim M ⟨m', st', H'⟩ → Step s ⟨m', st', H'⟩ → RDs M ⟨m', st', H'⟩ l vs → Q vs H'
  | .ok _ _ => False
  | .err x st' => M.exc = true ∧ ∀ (m' : List Addr) (H' : Hp) (cv : Value) (d : Option Addr), Sim M ⟨m', st', H'⟩ → Step s ⟨m', st', H'⟩ → XR M ⟨m', st', H'⟩ x cv d → W cv d σ H'
  | .bad => False
theorem PostA.mono {s : Sx} {σ : L2.St} {r : MG.Res MG.D} {Q Q' : List V → Hp → Prop} (h : PostA M W s σ r Q) (hq : ∀ v H, Q v H → Q' v H) : PostA M W s σ r Q' := by
  cases r with
  | ok d st' =>
    cases d with
    | tup l => exact fun m' H' v h1 h2 h3 => hq v H' (h m' H' v h1 h2 h3)
    | _ => exact h
  | err x st' => exact h
  | bad => exact h
def tA (M : Mc) (W : WX) (cl : MG.Call) (c : MG.C) : TA := fun σ H Q => ∃ m ρ st, Sim M ⟨m, st, H⟩ ∧ RE M ⟨m, st, H⟩ ρ σ ∧ PostA M W ⟨m, st, H⟩ σ (MG.evE M.G cl c ρ st) Q
theorem tA.mono {c : MG.C} {σ : L2.St} {H : Hp} {Q Q' : List V → Hp → Prop} (h : tA M W cl c σ H Q) (hq : ∀ v H, Q v H → Q' v H) : tA M W cl c σ H Q' :=
  let ⟨m, ρ, st, S, R, P⟩ := h
  ⟨m, ρ, st, S, R, P.mono hq⟩
/-- how many arguments -/
def argc : MG.C → Option Nat
  | .nil => some 0
  | .cons _ es => (argc es).map (· + 1)
  | _ => none
theorem argc_len {G : MG.GD} : ∀ {c : MG.C} {n : Nat} {ρ : MG.Env} {st st' : MG.Store} {d : MG.D}, argc c = some n → MG.evE G cl c ρ st = .ok d st' → ∃ l, d = .tup l ∧ l.length = n
  | .nil, n, ρ, st, st', d, h, e => by
    have : n = 0 := by simpa [argc] using h.symm
    subst this
    unfold MG.evE at e
    cases e
    exact ⟨[], rfl, rfl⟩
  | .cons a es, n, ρ, st, st', d, h, e => by
    obtain ⟨k, hk, rfl⟩ : ∃ k, argc es = some k ∧ k + 1 = n := by simpa [argc] using h
    unfold MG.evE at e
    cases ea : MG.evE G cl a ρ st with
    | ok x st1 =>
      rw [ea] at e
      cases ee : MG.evE G cl es ρ st1 with
      | ok y st2 =>
        simp only [MG.Res.bind, ee] at e
        obtain ⟨l, rfl, hl⟩ := argc_len hk ee
        cases e
        exact ⟨x :: l, rfl, by rw [List.length_cons, hl]⟩
      | err z st2 => simp only [MG.Res.bind, ee] at e; cases e
      | bad => simp only [MG.Res.bind, ee] at e; cases e
    | err z st1 => rw [ea] at e; simp only [MG.Res.bind] at e; cases e
    | bad => rw [ea] at e; simp only [MG.Res.bind] at e; cases e
/-- behind an argument list -/
theorem tA.bind {c : MG.C} {n : Nat} (hc : argc c = some n) {σ : L2.St} {ρ : MG.Env} {s : Sx} {f : MG.D → MG.Store → MG.Res MG.D} {Q : VK} (S : Sim M s) (R : RE M s ρ σ) (h : Post M W s σ ((MG.evE M.G cl c ρ s.st).bind f) Q) :
    tA M W cl c σ s.H fun vs H1 => ∃ m1 st1 l, Sim M ⟨m1, st1, H1⟩ ∧ Step s ⟨m1, st1, H1⟩ ∧ RE M ⟨m1, st1, H1⟩ ρ σ ∧ RDs M ⟨m1, st1, H1⟩ l vs ∧ l.length = n ∧ Post M W ⟨m1, st1, H1⟩ σ (f (.tup l) st1) Q := by
  refine ⟨s.m, ρ, s.st, S, R, ?_⟩
  show PostA M W s σ _ _
  cases e : MG.evE M.G cl c ρ s.st with
  | ok d st' =>
    obtain ⟨l, rfl, hl⟩ := argc_len hc e
    rw [e] at h
    exact fun m' H' vs h1 h2 h3 => ⟨m', st', l, h1, h2, R.step h2, h3, hl, Post.shift h h2⟩
  | err x st' => rw [e] at h; exact h
  | bad => rw [e] at h; exact h

/-! ### nodes -/
theorem e_var {i : Nat} {x : PySem.Str} {pos : Pos} (hN : X.N[i]? = some x) (hv : Vis X.env.scope x) (hd : (x == ("__debug__" : PySem.Str)) = false) (hcd : (x == ("__classdict__" : PySem.Str)) = false) : PE X (.Name x pos) (tE M W cl (.var i)) :=
  pe_imp (pe_var hN hv hd hcd) fun σ H Q ⟨m, ρ, st, S, R, P⟩ => by
    unfold MG.evE at P
    split at P
    · rename_i d e
      obtain ⟨v, h1, h2⟩ := R.2 i d e
      exact ⟨v, h1, P m H v S (Step.refl _) h2⟩
    · exact P.elim
theorem e_k {e : Expr} {d : MG.D} {v : V} (h : PE X e (tC v)) (r : ∀ s, RD M s d v) : PE X e (tE M W cl (.k d)) :=
  pe_imp h fun σ H Q ⟨m, ρ, st, S, R, P⟩ => by
    unfold MG.evE at P
    exact P m H v S (Step.refl _) (r _)
theorem bin2 {o : MG.Op2} {own : Bool} {ca cb : MG.C} {σ : L2.St} {H : Hp} {Q : VK} (h : tE M W cl (.op2 o own ca cb) σ H Q) : tOp (rV M (MG.op2V M.G own o)) (tE M W cl ca) (tE M W cl cb) σ H Q := by
  obtain ⟨m, ρ, st, S, R, P⟩ := h
  unfold MG.evE at P
  exact (tE.bind S R P).mono fun v H1 ⟨m1, st1, d, S1, T1, R1, r1, P1⟩ => (tE.bind S1 R1 P1).mono fun u H2 ⟨m2, st2, e, S2, T2, R2, r2, P2⟩ => ⟨m2, st2, d, e, S2, r1.step T2, r2, P2.pv (op2V_ne _ _ _ _ _ _)⟩
variable {a b : Expr} {ca cb : MG.C} {pos : Pos}
theorem e_bin {op : Operator} {o : MG.Op2} {own : Bool} (ho : OpR X (binaryOp op) (rV M (MG.op2V M.G own o))) (ha : PE X a (tE M W cl ca)) (hb : PE X b (tE M W cl cb)) : PE X (.BinOp a op b pos) (tE M W cl (.op2 o own ca cb)) :=
  pe_imp (pe_op ho ha hb) fun σ H Q h => bin2 h
theorem e_cmp {op : CmpOp} {o : MG.Op2} {own : Bool} (ho : OpR X (compareOp op) (rV M (MG.op2V M.G own o))) (hm : behindInMarks op b = false) (ha : PE X a (tE M W cl ca)) (hb : PE X b (tE M W cl cb)) : PE X (.Compare a [op] [b] pos) (tE M W cl (.op2 o own ca cb)) :=
  pe_imp (pe_cmpR ho ha hb hm) fun σ H Q h => bin2 h
theorem t_cmp {op : CmpOp} {o : MG.Op2} {own : Bool} (ho : OpR X (compareOp op) (rV M (MG.op2V M.G own o))) (hm : behindInMarks op b = false) (ha : PE X a (tE M W cl ca)) (hb : PE X b (tE M W cl cb)) : PT X (.Compare a [op] [b] pos) (tB (tE M W cl (.op2 o own ca cb))) :=
  pt_imp (pt_cmpR ho ha hb hm) fun σ H Q h => bin2 h
theorem e_ix {own : Bool} (ho : IxR X (rV M (MG.op2V M.G own .idx))) (hs : PlainIx b) (ha : PE X a (tE M W cl ca)) (hb : PE X b (tE M W cl cb)) : PE X (.Subscript a b pos) (tE M W cl (.op2 .idx own ca cb)) :=
  pe_imp (pe_ix ho ha hb hs) fun σ H Q h => bin2 h
theorem un1 {o : MG.Op1} {σ : L2.St} {H : Hp} {Q : VK} (h : tE M W cl (.op1 o ca) σ H Q) : tE M W cl ca σ H fun v H1 => rV1 M (MG.op1V o) v H1 Q := by
  obtain ⟨m, ρ, st, S, R, P⟩ := h
  unfold MG.evE at P
  exact (tE.bind S R P).mono fun v H1 ⟨m1, st1, d, S1, T1, R1, r1, P1⟩ => ⟨m1, st1, d, S1, r1, P1.pv (op1V_ne _ _ _)⟩
theorem e_neg (hK : M.K = X.K) (ha : PE X a (tE M W cl ca)) : PE X (.UnaryOp .USub a pos) (tE M W cl (.op1 .neg ca)) := pe_imp (pe_un (uv_neg hK) ha) fun σ H Q h => un1 h
theorem not_of_rV {v : V} {H : Hp} {Q : VK} (h : rV1 M (MG.op1V .not) v H Q) : ∃ c, v = .bl c ∧ Q (.bl (!c)) H := by
  obtain ⟨m, st, d, S, r, P⟩ := h
  cases r with
  | bl b => exact ⟨b, rfl, P.val S (.bl _)⟩
  | _ => exact P.elim
theorem e_not (ha : PE X a (tE M W cl ca)) : PE X (.UnaryOp .Not a pos) (tE M W cl (.op1 .not ca)) := pe_imp (pe_not ha) fun σ H Q h => (un1 h).mono fun v H1 q => not_of_rV q
theorem t_not (ha : PT X a (tB (tE M W cl ca))) : PT X (.UnaryOp .Not a pos) (tB (tE M W cl (.op1 .not ca))) := pt_imp (pt_not ha) fun σ H Q h => (un1 h).mono fun v H1 q => by
  obtain ⟨c, e, c', e', q⟩ := not_of_rV q
  cases e'
  exact ⟨c, e, q⟩
theorem isN_of {v : V} {H : Hp} {Q : VK} (h : rV1 M (MG.op1V .isN) v H Q) : Q (.bl (decide (v = .non))) H := by
  obtain ⟨m, st, d, S, r, P⟩ := h
  rw [rd_non r]
  cases d <;> exact P.val S (.bl _)
theorem notN_of {v : V} {H : Hp} {Q : VK} (h : rV1 M (MG.op1V .notN) v H Q) : Q (.bl (!decide (v = .non))) H := by
  obtain ⟨m, st, d, S, r, P⟩ := h
  rw [rd_non r]
  cases d <;> exact P.val S (.bl _)
theorem e_isN {j pos'} (ha : PE X a (tE M W cl ca)) : PE X (.Compare a [.Is] [.Constant .none j pos'] pos) (tE M W cl (.op1 .isN ca)) := pe_imp (pe_cmp (pc_isN ha) rfl) fun σ H Q h => (un1 h).mono fun v H1 q => isN_of q
theorem t_isN {j pos'} (ha : PE X a (tE M W cl ca)) : PT X (.Compare a [.Is] [.Constant .none j pos'] pos) (tB (tE M W cl (.op1 .isN ca))) := pt_imp (pt_cmp (pc_isN ha) rfl) fun σ H Q h => (un1 h).mono fun v H1 q => isN_of q
theorem e_notN {j pos'} (ha : PE X a (tE M W cl ca)) : PE X (.Compare a [.IsNot] [.Constant .none j pos'] pos) (tE M W cl (.op1 .notN ca)) := pe_imp (pe_cmp (pc_notN ha) rfl) fun σ H Q h => (un1 h).mono fun v H1 q => notN_of q
theorem t_notN {j pos'} (ha : PE X a (tE M W cl ca)) : PT X (.Compare a [.IsNot] [.Constant .none j pos'] pos) (tB (tE M W cl (.op1 .notN ca))) := pt_imp (pt_cmp (pc_notN ha) rfl) fun σ H Q h => (un1 h).mono fun v H1 q => notN_of q

/-- a bool, then one of two pieces -/
theorem bl_cases {s : Sx} {σ : L2.St} {d : MG.D} {v : V} {r1 r2 : MG.Res MG.D} {Q : VK} (r : RD M s d v) (P : Post M W s σ (match (motive := MG.D → MG.Res MG.D) d with | .bl true => r1 | .bl false => r2 | _ => .bad) Q) :
    ∃ c, v = .bl c ∧ if c = true then Post M W s σ r1 Q else Post M W s σ r2 Q := by
  cases r with
  | bl b => cases b <;> exact ⟨_, rfl, P⟩
  | _ => exact P.elim
theorem e_and {rest : List Expr} (ha : PE X a (tE M W cl ca)) (hb : PE X (.BoolOp .And (b :: rest) pos) (tE M W cl cb)) : PE X (.BoolOp .And (a :: b :: rest) pos) (tE M W cl (.and ca cb)) :=
  pe_imp (pe_and ha hb) fun σ H Q ⟨m, ρ, st, S, R, P⟩ => by
    unfold MG.evE at P
    refine (tE.bind S R P).mono fun v H1 ⟨m1, st1, d, S1, T1, R1, r1, P1⟩ => ?_
    obtain ⟨c, e, q⟩ := bl_cases r1 P1
    refine ⟨c, e, ?_⟩
    cases c with
    | true => exact ⟨m1, ρ, st1, S1, R1, q⟩
    | false => exact q m1 H1 _ S1 (Step.refl _) (.bl _)
theorem e_or {rest : List Expr} (ha : PE X a (tE M W cl ca)) (hb : PE X (.BoolOp .Or (b :: rest) pos) (tE M W cl cb)) : PE X (.BoolOp .Or (a :: b :: rest) pos) (tE M W cl (.or ca cb)) :=
  pe_imp (pe_or ha hb) fun σ H Q ⟨m, ρ, st, S, R, P⟩ => by
    unfold MG.evE at P
    refine (tE.bind S R P).mono fun v H1 ⟨m1, st1, d, S1, T1, R1, r1, P1⟩ => ?_
    obtain ⟨c, e, q⟩ := bl_cases r1 P1
    refine ⟨c, e, ?_⟩
    cases c with
    | true => exact q m1 H1 _ S1 (Step.refl _) (.bl _)
    | false => exact ⟨m1, ρ, st1, S1, R1, q⟩
theorem w_and {rest : List Expr} (ha : PT X a (tB (tE M W cl ca))) (hb : PW X (.BoolOp .And (b :: rest) pos) (tB (tE M W cl cb))) : PW X (.BoolOp .And (a :: b :: rest) pos) (tB (tE M W cl (.and ca cb))) :=
  pw_imp (pw_and ha hb) fun σ H Q ⟨m, ρ, st, S, R, P⟩ => by
    unfold MG.evE at P
    refine (tE.bind S R P).mono fun v H1 ⟨m1, st1, d, S1, T1, R1, r1, P1⟩ => ?_
    obtain ⟨c, e, q⟩ := bl_cases r1 P1
    refine ⟨c, e, ?_⟩
    cases c with
    | true => exact ⟨m1, ρ, st1, S1, R1, q⟩
    | false =>
      obtain ⟨c', e', q'⟩ := q m1 H1 _ S1 (Step.refl _) (.bl _)
      cases e'
      exact q'
theorem w_or {rest : List Expr} (ha : PT X a (tB (tE M W cl ca))) (hb : PW X (.BoolOp .Or (b :: rest) pos) (tB (tE M W cl cb))) : PW X (.BoolOp .Or (a :: b :: rest) pos) (tB (tE M W cl (.or ca cb))) :=
  pw_imp (pw_or ha hb) fun σ H Q ⟨m, ρ, st, S, R, P⟩ => by
    unfold MG.evE at P
    refine (tE.bind S R P).mono fun v H1 ⟨m1, st1, d, S1, T1, R1, r1, P1⟩ => ?_
    obtain ⟨c, e, q⟩ := bl_cases r1 P1
    refine ⟨c, e, ?_⟩
    cases c with
    | true =>
      obtain ⟨c', e', q'⟩ := q m1 H1 _ S1 (Step.refl _) (.bl _)
      cases e'
      exact q'
    | false => exact ⟨m1, ρ, st1, S1, R1, q⟩
theorem e_ite {c : Expr} {cc : MG.C} (hc : PT X c (tB (tE M W cl cc))) (ha : PE X a (tE M W cl ca)) (hb : PE X b (tE M W cl cb)) : PE X (.IfExp c a b pos) (tE M W cl (.ite cc ca cb)) :=
  pe_imp (pe_ifExp hc ha hb) fun σ H Q ⟨m, ρ, st, S, R, P⟩ => by
    unfold MG.evE at P
    refine (tE.bind S R P).mono fun v H1 ⟨m1, st1, d, S1, T1, R1, r1, P1⟩ => ?_
    obtain ⟨c, e, q⟩ := bl_cases r1 P1
    refine ⟨c, e, ?_⟩
    cases c with
    | true => exact ⟨m1, ρ, st1, S1, R1, q⟩
    | false => exact ⟨m1, ρ, st1, S1, R1, q⟩
theorem ch3 {o1 o2 : MG.Op2} {cc : MG.C} {σ : L2.St} {H : Hp} {Q : VK} (h : tE M W cl (.chain o1 o2 ca cb cc) σ H Q) : tChain (rV M (MG.op2V M.G false o1)) (rV M (MG.op2V M.G false o2)) (tE M W cl ca) (tE M W cl cb) (tE M W cl cc) σ H Q := by
  obtain ⟨m, ρ, st, S, R, P⟩ := h
  unfold MG.evE at P
  refine (tE.bind S R P).mono fun v H1 ⟨m1, st1, d, S1, T1, R1, r1, P1⟩ => (tE.bind S1 R1 P1).mono fun u H2 ⟨m2, st2, e, S2, T2, R2, r2, P2⟩ => ?_
  refine ⟨m2, st2, d, e, S2, r1.step T2, r2, ?_⟩
  refine Post.pv (W := W) (σ := σ) ((Post.bind P2).mono fun z H3 ⟨m3, st3, f, S3, T3, r3, _, P3⟩ => ?_) (op2V_ne _ _ _ _ _ _)
  obtain ⟨c, e', q⟩ := bl_cases r3 P3
  refine ⟨c, e', ?_⟩
  cases c with
  | false => exact q m3 H3 _ S3 (Step.refl _) (.bl _)
  | true =>
    have R3 := R2.step T3
    exact (tE.bind S3 R3 q).mono fun w H4 ⟨m4, st4, g, S4, T4, R4, r4, P4⟩ => ⟨m4, st4, e, g, S4, (r2.step T3).step T4, r4, P4.pv (op2V_ne _ _ _ _ _ _)⟩
theorem e_chain {op op' : CmpOp} {o1 o2 : MG.Op2} {c : Expr} {cc : MG.C} (ho : OpR X (compareOp op) (rV M (MG.op2V M.G false o1))) (ho' : OpR X (compareOp op') (rV M (MG.op2V M.G false o2))) (hm : lastMarks [op, op'] [b, c] = false) (ha : PE X a (tE M W cl ca)) (hb : PE X b (tE M W cl cb)) (hc : PE X c (tE M W cl cc)) :
    PE X (.Compare a [op, op'] [b, c] pos) (tE M W cl (.chain o1 o2 ca cb cc)) := pe_imp (pe_chain ho ho' ha hb hc hm) fun σ H Q h => ch3 h
theorem t_chain {op op' : CmpOp} {o1 o2 : MG.Op2} {c : Expr} {cc : MG.C} (ho : OpR X (compareOp op) (rV M (MG.op2V M.G false o1))) (ho' : OpR X (compareOp op') (rV M (MG.op2V M.G false o2))) (hm : lastMarks [op, op'] [b, c] = false) (ha : PE X a (tE M W cl ca)) (hb : PE X b (tE M W cl cb)) (hc : PE X c (tE M W cl cc)) :
    PT X (.Compare a [op, op'] [b, c] pos) (tB (tE M W cl (.chain o1 o2 ca cb cc))) := pt_imp (pt_chain ho ho' ha hb hc hm) fun σ H Q h => ch3 h

/-! ### argument lists, displays -/
theorem a_nil : PA X [] (tA M W cl .nil) := pa_imp pa_nil fun σ H Q ⟨m, ρ, st, S, R, P⟩ => by
  unfold MG.evE at P
  exact P m H [] S (Step.refl _) .nil
theorem a_cons {es : List Expr} {n : Nat} (hn : argc cb = some n) (hs : starEach (a :: es) X.env = (false, eval a X.env) :: starEach es X.env) (ha : PE X a (tE M W cl ca)) (hr : PA X es (tA M W cl cb)) : PA X (a :: es) (tA M W cl (.cons ca cb)) :=
  pa_imp (pa_cons ha hr hs) fun σ H Q ⟨m, ρ, st, S, R, P⟩ => by
    unfold MG.evE at P
    refine ⟨m, ρ, st, S, R, ?_⟩
    cases ea : MG.evE M.G cl ca ρ st with
    | ok d st1 =>
      rw [ea] at P
      refine fun m1 H1 v S1 T1 r1 => ⟨m1, ρ, st1, S1, R.step T1, ?_⟩
      cases eb : MG.evE M.G cl cb ρ st1 with
      | ok ds st2 =>
        obtain ⟨l, rfl, _⟩ := argc_len hn eb
        simp only [MG.Res.bind, eb] at P
        exact fun m2 H2 vs S2 T2 r2 => P m2 H2 (v :: vs) S2 (T1.trans T2) (.cons (r1.step T2) r2)
      | err x st2 =>
        simp only [MG.Res.bind, eb] at P
        exact ⟨P.1, fun m2 H2 cv d S2 T2 xr => P.2 m2 H2 cv d S2 (T1.trans T2) xr⟩
      | bad => simp only [MG.Res.bind, eb] at P; exact P
    | err x st1 =>
      rw [ea] at P
      exact P
    | bad => rw [ea] at P; exact P
theorem e_tup {es : List Expr} {c : MG.C} {n : Nat} {k : Nat} (hn : argc c = some n) (hl : n ≤ 1000) (h : PA X es (tA M W cl c)) : PE X (.Tuple es k pos) (tE M W cl c) :=
  pe_imp (pe_tup h) fun σ H Q ⟨m, ρ, st, S, R, P⟩ => by
    refine ⟨m, ρ, st, S, R, ?_⟩
    cases e : MG.evE M.G cl c ρ st with
    | ok d st1 =>
      obtain ⟨l, rfl, hl2⟩ := argc_len hn e
      rw [e] at P
      refine fun m1 H1 vs S1 T1 r1 => ⟨by rw [← r1.length, hl2, sizeLine_eq]; omega, fun p hp => ?_⟩
      exact PV.tup (s := ⟨m1, st1, H1⟩) (Q := Q) (fun m' H' v h1 h2 h3 => P m' H' v h1 (T1.trans h2) h3) S1 r1 hp
    | err x st1 => rw [e] at P; exact P
    | bad => rw [e] at P; exact P
theorem e_lst {es : List Expr} {own : Bool} {c : MG.C} {n : Nat} (hn : argc c = some n) (hl : n ≤ 1000) (h : PA X es (tA M W cl c)) : PE X (.List es pos) (tE M W cl (.lst own c)) :=
  pe_imp (pe_lst h) fun σ H Q ⟨m, ρ, st, S, R, P⟩ => by
    unfold MG.evE at P
    refine (tA.bind hn S R P).mono fun vs H1 ⟨m1, st1, l, S1, T1, R1, r1, hl2, P1⟩ => ⟨by rw [← r1.length, hl2, sizeLine_eq]; omega, fun p hp => ?_⟩
    exact PV.give (s := ⟨m1, st1, H1⟩) (P1.pv (give_ne _ _ _)) S1 r1 hp
end
end MGS

set_option Elab.async false
set_option linter.all false
set_option maxRecDepth 100000
set_option maxHeartbeats 4000000
/-! Core expressions against the layer's judgements: calls, methods, slices, fields, instances. -/
namespace MGS
open PySem PySem.Spec PyProof.Rows L2

theorem one_ne (l : List MG.D) {k : MG.D → MG.Res MG.D} (h : ∀ d, NoErr (k d)) : NoErr (MG.one l k) := fun x st e => by
  unfold MG.one at e
  split at e
  · exact h _ _ _ e
  · cases e
theorem two_ne (l : List MG.D) {k : MG.D → MG.D → MG.Res MG.D} (h : ∀ d e, NoErr (k d e)) : NoErr (MG.two l k) := fun x st e => by
  unfold MG.two at e
  split at e
  · exact h _ _ _ _ e
  · cases e
theorem three_ne (l : List MG.D) {k : MG.D → MG.D → MG.D → MG.Res MG.D} (h : ∀ d e f, NoErr (k d e f)) : NoErr (MG.three l k) := fun x st e => by
  unfold MG.three at e
  split at e
  · exact h _ _ _ _ _ e
  · cases e
theorem onL_ne (st : MG.Store) (d : MG.D) {k : List MG.D → MG.Res MG.D} (h : ∀ d, NoErr (k d)) : NoErr (MG.onL st d k) := fun x st' e => by
  unfold MG.onL at e
  split at e
  · exact h _ _ _ e
  · cases e
theorem objL_ne (st : MG.Store) (d : MG.D) {k : Nat → List MG.D → MG.Res MG.D} (h : ∀ r d, NoErr (k r d)) : NoErr (MG.objL st d k) := fun x st' e => by
  unfold MG.objL at e
  split at e
  · split at e
    · exact h _ _ _ _ e
    · cases e
  · cases e
theorem withI_ne (d : MG.D) {k : Int → MG.Res MG.D} (h : ∀ d, NoErr (k d)) : NoErr (MG.withI d k) := fun x st' e => by
  unfold MG.withI at e
  split at e
  · exact h _ _ _ e
  · cases e
theorem ok_ne (d : MG.D) (st : MG.Store) : NoErr (.ok d st) := fun _ _ e => by cases e
theorem bad_ne : NoErr .bad := fun _ _ e => by cases e
theorem ite_ne {c : Prop} [Decidable c] {a b : MG.Res MG.D} (h : NoErr a) (h' : NoErr b) : NoErr (if c then a else b) := by split <;> assumption
theorem biV_ne (G : MG.GD) (own : Bool) (f : MG.Bi) (l : List MG.D) (st : MG.Store) : NoErr (MG.biV G own f l st) := by
  cases f
  case len => exact one_ne _ fun _ => okB_ne _ _ _
  case isInt => exact one_ne _ fun _ => ite_ne (ok_ne _ _) bad_ne
  case isBool => exact one_ne _ fun _ => ite_ne (ok_ne _ _) bad_ne
  case isStr => exact one_ne _ fun _ => ite_ne (ok_ne _ _) bad_ne
  case isTup => exact one_ne _ fun _ => ite_ne (ok_ne _ _) bad_ne
  case isLst => exact one_ne _ fun _ => ite_ne (ok_ne _ _) bad_ne
  case isTL => exact one_ne _ fun _ => ite_ne (ok_ne _ _) bad_ne
  case isCls c => exact one_ne _ fun _ => ite_ne (ok_ne _ _) bad_ne
  case tuple =>
    refine one_ne _ fun d => ?_
    unfold MG.toTuple
    split
    · exact ok_ne _ _
    · exact onL_ne _ _ fun _ => ok_ne _ _
  case list =>
    refine one_ne _ fun d => ?_
    unfold MG.toList
    split
    · exact give_ne _ _ _
    · exact onL_ne _ _ fun _ => give_ne _ _ _
  case int =>
    refine one_ne _ fun d => ?_
    unfold MG.toInt
    split
    · exact ok_ne _ _
    · exact ok_ne _ _
    · exact bad_ne
  case max => exact two_ne _ fun _ _ => withI_ne _ fun _ => withI_ne _ fun _ => ok_ne _ _
  case min => exact two_ne _ fun _ _ => withI_ne _ fun _ => withI_ne _ fun _ => ok_ne _ _
  case sorted =>
    refine one_ne _ fun d => onL_ne _ _ fun ds => ?_
    split
    · exact give_ne _ _ _
    · exact bad_ne
  case range => exact one_ne _ fun _ => withI_ne _ fun _ => ite_ne (give_ne _ _ _) bad_ne
  case zip =>
    refine two_ne _ fun d e => ?_
    unfold MG.zipL
    split
    · exact give_ne _ _ _
    · exact bad_ne
  case append => exact two_ne _ fun _ _ => objL_ne _ _ fun _ _ => ite_ne (ok_ne _ _) bad_ne
  case extend => exact two_ne _ fun _ _ => objL_ne _ _ fun _ _ => onL_ne _ _ fun _ => ite_ne (ok_ne _ _) bad_ne
  case pop =>
    refine one_ne _ fun _ => objL_ne _ _ fun _ _ => ?_
    unfold MG.popL
    split
    · exact ok_ne _ _
    · exact bad_ne
  case popAt =>
    refine two_ne _ fun _ _ => objL_ne _ _ fun _ _ => withI_ne _ fun _ => ite_ne ?_ bad_ne
    unfold MG.popAtL
    split
    · split
      · exact ok_ne _ _
      · exact bad_ne
    · exact bad_ne
  case get1 =>
    refine two_ne _ fun _ _ => ?_
    unfold MG.getL
    split
    · exact ok_ne _ _
    · exact bad_ne
  case get2 =>
    refine three_ne _ fun _ _ _ => ?_
    unfold MG.getL
    split
    · exact ok_ne _ _
    · exact bad_ne
  case upd =>
    refine two_ne _ fun _ _ => ?_
    unfold MG.updL
    split
    · split
      · exact ite_ne (ok_ne _ _) bad_ne
      · exact bad_ne
    · exact bad_ne
  all_goals exact bad_ne

section
variable {X : Cx} {M : Mc} {W : WX} {cl : MG.Call} {a b e o : Expr} {es : List Expr} {ca cb c : MG.C} {pos p apos : Pos} {n : Nat}

/-! ### built-in functions -/
theorem bi_of {f : MG.Bi} {own : Bool} (hn : argc c = some n) {σ : L2.St} {H : Hp} {Q : VK} (h : tE M W cl (.bi f own c) σ H Q) : tA M W cl c σ H fun vs H1 => rL M (MG.biV M.G own f) vs H1 Q := by
  obtain ⟨m, ρ, st, S, R, P⟩ := h
  unfold MG.evE at P
  exact (tA.bind hn S R P).mono fun vs H1 ⟨m1, st1, l, S1, T1, R1, r1, hl, P1⟩ => ⟨m1, st1, l, S1, r1, P1.pv (biV_ne _ _ _ _ _)⟩
theorem e_callB {id : String} {f : MG.Bi} {own : Bool} {x : PySem.Str} (hn : argc c = some n) (hc : CallR X (.builtin id) (rL M (MG.biV M.G own f))) (hg : Gl X x) (hm : X.mg x = none) (hv : bootBuiltins x = some (.builtin id)) (hx : x ≠ "__name__") (hdb : (x == ("__debug__" : PySem.Str)) = false)
    (he : starEach (e :: es) X.env = (false, eval e X.env) :: starEach es X.env) (hpl : (backTo pos (starEach es X.env)).any (·.1) = false) (ha : PA X (e :: es) (tA M W cl c)) : PE X (.Call (.Name x p) (e :: es) [] pos) (tE M W cl (.bi f own c)) :=
  pe_imp (pe_callB hc hg hm hv ha hx hdb he hpl) fun σ H Q h => bi_of hn h
theorem e_callTy {T : String} {f : MG.Bi} {own : Bool} {x : PySem.Str} (hn : argc c = some n) (hc : CallR X (.type T) (rL M (MG.biV M.G own f))) (hg : Gl X x) (hm : X.mg x = none) (hv : bootBuiltins x = some (.type T)) (hx : x ≠ "__name__") (hdb : (x == ("__debug__" : PySem.Str)) = false)
    (he : starEach (e :: es) X.env = (false, eval e X.env) :: starEach es X.env) (hpl : (backTo pos (starEach es X.env)).any (·.1) = false) (ha : PA X (e :: es) (tA M W cl c)) : PE X (.Call (.Name x p) (e :: es) [] pos) (tE M W cl (.bi f own c)) :=
  pe_imp (pe_callTy hc hg hm hv ha hx hdb he hpl) fun σ H Q h => bi_of hn h
/-- isinstance(a, T) -/
theorem e_isi {T : String} {x : PySem.Str} {p2 : Pos} {f : MG.Bi} {g : MG.Store → MG.D → Bool} (B : BltOk M X) (hg : ∀ (st : MG.Store) (d : MG.D) (t : Value), tyD M st d = some t → PySem.W.kitOne X.K t (.type T) = some (g st d))
    (hf : ∀ d st, MG.biV M.G false f [d] st = MG.seen st d (g st d)) (gi : Gl X "isinstance") (mi : X.mg "isinstance" = none) (gx : Gl X x) (mx : X.mg x = none) (hv : bootBuiltins x = some (.type T)) (hx : x ≠ "__name__") (hdb : (x == ("__debug__" : PySem.Str)) = false)
    (he : starEach [a, .Name x p2] X.env = (false, eval a X.env) :: starEach [.Name x p2] X.env) (ha : PE X a (tE M W cl ca)) : PE X (.Call (.Name "isinstance" p) [a, .Name x p2] [] pos) (tE M W cl (.bi f false (.cons ca .nil))) :=
  pe_imp (pe_callB (cv_isi B hg) gi mi rfl (pa_cons ha (pa_cons (pe_bltn gx mx hv (v := .ty T) rfl hx hdb) pa_nil rfl) he) (by decide) (by decide) he rfl) fun σ H Q ⟨m, ρ, st, S, R, P⟩ => by
    unfold MG.evE at P
    have P : Post M W ⟨m, st, H⟩ σ ((MG.evE M.G cl ca ρ st).bind fun d st1 => MG.biV M.G false f [d] st1) Q := by
      unfold MG.evE at P
      revert P
      cases MG.evE M.G cl ca ρ st with
      | ok d st1 => intro P; simpa [MG.Res.bind, MG.evE] using P
      | err y st1 => exact fun P => P
      | bad => exact fun P => P
    exact (tE.bind S R P).mono fun v H1 ⟨m1, st1, d, S1, T1, R1, r1, P1⟩ => ⟨m1, st1, d, v, rfl, S1, r1, by rw [hf] at P1; exact P1.pv (ite_ne (ok_ne _ _) bad_ne)⟩

/-! ### methods of built-ins -/
def tyM (M : Mc) (f : MG.Bi) : V → Hp → Prop := fun x H => ∃ m st d, Sim M ⟨m, st, H⟩ ∧ RD M ⟨m, st, H⟩ d x ∧ MG.recv f st d = true
theorem bm_of {f : MG.Bi} {own : Bool} (hn : argc c = some n) {σ : L2.St} {H : Hp} {Q : VK} (h : tE M W cl (.bm f own ca c) σ H Q) :
    tE M W cl ca σ H fun x H1 => tyM M f x H1 ∧ tA M W cl c σ H1 fun xs H2 => rL M (MG.biV M.G own f) (x :: xs) H2 Q := by
  obtain ⟨m, ρ, st, S, R, P⟩ := h
  unfold MG.evE at P
  refine (tE.bind S R P).mono fun v H1 ⟨m1, st1, d, S1, T1, R1, r1, P1⟩ => ?_
  by_cases hr : MG.recv f st1 d = true
  · rw [if_pos hr] at P1
    refine ⟨⟨m1, st1, d, S1, r1, hr⟩, ?_⟩
    exact (tA.bind hn S1 R1 P1).mono fun vs H2 ⟨m2, st2, l, S2, T2, R2, r2, hl, P2⟩ => ⟨m2, st2, d :: l, S2, .cons (r1.step T2) r2, P2.pv (biV_ne _ _ _ _ _)⟩
  · rw [if_neg hr] at P1
    exact P1.elim
theorem e_bm0 {T id : String} {name : PySem.Str} {f : MG.Bi} {own : Bool} (ht : TyOk X T (tyM M f)) (pa : PlainAttrs T) (slot : Slot T name id) (hty : typeOf (.builtin id) = pure (.type "method_descriptor")) (hm : MtR X id (fun x xs H Q => rL M (MG.biV M.G own f) (x :: xs) H Q))
    (hbase : attributeBase o name X.env (eval o X.env) = eval o X.env) (hline : (apos.endLine == pos.line) = true) (ho : PE X o (tE M W cl ca)) : PE X (.Call (.Attribute o name apos) [] [] pos) (tE M W cl (.bm f own ca .nil)) :=
  pe_imp (pe_mG0 ht pa slot hty hm ho hbase hline) fun σ H Q h => (bm_of (n := 0) rfl h).mono fun x H1 ⟨h1, m, ρ, st, S, R, P⟩ => by
    unfold MG.evE at P
    exact ⟨h1, P m H1 [] S (Step.refl _) .nil⟩
theorem e_bm {T id : String} {name : PySem.Str} {f : MG.Bi} {own : Bool} (hn : argc c = some n) (ht : TyOk X T (tyM M f)) (pa : PlainAttrs T) (slot : Slot T name id) (hty : typeOf (.builtin id) = pure (.type "method_descriptor")) (hm : MtR X id (fun x xs H Q => rL M (MG.biV M.G own f) (x :: xs) H Q))
    (hbase : attributeBase o name X.env (eval o X.env) = eval o X.env) (hfew : ((backTo pos (starEach (e :: es) X.env)).all (fun x => !x.1) && (backToKw pos (keywordEach [] X.env)).all (fun x => x.1.isSome)
      && decide ((e :: es).length + ([] : List Keyword).length + (if ([] : List Keyword).isEmpty then 0 else 1) < 30)) = true) (hline : (apos.endLine == pos.line) = true)
    (hs : starEach (e :: es) X.env = (false, eval e X.env) :: starEach es X.env) (hplain : (backTo pos (starEach es X.env)).any (·.1) = false) (ho : PE X o (tE M W cl ca)) (ha : PA X (e :: es) (tA M W cl c)) : PE X (.Call (.Attribute o name apos) (e :: es) [] pos) (tE M W cl (.bm f own ca c)) :=
  pe_imp (pe_mG ht pa slot hty hm ho ha hbase hfew hline hs hplain) fun σ H Q h => bm_of hn h
theorem ty_list {f : MG.Bi} (hf : ∀ st d, MG.recv f st d = true → (MG.lstOf st d).isSome = true) : TyOk X "list" (tyM M f) := by
  intro pins σ H s x v I r ⟨m, st, d, S, rd, h⟩
  obtain ⟨ds, e⟩ := Option.isSome_iff_exists.mp (hf st d h)
  obtain ⟨q, vs, rfl, h1, _⟩ := rd_lst S rd e
  exact tyV_is (T := "list") I r (.inl ⟨rfl, vs, .inl (.inl h1)⟩)
theorem ty_dict {f : MG.Bi} (B : BltOk M X) (hf : ∀ st d, MG.recv f st d = true → (∃ n, d = .gd n) ∨ ∃ r, d = .ref r ∧ ((∃ kvs, st[r]? = some (.dK kvs)) ∨ ∃ kvs, st[r]? = some (.dT kvs))) : TyOk X "dict" (tyM M f) := by
  intro pins σ H s x v I r ⟨m, st, d, S, rd, h⟩
  rcases hf st d h with ⟨n, rfl⟩ | ⟨k, rfl, h'⟩
  · clear h
    cases rd with
    | @gd q _ hg =>
      obtain ⟨⟨es, k, kd⟩, _⟩ := B.gd n q hg
      cases r
      have := I.kIn q _ kd.at_
      exact ⟨⟨_, this, rfl⟩, fun z e => by cases e; exact ⟨_, this, rfl⟩⟩
  · clear h
    cases rd with
    | @ref q _ hq =>
      rcases h' with ⟨kvs, h⟩ | ⟨kvs, h⟩
      · obtain ⟨w, q1, _⟩ := S.ob k q _ hq h
        exact tyV_is (T := "dict") I r (.inr (.inr (.inl ⟨rfl, .inl ⟨w, q1⟩⟩)))
      · obtain ⟨w, q1, _⟩ := S.ob k q _ hq h
        exact tyV_is (T := "dict") I r (.inr (.inr (.inl ⟨rfl, .inr ⟨w, q1⟩⟩)))

/-! ### slices -/
theorem slV_ne (own : Bool) (d : MG.D) (lo hi : Option Int) (st : MG.Store) : NoErr (MG.slV own d lo hi st) := by
  unfold MG.slV
  split
  · exact ok_ne _ _
  · split
    · exact give_ne _ _ _
    · exact bad_ne
theorem RDs.cut {s : Sx} {ds : List MG.D} {vs : List V} (r : RDs M s ds vs) (lo hi : Option Int) : RDs M s (MG.cut ds lo hi) (cutV vs lo hi) := by
  unfold MG.cut cutV
  rw [r.length]
  exact (r.drop _).take _
theorem sv_sl {own : Bool} (hK : M.K = X.K) : SlR X (fun x lo hi H Q => ∃ m st d, Sim M ⟨m, st, H⟩ ∧ RD M ⟨m, st, H⟩ d x ∧ PV M ⟨m, st, H⟩ (MG.slV own d lo hi st) Q) := by
  intro pins s σ H x v vl vu lo hi sl Q I rx hs pl pu h
  obtain ⟨m, st, d, S, rd, q⟩ := h
  have lst : ∀ {ds : List MG.D}, MG.lstOf st d = some ds → PV M ⟨m, st, H⟩ (MG.give own (MG.cut ds lo hi) st) Q → ∃ T id, typeLookup (.type T) "__getitem__" = pure (some (.builtin id)) ∧ s.TypeIs v T ∧ wpAny (model X.prog X.w) X.A (getItem v (.ref sl)) (EP X pins σ Q) X.xe s := by
    intro ds e q
    obtain ⟨a, vs, rfl, h1, r⟩ := rd_lst S rd e
    exact sl_list pins s σ H _ v vl vu lo hi sl Q I rx hs pl pu ⟨a, vs, rfl, .inl (.inl h1), fun p hp => PV.give (s := ⟨m, st, H⟩) q S (RDs.cut r lo hi) hp⟩
  cases d with
  | tup ds =>
    obtain ⟨a, vs, rfl, h1, r⟩ := rd_tup rd
    rw [hK] at h1
    refine sl_tupA pins s σ H _ v vl vu lo hi sl Q I rx hs pl pu ⟨a, vs, rfl, h1, fun hw => ?_, fun _ p hp => PV.tup (s := ⟨m, st, H⟩) q S (RDs.cut r lo hi) hp⟩
    refine PV.val (s := ⟨m, st, H⟩) q S ?_
    have e : MG.cut ds lo hi = ds := by
      have hl := r.length
      unfold MG.cut
      have e1 : MG.cutAt ds.length 0 lo = 0 := by rw [hl]; exact hw.1
      have e2 : MG.cutAt ds.length ds.length hi = ds.length := by rw [hl]; exact hw.2
      rw [e1, e2]
      simp
    rw [e]
    exact rd
  | lst ds => exact lst rfl q
  | ref r =>
    unfold MG.slV at q
    simp only at q
    split at q
    · rename_i ds e; exact lst e q
    · exact q.elim
  | _ => exact q.elim
/-- a slice's part -/
inductive PartOk (X : Cx) (M : Mc) (W : WX) (cl : MG.Call) : MG.C → Option Expr → Prop
  | none : PartOk X M W cl (.k .non) none
  | some {c : MG.C} {e : Expr} : (∀ d, c = .k d → d ≠ .non) → PE X e (tE M W cl c) → PartOk X M W cl c (some e)
def tP (M : Mc) (W : WX) (cl : MG.Call) (c : MG.C) : L2.TO := match c with
  | .k .non => tNoPart
  | c => tPart (tE M W cl c)
theorem PartOk.po {c : MG.C} {e : Option Expr} (h : PartOk X M W cl c e) : PO X e (tP M W cl c) := by
  cases h with
  | none => exact po_none
  | @some c e hn h =>
    have : tP M W cl c = tPart (tE M W cl c) := by
      unfold tP
      split
      · exact absurd rfl (hn _ rfl)
      · rfl
    rw [this]
    exact po_some h
theorem part_of {c : MG.C} {e : Option Expr} (hp : PartOk X M W cl c e) {σ : L2.St} {ρ : MG.Env} {s : Sx} {f : MG.D → MG.Store → MG.Res MG.D} {Q : VK} (S : Sim M s) (R : RE M s ρ σ) (h : Post M W s σ ((MG.evE M.G cl c ρ s.st).bind f) Q)
    (hf : ∀ d st, MG.partOf c d = none → f d st = .bad) :
    tP M W cl c σ s.H fun i H1 => ∃ m1 st1 d, Sim M ⟨m1, st1, H1⟩ ∧ Step s ⟨m1, st1, H1⟩ ∧ RE M ⟨m1, st1, H1⟩ ρ σ ∧ MG.partOf c d = some i ∧ Post M W ⟨m1, st1, H1⟩ σ (f d st1) Q := by
  cases hp with
  | none =>
    unfold MG.evE at h
    exact ⟨s.m, s.st, .non, S, Step.refl _, R, rfl, h⟩
  | @some c e hn hp =>
    have e1 : tP M W cl c = tPart (tE M W cl c) := by
      unfold tP
      split
      · exact absurd rfl (hn _ rfl)
      · rfl
    rw [e1]
    refine (tE.bind S R h).mono fun v H1 ⟨m1, st1, d, S1, T1, R1, r1, P1⟩ => ?_
    by_cases hd : MG.partOf c d = none
    · rw [hf d st1 hd] at P1
      exact P1.elim
    · have : ∃ i, d = .int i := by
        unfold MG.partOf at hd
        split at hd
        · exact absurd rfl (hn _ rfl)
        · exact ⟨_, rfl⟩
        · exact absurd rfl hd
      obtain ⟨i, rfl⟩ := this
      cases r1
      refine ⟨i, rfl, m1, st1, .int i, S1, T1, R1, ?_, P1⟩
      unfold MG.partOf
      split
      · exact absurd rfl (hn _ rfl)
      · rename_i j h1 h2; cases h2; rfl
      · rename_i h1 h2; exact absurd rfl (h2 i)
theorem e_slc {own : Bool} {clo chi : MG.C} {lo hi : Option Expr} {p2 : Pos} (hK : M.K = X.K) (ha : PE X a (tE M W cl ca)) (hl : PartOk X M W cl clo lo) (hh : PartOk X M W cl chi hi) : PE X (.Subscript a (.Slice lo hi none p2) pos) (tE M W cl (.slc own ca clo chi)) :=
  pe_imp (pe_slice (sv_sl (own := own) hK) ha hl.po hh.po) fun σ H Q ⟨m, ρ, st, S, R, P⟩ => by
    unfold MG.evE at P
    refine (tE.bind S R P).mono fun v H1 ⟨m1, st1, d, S1, T1, R1, r1, P1⟩ => ?_
    refine po_mono hl (part_of hl S1 R1 P1 fun d' st' hd => by simp only [hd]) fun i H2 ⟨m2, st2, dl, S2, T2, R2, el, P2⟩ => ?_
    simp only [el] at P2
    refine po_mono hh (part_of hh S2 R2 P2 fun d' st' hd => by simp only [hd]) fun j H3 ⟨m3, st3, dh, S3, T3, R3, eh, P3⟩ => ?_
    simp only [eh] at P3
    exact ⟨m3, st3, d, S3, (r1.step T2).step T3, P3.pv (slV_ne _ _ _ _ _)⟩
where
  po_mono {c : MG.C} {e : Option Expr} (hp : PartOk X M W cl c e) {σ : L2.St} {H : Hp} {Q Q' : Option Int → Hp → Prop} (h : tP M W cl c σ H Q) (hq : ∀ i H, Q i H → Q' i H) : tP M W cl c σ H Q' := by
    unfold tP at h ⊢
    revert h
    split
    · exact fun h => hq _ _ h
    · exact fun h => tE.mono h fun v H1 ⟨i, e, q⟩ => ⟨i, e, hq _ _ q⟩
end
end MGS

set_option Elab.async false
set_option linter.all false
set_option maxRecDepth 100000
set_option maxHeartbeats 4000000
/-! isinstance(x, (tuple, list)). -/
namespace MGS
open PySem PySem.Spec PyProof.Rows L2
section
variable {X : Cx} {M : Mc} {W : WX} {cl : MG.Call} {ca : MG.C} {a : Expr} {p pos : Pos}
theorem hg_tl (B : BltOk M X) (st : MG.Store) (d : MG.D) (t : Value) (h : tyD M st d = some t) : PySem.W.kitAny X.K t [.type "tuple", .type "list"] = some (MG.isTupB d || MG.isLstB st d) := by
  refine kitAny_cons (hg_tup B st d t h) (fun hb => ?_) (fun hb => by rw [hb]; rfl)
  rw [hb, Bool.false_or]
  exact kitAny_cons (hg_lst B st d t h) (fun hb => by rw [hb]; exact kitAny_nil) (fun hb => hb)
theorem cv_isiTL (B : BltOk M X) : CallR X (.builtin "isinstance") (fun xs H Q => ∃ m st d x tp, xs = [x, .ref tp] ∧ H tp = some (.tup [.ty "tuple", .ty "list"]) ∧ Sim M ⟨m, st, H⟩ ∧ RD M ⟨m, st, H⟩ d x ∧ PV M ⟨m, st, H⟩ (MG.seen st d (MG.isTupB d || MG.isLstB st d)) Q) := by
  intro pins s σ H xs us Q I r h
  obtain ⟨m, st, d, x, tp, rfl, hT, S, hd, q⟩ := h
  obtain ⟨c, q⟩ := PV.ite (s := ⟨m, st, H⟩) q
  obtain ⟨t, e, ty⟩ := tyD_ok B S hd c
  exact call_isiT pins s σ H _ us Q I r ⟨x, tp, _, t, _, _, rfl, hT, .cons (.ty "tuple") (.cons (.ty "list") .nil), ty, hg_tl B st d t e, PV.val (s := ⟨m, st, H⟩) q S (.bl _)⟩
theorem e_isiTL {p2 p3 p4 : Pos} {kk : Nat} (B : BltOk M X) (gi : Gl X "isinstance") (mi : X.mg "isinstance" = none) (g1 : Gl X "tuple") (m1 : X.mg "tuple" = none) (g2 : Gl X "list") (m2 : X.mg "list" = none)
    (he : starEach [a, .Tuple [.Name "tuple" p3, .Name "list" p4] kk p2] X.env = (false, eval a X.env) :: starEach [.Tuple [.Name "tuple" p3, .Name "list" p4] kk p2] X.env) (ha : PE X a (tE M W cl ca)) : PE X (.Call (.Name "isinstance" p) [a, .Tuple [.Name "tuple" p3, .Name "list" p4] kk p2] [] pos) (tE M W cl (.bi .isTL false (.cons ca .nil))) :=
  pe_imp (pe_callB (cv_isiTL B) gi mi rfl (pa_cons ha (pa_cons (pe_tup (pa_cons (pe_bltn g1 m1 rfl (v := .ty "tuple") rfl (by decide) (by decide)) (pa_cons (pe_bltn g2 m2 rfl (v := .ty "list") rfl (by decide) (by decide)) pa_nil rfl) rfl)) pa_nil rfl) he) (by decide) (by decide) he rfl) fun σ H Q ⟨m, ρ, st, S, R, P⟩ => by
    unfold MG.evE at P
    have P : Post M W ⟨m, st, H⟩ σ ((MG.evE M.G cl ca ρ st).bind fun d st1 => MG.biV M.G false .isTL [d] st1) Q := by
      unfold MG.evE at P
      revert P
      cases MG.evE M.G cl ca ρ st with
      | ok d st1 => intro P; simpa [MG.Res.bind, MG.evE] using P
      | err y st1 => exact fun P => P
      | bad => exact fun P => P
    refine (tE.bind S R P).mono fun v H1 ⟨m1, st1, d, S1, T1, R1, r1, P1⟩ => ⟨by rw [sizeLine_eq]; decide, fun q hq => ?_⟩
    have T2 : Step ⟨m1, st1, H1⟩ ⟨m1, st1, upd H1 q (.tup [.ty "tuple", .ty "list"])⟩ := lay_step S1 hq
    have P2 : PV M ⟨m1, st1, H1⟩ (MG.seen st1 d (MG.isTupB d || MG.isLstB st1 d)) Q := P1.pv (ite_ne (ok_ne _ _) bad_ne)
    exact ⟨m1, st1, d, v, q, rfl, upd_same, lay_sim S1 hq, r1.step T2, Post.shift P2 T2⟩
end
end MGS

set_option Elab.async false
set_option linter.all false
set_option maxRecDepth 100000
set_option maxHeartbeats 4000000
/-! Core expressions against the layer's judgements: fields, calls of the text's own defs, instances, dicts. -/
namespace MGS
open PySem PySem.Spec PyProof.Rows L2
section
variable {X : Cx} {M : Mc} {W : WX} {cl : MG.Call} {a b e o : Expr} {es : List Expr} {ca cb c : MG.C} {pos p apos : Pos} {n : Nat}

theorem Post.val {s : Sx} {σ : L2.St} {d : MG.D} {v : V} {Q : VK} (h : Post M W s σ (.ok d s.st) Q) (S : Sim M s) (q : RD M s d v) : Q v s.H := h s.m s.H v S (Step.refl s) q
/-! ### reversed, freeze -/
theorem e_rev {own : Bool} {k : Nat} {p1 p2 p3 : Pos} (ha : PE X a (tE M W cl ca)) : PE X (.Subscript a (.Slice none none (some (.UnaryOp .USub (.Constant (.int 1) k p1) p2)) p3) pos) (tE M W cl (.rev own ca)) :=
  pe_imp (pe_revL ha) fun σ H Q ⟨m, ρ, st, S, R, P⟩ => by
    unfold MG.evE at P
    refine (tE.bind S R P).mono fun v H1 ⟨m1, st1, d, S1, T1, R1, r1, P1⟩ => ?_
    split at P1
    · rename_i ds e
      obtain ⟨q, vs, rfl, h1, r⟩ := rd_lst S1 r1 e
      exact ⟨q, vs, rfl, .inl (.inl h1), fun p hp => PV.give (s := ⟨m1, st1, H1⟩) (P1.pv (give_ne _ _ _)) S1 r.reverse hp⟩
    · exact P1.elim
/-- an object of the store becomes a value -/
theorem frz_of {s : Sx} {σ : L2.St} {r : Nat} {v : V} {Q : VK} (S : Sim M s) (rd : RD M s (.ref r) v) (P : Post M W s σ (MG.freeze r s.st) Q) : Q v s.H := by
  unfold MG.freeze at P
  split at P
  · rename_i ds e
    cases rd with
    | @ref q _ hq =>
      obtain ⟨vs, h1, h2⟩ := S.ob r q _ hq e
      exact P s.m s.H _ (free_sim S) (free_step S) (.lst h1 (free_not S hq) (h2.step (free_step S)))
  · exact P.elim
theorem e_frz (ha : PE X a (tE M W cl ca)) : PE X a (tE M W cl (.frz ca)) :=
  pe_imp ha fun σ H Q ⟨m, ρ, st, S, R, P⟩ => by
    unfold MG.evE at P
    refine (tE.bind S R P).mono fun v H1 ⟨m1, st1, d, S1, T1, R1, r1, P1⟩ => ?_
    cases d with
    | ref r => exact frz_of S1 r1 P1
    | _ => exact P1.elim

/-! ### list(range(n)), list(zip(a, b)) -/
theorem rds_range {s : Sx} : ∀ (n : Nat) (a : Int), RDs M s (MG.rangeD a n) ((List.range n).map fun i => V.int (a + (i : Nat)))
  | 0, a => .nil
  | n + 1, a => by
    rw [List.range_succ_eq_map, List.map_cons, List.map_map]
    unfold MG.rangeD
    refine .cons (by simpa using RD.int a) ?_
    have ih := rds_range (s := s) n (a + 1)
    have e : ((fun i : Nat => V.int (a + (i : Nat))) ∘ Nat.succ) = fun i : Nat => V.int (a + 1 + (i : Nat)) := by
      funext i
      simp only [Function.comp, Nat.succ_eq_add_one, Int.natCast_add]
      congr 1
      omega
    rw [e]
    exact ih
theorem one_arg' {f : MG.Bi} {own : Bool} {σ : L2.St} {H : Hp} {Q : VK} (h : tE M W cl (.bi f own (.cons ca .nil)) σ H Q) :
    tE M W cl ca σ H fun v H1 => ∃ m1 st1 d, Sim M ⟨m1, st1, H1⟩ ∧ RD M ⟨m1, st1, H1⟩ d v ∧ PV M ⟨m1, st1, H1⟩ (MG.biV M.G own f [d] st1) Q := by
  obtain ⟨m, ρ, st, S, R, P⟩ := h
  unfold MG.evE at P
  have P : Post M W ⟨m, st, H⟩ σ ((MG.evE M.G cl ca ρ st).bind fun d st1 => MG.biV M.G own f [d] st1) Q := by
    unfold MG.evE at P
    revert P
    cases MG.evE M.G cl ca ρ st with
    | ok d st1 => intro P; simpa [MG.Res.bind, MG.evE] using P
    | err y st1 => exact fun P => P
    | bad => exact fun P => P
  exact (tE.bind S R P).mono fun v H1 ⟨m1, st1, d, S1, T1, R1, r1, P1⟩ => ⟨m1, st1, d, S1, r1, P1.pv (biV_ne _ _ _ _ _)⟩
theorem e_listRg {own : Bool} {p2 pos2 : Pos} (hc : X.calm = true) (g1 : Gl X "list") (m1 : X.mg "list" = none) (g2 : Gl X "range") (m2 : X.mg "range" = none) (hs : starEach [a] X.env = (false, eval a X.env) :: starEach [] X.env) (ha : PE X a (tE M W cl ca)) :
    PE X (.Call (.Name "list" p) [.Call (.Name "range" p2) [a] [] pos2] [] pos) (tE M W cl (.bi .range own (.cons ca .nil))) :=
  pe_imp (pe_listRg hc g1 m1 (prg_1 g2 m2 ha hs) rfl) fun σ H Q h => (one_arg' h).mono fun v H1 ⟨m1, st1, d, S1, r1, P1⟩ => by
    unfold MG.biV at P1
    simp only [MG.one] at P1
    obtain ⟨i, rfl, rfl, P1⟩ := PV.withI (s := ⟨m1, st1, H1⟩) P1 r1
    obtain ⟨⟨h1, h2⟩, P1⟩ := PV.ite (s := ⟨m1, st1, H1⟩) P1
    have h2 : i ≤ 16777216 := h2
    refine ⟨i, rfl, ⟨by omega, by omega, by omega, by omega, by omega⟩, fun q hq => PV.give (s := ⟨m1, st1, H1⟩) P1 S1 ?_ hq⟩
    unfold rgV
    rw [Int.sub_zero]
    exact rds_range _ 0
theorem grow_step {s : Sx} {H' : Hp} (hx : ∀ c, s.H c ≠ none → H' c = s.H c) : Step s ⟨s.m, s.st, H'⟩ :=
  Step.mk' ⟨[], by simp⟩ (fun b o h _ => (hx b (by rw [h]; simp)).trans h) (fun b _ n => n) fun b h => by show H' b ≠ none; rw [hx b h]; exact h
theorem grow_sim {s : Sx} {H' : Hp} (S : Sim M s) (hx : ∀ c, s.H c ≠ none → H' c = s.H c) : Sim M ⟨s.m, s.st, H'⟩ :=
  ⟨S.len, S.nd, fun b hb => (grow_step hx).more b (S.al b hb), fun r b ob h1 h2 => (S.ob r b ob h1 h2).step (grow_step hx) (hx b (S.al b (List.mem_of_getElem? h1)))⟩
theorem rds_zip {s : Sx} : ∀ {l l' : List MG.D} {xs ys : List V} {Ts : List Addr}, RDs M s l xs → RDs M s l' ys → Ts.length = min xs.length ys.length →
    (∀ (j : Nat) (T : Addr), Ts[j]? = some T → ∃ x y, xs[j]? = some x ∧ ys[j]? = some y ∧ s.H T = some (.tup [x, y]) ∧ ¬ live s T) → RDs M s (MG.zipD l l') (Ts.map V.ref)
  | [], l', xs, ys, Ts, r1, r2, hl, h => by
    cases r1
    have : Ts = [] := List.length_eq_zero_iff.mp (by simpa using hl)
    subst this
    exact .nil
  | d :: l, [], xs, ys, Ts, r1, r2, hl, h => by
    cases r2
    have : Ts = [] := List.length_eq_zero_iff.mp (by simpa using hl)
    subst this
    exact .nil
  | d :: l, d' :: l', _, _, [], .cons h1 r1, .cons h2 r2, hl, h => by simp at hl
  | d :: l, d' :: l', _, _, T :: Ts, .cons h1 r1, .cons h2 r2, hl, h => by
    obtain ⟨x, y, e1, e2, e3, e4⟩ := h 0 T rfl
    simp at e1 e2
    subst e1 e2
    refine .cons (.tup e3 e4 (.cons h1 (.cons h2 .nil))) (rds_zip r1 r2 (by simp at hl; omega) fun j T' hj => ?_)
    obtain ⟨x, y, e1, e2, e3⟩ := h (j + 1) T' (by simpa using hj)
    exact ⟨x, y, by simpa using e1, by simpa using e2, e3⟩
theorem e_listZip {p2 pos2 : Pos} (hK : M.K = X.K) (hn : argc c = some n) (hc : X.calm = true) (g1 : Gl X "list") (m1 : X.mg "list" = none) (g2 : Gl X "zip") (m2 : X.mg "zip" = none) (hs2 : starEach [a, b] X.env = (false, eval a X.env) :: starEach [b] X.env) (hpl : (backTo pos2 (starEach [b] X.env)).any (·.1) = false)
    (ha : PA X [a, b] (tA M W cl c)) : PE X (.Call (.Name "list" p) [.Call (.Name "zip" p2) [a, b] [] pos2] [] pos) (tE M W cl (.bi .zip false c)) :=
  pe_imp (MGZ.pe_listZip hc g1 m1 g2 m2 ha rfl hs2 hpl) fun σ H Q h => (bi_of hn h).mono fun vs H1 ⟨m1, st1, l, S1, r1, P1⟩ => by
    obtain ⟨d, d', v, v', rfl, rfl, h1, h2, P1⟩ := PV.two (s := ⟨m1, st1, H1⟩) P1 r1
    unfold MG.zipL at P1
    split at P1
    · rename_i l l'
      obtain ⟨x, xs, rfl, q1, w1⟩ := rd_tup h1
      obtain ⟨y, ys, rfl, q2, w2⟩ := rd_tup h2
      rw [hK] at q1 q2
      refine ⟨x, y, xs, ys, rfl, q1, q2, fun p Ts H' hp hpT hT hx hl hlen hat => ?_⟩
      have hx' : ∀ z, H1 z ≠ none → H' z = H1 z := fun z hz => hx z (fun e => hz (by rw [e]; exact hp)) fun hm => hz (hT z hm)
      have T2 : Step ⟨m1, st1, H1⟩ ⟨m1, st1, H'⟩ := grow_step hx'
      have S2 : Sim M ⟨m1, st1, H'⟩ := grow_sim S1 hx'
      have nl : ∀ z, H1 z = none → ¬ live ⟨m1, st1, H'⟩ z := fun z hz ⟨r, ob, h1, h2, h3⟩ => S1.al z (List.mem_of_getElem? h1) hz
      refine P1 m1 H' (.ref p) S2 T2 (.lst hl (nl p hp) (rds_zip (w1.step T2) (w2.step T2) hlen fun j T hj => ?_))
      obtain ⟨x, y, e1, e2, e3⟩ := hat j T hj
      exact ⟨x, y, e1, e2, e3, nl T (hT T (List.mem_of_getElem? hj))⟩
    · exact P1.elim

/-! ### fields -/
/-- a field's name is no attribute of any class -/
def FldOk (M : Mc) (X : Cx) (f : String) : Prop := ∀ c C, M.cls c = some C → NoAttr X.K C (sOf f)
theorem e_fld {f : String} (B : BltOk M X) (hf : FldOk M X f) (hb : attributeBase a (sOf f) X.env (eval a X.env) = eval a X.env) (ha : PE X a (tE M W cl ca)) : PE X (.Attribute a (sOf f) pos) (tE M W cl (.fld ca f)) :=
  pe_imp (pe_fld ha hb) fun σ H Q ⟨m, ρ, st, S, R, P⟩ => by
    unfold MG.evE at P
    refine (tE.bind S R P).mono fun v H1 ⟨m1, st1, d, S1, T1, R1, r1, P1⟩ => ?_
    cases d with
    | ref r =>
      simp only at P1
      split at P1
      · rename_i c fs e
        cases r1 with
        | @ref q _ hq =>
          obtain ⟨C, dx, gs, h0, h1, h2⟩ := S1.ob r q _ hq e
          obtain ⟨z, ez, qz⟩ := PV.okB (s := ⟨m1, st1, H1⟩) (P1.pv (okB_ne _ _ _))
          have h3 := h2.2 f
          rw [ez] at h3
          obtain ⟨w, e1, e2⟩ := h3
          exact ⟨q, C, dx, gs, w, rfl, h1, (B.pl c C h0).cl, hf c C h0, e1, qz.val S1 e2⟩
      · exact P1.elim
    | _ => exact P1.elim

/-! ### the text's own defs -/
/-- what a def promises: what the core machine says -/
def spOf (M : Mc) (cl : MG.Call) (f : String) : Sp := fun vs H Q E => ∃ m st ds, Sim M ⟨m, st, H⟩ ∧ RDs M ⟨m, st, H⟩ ds vs ∧ Post M (fun cv d _ H' => E cv d H') ⟨m, st, H⟩ [] (cl f ds st) Q
theorem Post.at_ {s : Sx} {σ : L2.St} {r : MG.Res MG.D} {Q : VK} (h : Post M W s σ r Q) : Post M (fun cv d _ H' => WE W σ cv d H') s [] r Q := by
  cases r <;> exact h
section
variable {CX : CXT} {k : Nat} {f C : Addr} {fd : FuncData} {ps : List PySem.Str} {sp : Sp} {E : L2.St → XK} {x m : PySem.Str} {ta : TE} {t : TA}
theorem pe_call0S (F : FnOk X.prog X.w X.K X.mg X.base CX k f fd ps sp) (hr : Room k X.A) (hg : Gl X x) (hm : X.mg x = some (.ref f)) (hk : PySem.W.keepIn X.K (.ref f) = true) (hb : Binds X.K fd ps []) (hx : ∀ σ, PassesAt CX X σ (E σ))
    (hdb : (x == ("__debug__" : PySem.Str)) = false) : PE X (.Call (.Name x p) [] [] pos) (tCallS sp E tNil) := by
  refine ⟨fun pins s σ H Q I h => ?_⟩
  refine wpAny_Call_Name_kw (ld_glob I hg hm ?_ hdb)
  exact PySem.W.callWith_K0 I.kIn hk (run_fnS (us := []) F hr hb (hx σ) I .nil h)
def tMethS (C : Addr) (m : PySem.Str) (sp : Sp) (E : L2.St → XK) (ta : TE) (t : TA) : TE := fun σ H Q => ta σ H fun x H1 => ∃ a dx fs, x = .ref a ∧ H1 a = some (.ins C dx fs) ∧ fs.lookup m = none ∧
  t σ H1 fun vs H2 => sp (x :: vs) H2 Q (E σ)
theorem pe_methSA {pl : Sem Bool} (he : PE X o ta) (c : Cls X.K C) (hm : Meth X.K C m f) (F : FnOk X.prog X.w X.K X.mg X.base CX k f fd ps sp) (hr : Room k X.A) (hb : Binds X.K fd ps []) (hx : ∀ σ, PassesAt CX X σ (E σ)) (ha : PA X (e :: es) t)
    (hst : starEach (e :: es) X.env = (false, eval e X.env) :: starEach es X.env) (hpl : (backTo pos (starEach es X.env)).any (·.1) = false)
    (ht : eval (.Call (.Attribute o m apos) (e :: es) [] pos) X.env = (do
      let ov ← eval o X.env
      standAt apos.atName
      let (f, first) ← holding [ov] (getMethod ov m pl)
      callWith pos f first (backTo pos (starEach (e :: es) X.env)) (backToKw pos (keywordEach [] X.env)))) :
    PE X (.Call (.Attribute o m apos) (e :: es) [] pos) (tMethS C m sp E ta t) := by
  refine ⟨fun pins s σ H Q I h => ?_⟩
  refine PySem.W.methodCall_KW (pl := pl) (thn (he.run pins s σ H _ I h) fun u s1 ⟨x, H1, I1, rx, a, dx, fs, ex, ea, l, q⟩ => ?_) ht
  subst ex
  obtain rfl : u = Value.ref a := rx
  refine getmeth_ok I1 ea c hm l ?_
  refine PySem.W.callWith_K (first := [.ref a]) (h₀ := X.base) I.ok.mod.kin hm.kp (thn (ha.run pos pins s1 σ H1 _ I1 q) fun us s2 ⟨vs, H2, I2, r, q2⟩ => ⟨I2.kIn, ?_⟩) hst hpl
  exact run_fnS (us := .ref a :: us) (vs := .ref a :: vs) F hr hb (hx σ) I2 (.cons rfl r) q2
theorem pe_meth0S {pl : Sem Bool} (he : PE X o ta) (c : Cls X.K C) (hm : Meth X.K C m f) (F : FnOk X.prog X.w X.K X.mg X.base CX k f fd ps sp) (hr : Room k X.A) (hb : Binds X.K fd ps []) (hx : ∀ σ, PassesAt CX X σ (E σ))
    (ht : eval (.Call (.Attribute o m apos) [] [] pos) X.env = (do
      let ov ← eval o X.env
      standAt apos.atName
      let (f, first) ← holding [ov] (getMethod ov m pl)
      callWith pos f first (backTo pos (starEach [] X.env)) (backToKw pos (keywordEach [] X.env)))) :
    PE X (.Call (.Attribute o m apos) [] [] pos) (tMethS C m sp E ta tNil) := by
  refine ⟨fun pins s σ H Q I h => ?_⟩
  refine PySem.W.methodCall_KW (pl := pl) (thn (he.run pins s σ H _ I h) fun u s1 ⟨x, H1, I1, rx, a, dx, fs, ex, ea, l, q⟩ => ?_) ht
  subst ex
  obtain rfl : u = Value.ref a := rx
  refine getmeth_ok I1 ea c hm l ?_
  exact PySem.W.callWith_K0 (first := [.ref a]) I1.kIn hm.kp (run_fnS (us := [.ref a]) (vs := [.ref a]) F hr hb (hx σ) I1 (.cons rfl .nil) q)
def tMakeS (C : Addr) (sp : Sp) (E : L2.St → XK) (t : TA) : TE := fun σ H Q => t σ H fun vs H1 => ∀ x dx, H1 x = none → H1 dx = none → dx ≠ x →
  sp (.ref x :: vs) (upd (upd H1 dx (.own x)) x (.ins C dx [])) (fun v H2 => v = .non ∧ Q (.ref x) H2) (E σ)
theorem pe_makeS (K : Mk X.K C f) (F : FnOk X.prog X.w X.K X.mg X.base CX k f fd ps sp) (hr : Room (k + 1) X.A) (hg : Gl X x) (hm : X.mg x = some (.ref C)) (hb : Binds X.K fd ps []) (hx : ∀ σ, PassesAt CX X σ (E σ))
    (ha : PA X (e :: es) t) (hdb : (x == ("__debug__" : PySem.Str)) = false) (he : starEach (e :: es) X.env = (false, eval e X.env) :: starEach es X.env) (hpl : (backTo pos (starEach es X.env)).any (·.1) = false) :
    PE X (.Call (.Name x p) (e :: es) [] pos) (tMakeS C sp E t) := by
  refine ⟨fun pins s σ H Q I h => ?_⟩
  refine wpAny_Call_Name_kw (ld_glob I hg hm ?_ hdb)
  refine PySem.W.callWith_K (h₀ := X.base) I.ok.mod.kin K.kp (thn (ha.run pos pins s σ H _ I h) fun us s1 ⟨vs, H1, I1, r, q⟩ => ⟨I1.kIn, ?_⟩) he hpl
  have hq := q (s1.heap.objs.size + 1) s1.heap.objs.size (I1.hok.fresh (Nat.le_succ _)) (I1.hok.fresh (Nat.le_refl _)) (Nat.ne_of_lt (Nat.lt_succ_self _))
  have I2 := Inv.made (C := C) I1
  have r2 : Vals (V.ref (s1.heap.objs.size + 1) :: vs) (Value.ref (s1.heap.objs.size + 1) :: us) := .cons rfl r
  have hl : (Value.ref (s1.heap.objs.size + 1) :: us ++ []).length = ps.length := by
    have e := r2.length
    rw [F.len _ _ _ _ hq] at e
    rw [List.append_nil]
    exact e.symm
  have hb' := hb _ (Value.ref (s1.heap.objs.size + 1) :: us) I2.kIn hl
  rw [List.append_nil] at hb'
  refine wpAny_call (make_map (f := f) I1.kIn K.makes K.init (beq_iff_eq.mp K.fn) (codeAny_mono (F.run _ X.stack _ _ ⟨Value.ref (s1.heap.objs.size + 1) :: us, []⟩ (Value.ref (s1.heap.objs.size + 1) :: us) _ _ (E σ) (hr.make C us [])
    (I2.env0.make C us []) hb' r2 hq) fun r s' hq' => ?_))
  cases r with
  | error e => exact hx σ pins _ _ e s' I2 hq'
  | ok fl =>
    cases fl with
    | ret u =>
      obtain ⟨v, H', I3, rv, ev, q3⟩ := I2.after hq'
      subst ev
      exact ⟨rv, ⟨V.ref (s1.heap.objs.size + 1), H', I3, rfl, q3⟩⟩
    | next => exact False.elim hq'
    | brk => exact False.elim hq'
    | cont => exact False.elim hq'
end
/-- a def of the text, by its name in the core -/
structure FnAt (X : Cx) (M : Mc) (cl : MG.Call) (k : Nat) (f : String) (A : Addr) : Prop where
  fn : ∃ fd ps, FnOk X.prog X.w X.K X.mg X.base (L2.CX X.prog X.w) k A fd ps (spOf M cl f) ∧ Binds X.K fd ps []
  kp : PySem.W.keepIn X.K (.ref A) = true
theorem e_call {k : Nat} {f : String} {A : Addr} (hn : argc c = some n) (F : FnAt X M cl k f A) (hr : Room k X.A) (hg : Gl X (sOf f)) (hm : X.mg (sOf f) = some (.ref A)) (hx : ∀ σ, PassesAt (L2.CX X.prog X.w) X σ (WE W σ)) (hdb : (sOf f == ("__debug__" : PySem.Str)) = false)
    (he : starEach (e :: es) X.env = (false, eval e X.env) :: starEach es X.env) (hpl : (backTo pos (starEach es X.env)).any (·.1) = false) (ha : PA X (e :: es) (tA M W cl c)) : PE X (.Call (.Name (sOf f) p) (e :: es) [] pos) (tE M W cl (.call f c)) := by
  obtain ⟨fd, ps, F1, F2⟩ := F.fn
  refine pe_imp (pe_callS F1 hr hg hm F.kp F2 hx ha hdb he hpl) fun σ H Q ⟨m, ρ, st, S, R, P⟩ => ?_
  unfold MG.evE at P
  exact (tA.bind hn S R P).mono fun vs H1 ⟨m1, st1, l, S1, T1, R1, r1, hl, P1⟩ => ⟨m1, st1, l, S1, r1, P1.at_⟩
theorem e_call0 {k : Nat} {f : String} {A : Addr} (F : FnAt X M cl k f A) (hr : Room k X.A) (hg : Gl X (sOf f)) (hm : X.mg (sOf f) = some (.ref A)) (hx : ∀ σ, PassesAt (L2.CX X.prog X.w) X σ (WE W σ)) (hdb : (sOf f == ("__debug__" : PySem.Str)) = false) :
    PE X (.Call (.Name (sOf f) p) [] [] pos) (tE M W cl (.call f .nil)) := by
  obtain ⟨fd, ps, F1, F2⟩ := F.fn
  refine pe_imp (pe_call0S F1 hr hg hm F.kp F2 hx hdb) fun σ H Q ⟨m, ρ, st, S, R, P⟩ => ?_
  simp only [MG.evE, MG.Res.bind] at P
  exact ⟨m, st, [], S, .nil, P.at_⟩
theorem me_of {cn mn : String} {C : Addr} (hC : M.cls cn = some C) (hn : argc c = some n) {σ : L2.St} {H : Hp} {Q : VK} (h : tE M W cl (.meth cn mn ca c) σ H Q) :
    tE M W cl ca σ H fun x H1 => ∃ a dx fs, x = .ref a ∧ H1 a = some (.ins C dx fs) ∧ fs.lookup (sOf mn) = none ∧ tA M W cl c σ H1 fun vs H2 => spOf M cl (cn ++ "." ++ mn) (x :: vs) H2 Q (WE W σ) := by
  obtain ⟨m, ρ, st, S, R, P⟩ := h
  unfold MG.evE at P
  refine (tE.bind S R P).mono fun v H1 ⟨m1, st1, d, S1, T1, R1, r1, P1⟩ => ?_
  cases d with
  | ref r =>
    simp only at P1
    split at P1
    · rename_i c' fs e
      by_cases hc : cn = c' ∧ MG.fget fs mn = none
      · rw [if_pos hc] at P1
        obtain ⟨rfl, hf⟩ := hc
        cases r1 with
        | @ref q _ hq =>
          obtain ⟨C', dx, gs, h0, h1, h2⟩ := S1.ob r q _ hq e
          rw [hC] at h0
          cases h0
          have h3 := h2.2 mn
          rw [hf] at h3
          refine ⟨q, dx, gs, rfl, h1, h3, ?_⟩
          exact (tA.bind hn S1 R1 P1).mono fun vs H2 ⟨m2, st2, l, S2, T2, R2, r2, hl, P2⟩ => ⟨m2, st2, .ref r :: l, S2, .cons (.ref (T2.at hq)) r2, P2.at_⟩
      · rw [if_neg hc] at P1; exact P1.elim
    · exact P1.elim
  | _ => exact P1.elim
theorem e_meth {k : Nat} {cn mn : String} {C A : Addr} {pl : Sem Bool} (hC : M.cls cn = some C) (hn : argc c = some n) (F : FnAt X M cl k (cn ++ "." ++ mn) A) (hcl : Cls X.K C) (hme : Meth X.K C (sOf mn) A) (hr : Room k X.A) (hx : ∀ σ, PassesAt (L2.CX X.prog X.w) X σ (WE W σ))
    (hst : starEach (e :: es) X.env = (false, eval e X.env) :: starEach es X.env) (hpl : (backTo pos (starEach es X.env)).any (·.1) = false)
    (ht : eval (.Call (.Attribute o (sOf mn) apos) (e :: es) [] pos) X.env = (do
      let ov ← eval o X.env
      standAt apos.atName
      let (f, first) ← holding [ov] (getMethod ov (sOf mn) pl)
      callWith pos f first (backTo pos (starEach (e :: es) X.env)) (backToKw pos (keywordEach [] X.env))))
    (ho : PE X o (tE M W cl ca)) (ha : PA X (e :: es) (tA M W cl c)) : PE X (.Call (.Attribute o (sOf mn) apos) (e :: es) [] pos) (tE M W cl (.meth cn mn ca c)) := by
  obtain ⟨fd, ps, F1, F2⟩ := F.fn
  exact pe_imp (pe_methSA ho hcl hme F1 hr F2 hx ha hst hpl ht) fun σ H Q h => me_of hC hn h
theorem e_meth0 {k : Nat} {cn mn : String} {C A : Addr} {pl : Sem Bool} (hC : M.cls cn = some C) (F : FnAt X M cl k (cn ++ "." ++ mn) A) (hcl : Cls X.K C) (hme : Meth X.K C (sOf mn) A) (hr : Room k X.A) (hx : ∀ σ, PassesAt (L2.CX X.prog X.w) X σ (WE W σ))
    (ht : eval (.Call (.Attribute o (sOf mn) apos) [] [] pos) X.env = (do
      let ov ← eval o X.env
      standAt apos.atName
      let (f, first) ← holding [ov] (getMethod ov (sOf mn) pl)
      callWith pos f first (backTo pos (starEach [] X.env)) (backToKw pos (keywordEach [] X.env))))
    (ho : PE X o (tE M W cl ca)) : PE X (.Call (.Attribute o (sOf mn) apos) [] [] pos) (tE M W cl (.meth cn mn ca .nil)) := by
  obtain ⟨fd, ps, F1, F2⟩ := F.fn
  refine pe_imp (pe_meth0S ho hcl hme F1 hr F2 hx ht) fun σ H Q h => (me_of hC (n := 0) rfl h).mono fun x H1 ⟨q, dx, fs, h1, h2, h3, m, ρ, st, S, R, P⟩ => ⟨q, dx, fs, h1, h2, h3, ?_⟩
  unfold MG.evE at P
  exact P m H1 [] S (Step.refl _) .nil
theorem e_make {k : Nat} {cn : String} {C A : Addr} (hC : M.cls cn = some C) (hn : argc c = some n) (F : FnAt X M cl k (cn ++ ".__init__") A) (K : Mk X.K C A) (hr : Room (k + 1) X.A) (hg : Gl X (sOf cn)) (hm : X.mg (sOf cn) = some (.ref C)) (hx : ∀ σ, PassesAt (L2.CX X.prog X.w) X σ (WE W σ))
    (hdb : (sOf cn == ("__debug__" : PySem.Str)) = false) (he : starEach (e :: es) X.env = (false, eval e X.env) :: starEach es X.env) (hpl : (backTo pos (starEach es X.env)).any (·.1) = false) (ha : PA X (e :: es) (tA M W cl c)) :
    PE X (.Call (.Name (sOf cn) p) (e :: es) [] pos) (tE M W cl (.make cn c)) := by
  obtain ⟨fd, ps, F1, F2⟩ := F.fn
  refine pe_imp (pe_makeS K F1 hr hg hm F2 hx ha hdb he hpl) fun σ H Q ⟨m, ρ, st, S, R, P⟩ => ?_
  unfold MG.evE at P
  refine (tA.bind hn S R P).mono fun vs H1 ⟨m1, st1, l, S1, T1, R1, r1, hl, P1⟩ => fun x dx hx hdx hne => ?_
  have S2 : Sim M ⟨m1, st1, upd H1 dx (.own x)⟩ := lay_sim S1 hdx
  have T2 : Step ⟨m1, st1, H1⟩ ⟨m1, st1, upd H1 dx (.own x)⟩ := lay_step S1 hdx
  have hx2 : upd H1 dx (.own x) x = none := by rw [upd_ne (Ne.symm hne)]; exact hx
  have T3 : Step ⟨m1, st1, upd H1 dx (.own x)⟩ ⟨m1 ++ [x], st1 ++ [.ins cn []], upd (upd H1 dx (.own x)) x (.ins C dx [])⟩ := own_step S2 hx2
  have S3 : Sim M ⟨m1 ++ [x], st1 ++ [.ins cn []], upd (upd H1 dx (.own x)) x (.ins C dx [])⟩ := own_sim S2 hx2 ⟨C, dx, [], hC, upd_same, rfl, fun f => rfl⟩
  have hat : (m1 ++ [x])[st1.length]? = some x := by
    have : st1.length = m1.length := S1.len.symm
    rw [this, List.getElem?_concat_length]
  refine ⟨m1 ++ [x], st1 ++ [.ins cn []], .ref st1.length :: l, S3, .cons (.ref hat) (r1.step (T2.trans T3)), ?_⟩
  have P3 := (Post.shift P1 (T2.trans T3)).bind.at_
  refine P3.mono fun v H4 ⟨m4, st4, d, S4, T4, r4, _, P4⟩ => ?_
  cases d with
  | non =>
    cases r4
    exact ⟨rfl, Post.val (s := ⟨m4, st4, H4⟩) P4 S4 (.ref (T4.at hat))⟩
  | _ => exact P4.elim

/-! ### dicts -/
theorem evE_cons (G : MG.GD) (e es : MG.C) (ρ : MG.Env) (st : MG.Store) : MG.evE G cl (.cons e es) ρ st = (MG.evE G cl e ρ st).bind fun d st1 => (MG.evE G cl es ρ st1).bind fun ds st2 => match ds with
    | .tup l => .ok (.tup (d :: l)) st2
    | _ => .bad := by rw [MG.evE] <;> rfl
def trsOf (M : Mc) (W : WX) (cl : MG.Call) : MG.C → List (TE × TE)
  | .cons ck (.cons cv r) => (tE M W cl ck, tE M W cl cv) :: trsOf M W cl r
  | _ => []
/-- keys and values in one row -/
def flatV2 : List (V × V) → List V
  | [] => []
  | (x, y) :: r => x :: y :: flatV2 r
def even : MG.C → Bool
  | .nil => true
  | .cons _ (.cons _ r) => even r
  | _ => false
theorem pairs_of : ∀ {c : MG.C} {σ : L2.St} {ρ : MG.Env} {s : Sx} {f : MG.D → MG.Store → MG.Res MG.D} {Q : VK}, even c = true → Sim M s → RE M s ρ σ → Post M W s σ ((MG.evE M.G cl c ρ s.st).bind f) Q →
    tPairs (trsOf M W cl c) σ s.H fun ps H2 => ∃ m2 st2 l, Sim M ⟨m2, st2, H2⟩ ∧ Step s ⟨m2, st2, H2⟩ ∧ RDs M ⟨m2, st2, H2⟩ l (flatV2 ps) ∧ Post M W ⟨m2, st2, H2⟩ σ (f (.tup l) st2) Q
  | .nil, σ, ρ, s, f, Q, _, S, R, P => by
    unfold MG.evE at P
    exact ⟨s.m, s.st, [], S, Step.refl _, .nil, P⟩
  | .cons ck (.cons cv r), σ, ρ, s, f, Q, he, S, R, P => by
    rw [evE_cons] at P
    have P : Post M W s σ ((MG.evE M.G cl ck ρ s.st).bind fun d st1 => (MG.evE M.G cl cv ρ st1).bind fun d' st2 => (MG.evE M.G cl r ρ st2).bind fun ds st3 => match ds with
        | .tup l => f (.tup (d :: d' :: l)) st3
        | _ => .bad) Q := by
      revert P
      cases MG.evE M.G cl ck ρ s.st with
      | ok d st1 =>
        simp only [MG.Res.bind, evE_cons]
        cases MG.evE M.G cl cv ρ st1 with
        | ok d' st2 =>
          simp only
          cases MG.evE M.G cl r ρ st2 with
          | ok ds st3 => cases ds <;> exact fun P => P
          | err y st3 => exact fun P => P
          | bad => exact fun P => P
        | err y st2 => exact fun P => P
        | bad => exact fun P => P
      | err y st1 => exact fun P => P
      | bad => exact fun P => P
    show tPairs ((tE M W cl ck, tE M W cl cv) :: trsOf M W cl r) σ s.H _
    refine (tE.bind S R P).mono fun v H1 ⟨m1, st1, d, S1, T1, R1, r1, P1⟩ => (tE.bind S1 R1 P1).mono fun u H2 ⟨m2, st2, d', S2, T2, R2, r2, P2⟩ => ?_
    refine tp_mono _ (pairs_of (c := r) (s := ⟨m2, st2, H2⟩) (by simpa [even] using he) S2 R2 P2) fun ps H3 ⟨m3, st3, l, S3, T3, r3, P3⟩ => ?_
    exact ⟨m3, st3, d :: d' :: l, S3, (T1.trans T2).trans T3, .cons ((r1.step T2).step T3) (.cons (r2.step T3) r3), P3⟩
  | .cons _ (.var _), _, _, _, _, _, he, _, _, _ => by simp [even] at he
  | .cons _ (.k _), _, _, _, _, _, he, _, _, _ => by simp [even] at he
  | .cons _ .nil, _, _, _, _, _, he, _, _, _ => by simp [even] at he
  | .cons _ (.lst _ _), _, _, _, _, _, he, _, _, _ => by simp [even] at he
  | .cons _ (.op1 _ _), _, _, _, _, _, he, _, _, _ => by simp [even] at he
  | .cons _ (.op2 _ _ _ _), _, _, _, _, _, he, _, _, _ => by simp [even] at he
  | .cons _ (.and _ _), _, _, _, _, _, he, _, _, _ => by simp [even] at he
  | .cons _ (.or _ _), _, _, _, _, _, he, _, _, _ => by simp [even] at he
  | .cons _ (.ite _ _ _), _, _, _, _, _, he, _, _, _ => by simp [even] at he
  | .cons _ (.chain _ _ _ _ _), _, _, _, _, _, he, _, _, _ => by simp [even] at he
  | .cons _ (.slc _ _ _ _), _, _, _, _, _, he, _, _, _ => by simp [even] at he
  | .cons _ (.rev _ _), _, _, _, _, _, he, _, _, _ => by simp [even] at he
  | .cons _ (.bi _ _ _), _, _, _, _, _, he, _, _, _ => by simp [even] at he
  | .cons _ (.bm _ _ _ _), _, _, _, _, _, he, _, _, _ => by simp [even] at he
  | .cons _ (.call _ _), _, _, _, _, _, he, _, _, _ => by simp [even] at he
  | .cons _ (.meth _ _ _ _), _, _, _, _, _, he, _, _, _ => by simp [even] at he
  | .cons _ (.make _ _), _, _, _, _, _, he, _, _, _ => by simp [even] at he
  | .cons _ (.fld _ _), _, _, _, _, _, he, _, _, _ => by simp [even] at he
  | .cons _ (.comp _ _ _ _ _ _), _, _, _, _, _, he, _, _, _ => by simp [even] at he
  | .cons _ (.rng _ _), _, _, _, _, _, he, _, _, _ => by simp [even] at he
  | .cons _ (.enum _), _, _, _, _, _, he, _, _, _ => by simp [even] at he
  | .cons _ (.zip _ _), _, _, _, _, _, he, _, _, _ => by simp [even] at he
  | .cons _ (.rrng _ _), _, _, _, _, _, he, _, _, _ => by simp [even] at he
  | .cons _ (.dict _ _), _, _, _, _, _, he, _, _, _ => by simp [even] at he
  | .cons _ (.frz _), _, _, _, _, _, he, _, _, _ => by simp [even] at he
  | .var _, _, _, _, _, _, he, _, _, _ => by simp [even] at he
  | .k _, _, _, _, _, _, he, _, _, _ => by simp [even] at he
  | .lst _ _, _, _, _, _, _, he, _, _, _ => by simp [even] at he
  | .op1 _ _, _, _, _, _, _, he, _, _, _ => by simp [even] at he
  | .op2 _ _ _ _, _, _, _, _, _, he, _, _, _ => by simp [even] at he
  | .and _ _, _, _, _, _, _, he, _, _, _ => by simp [even] at he
  | .or _ _, _, _, _, _, _, he, _, _, _ => by simp [even] at he
  | .ite _ _ _, _, _, _, _, _, he, _, _, _ => by simp [even] at he
  | .chain _ _ _ _ _, _, _, _, _, _, he, _, _, _ => by simp [even] at he
  | .slc _ _ _ _, _, _, _, _, _, he, _, _, _ => by simp [even] at he
  | .rev _ _, _, _, _, _, _, he, _, _, _ => by simp [even] at he
  | .bi _ _ _, _, _, _, _, _, he, _, _, _ => by simp [even] at he
  | .bm _ _ _ _, _, _, _, _, _, he, _, _, _ => by simp [even] at he
  | .call _ _, _, _, _, _, _, he, _, _, _ => by simp [even] at he
  | .meth _ _ _ _, _, _, _, _, _, he, _, _, _ => by simp [even] at he
  | .make _ _, _, _, _, _, _, he, _, _, _ => by simp [even] at he
  | .fld _ _, _, _, _, _, _, he, _, _, _ => by simp [even] at he
  | .comp _ _ _ _ _ _, _, _, _, _, _, he, _, _, _ => by simp [even] at he
  | .rng _ _, _, _, _, _, _, he, _, _, _ => by simp [even] at he
  | .enum _, _, _, _, _, _, he, _, _, _ => by simp [even] at he
  | .zip _ _, _, _, _, _, _, he, _, _, _ => by simp [even] at he
  | .rrng _ _, _, _, _, _, _, he, _, _, _ => by simp [even] at he
  | .dict _ _, _, _, _, _, _, he, _, _, _ => by simp [even] at he
  | .frz _, _, _, _, _, _, he, _, _, _ => by simp [even] at he
where
  tp_mono (c : MG.C) {σ : L2.St} {H : Hp} {Q Q' : List (V × V) → Hp → Prop} (h : tPairs (trsOf M W cl c) σ H Q) (hq : ∀ ps H, Q ps H → Q' ps H) : tPairs (trsOf M W cl c) σ H Q' := by
    revert h hq
    generalize hc : trsOf M W cl c = trs
    have all : ∀ t ∈ trs, (∃ k, t.1 = tE M W cl k) ∧ ∃ k, t.2 = tE M W cl k := by
      subst hc
      exact tr_all c
    clear hc
    induction trs generalizing H Q Q' with
    | nil => exact fun h hq => hq _ _ h
    | cons t r ih =>
      intro h hq
      obtain ⟨⟨k1, e1⟩, k2, e2⟩ := all t List.mem_cons_self
      obtain ⟨t1, t2⟩ := t
      simp only at e1 e2
      subst e1 e2
      exact tE.mono h fun v H1 h1 => tE.mono h1 fun u H2 h2 => ih (fun t ht => all t (List.mem_cons_of_mem _ ht)) h2 fun ps H3 q => hq _ _ q
  tr_all (c : MG.C) : ∀ t ∈ trsOf M W cl c, (∃ k, t.1 = tE M W cl k) ∧ ∃ k, t.2 = tE M W cl k := by
    fun_induction trsOf M W cl c with
    | case1 ck cv r ih =>
      intro t ht
      rcases List.mem_cons.mp ht with rfl | ht
      · exact ⟨⟨ck, rfl⟩, cv, rfl⟩
      · exact ih t ht
    | case2 => intro t ht; cases ht
theorem flat_rel2 {s : Sx} : ∀ {l : List MG.D} {ps : List (V × V)} {qs : List (MG.D × MG.D)}, RDs M s l (flatV2 ps) → MG.flatPairs l = some qs → qs.all (fun p => MG.keyK p.1) = true → ∃ kvs : List (Key × V), ps = kvs.map (fun kv => (kV kv.1, kv.2)) ∧ RKV M s qs kvs
  | [], [], qs, r, e, h => by cases e; exact ⟨[], rfl, .nil⟩
  | [], (x, y) :: ps, qs, r, e, h => by cases r
  | [d], ps, qs, r, e, h => by cases e
  | d :: d' :: l, [], qs, r, e, h => by cases r
  | d :: d' :: l, (x, y) :: ps, qs, r, e, h => by
    obtain ⟨qs', e', rfl⟩ : ∃ qs', MG.flatPairs l = some qs' ∧ (d, d') :: qs' = qs := by simpa [MG.flatPairs] using e
    cases r with
    | cons h1 r =>
      cases r with
      | cons h2 r =>
        have hk : MG.keyK d = true ∧ qs'.all (fun p => MG.keyK p.1) = true := by simpa using h
        obtain ⟨kvs, rfl, rk⟩ := flat_rel2 r e' hk.2
        obtain ⟨k, ek⟩ := keyK_of hk.1
        have := keyK_v ek h1
        subst this
        exact ⟨(k, y) :: kvs, rfl, .cons ek h2 rk⟩
theorem e_dictT : PE X (.Dict [] [] pos) (tE M W cl (.dict true c)) := pe_imp pe_dnewT fun σ H Q ⟨m, ρ, st, S, R, P⟩ => fun q hq => by
  unfold MG.evE at P
  rw [if_pos rfl] at P
  have T : Step ⟨m, st, H⟩ ⟨m ++ [q], st ++ [.dT []], upd H q (.dT [])⟩ := own_step S hq
  refine P (m ++ [q]) _ _ (own_sim S hq ⟨[], upd_same, .nil⟩) T (.ref ?_)
  show (m ++ [q])[st.length]? = some q
  have : st.length = m.length := S.len.symm
  rw [this, List.getElem?_concat_length]
theorem e_dict0 : PE X (.Dict [] [] pos) (tE M W cl (.dict false .nil)) := pe_imp pe_dnewK fun σ H Q ⟨m, ρ, st, S, R, P⟩ => fun q hq => by
  unfold MG.evE at P
  rw [if_neg (by decide)] at P
  have T : Step ⟨m, st, H⟩ ⟨m ++ [q], st ++ [.dK []], upd H q (.dK [])⟩ := own_step S hq
  simp [MG.evE, MG.Res.bind, MG.flatPairs, MG.dputAll] at P
  refine P (m ++ [q]) _ _ (own_sim S hq ⟨[], upd_same, .nil⟩) T (.ref ?_)
  show (m ++ [q])[st.length]? = some q
  have : st.length = m.length := S.len.symm
  rw [this, List.getElem?_concat_length]
theorem e_dict {keys : List (Option Expr)} {values : List Expr} (he : even c = true) (h : PPs X pos keys values (trsOf M W cl c)) (hall : keys.all (·.isSome) = true) (hl : keys.length = values.length) (h0 : keys ≠ []) (h15 : keys.length ≤ 15) : PE X (.Dict keys values pos) (tE M W cl (.dict false c)) :=
  pe_imp (pe_disp h hall hl h0 h15) fun σ H Q ⟨m, ρ, st, S, R, P⟩ => fun q hq => by
    unfold MG.evE at P
    rw [if_neg (by decide)] at P
    have T : Step ⟨m, st, H⟩ ⟨m ++ [q], st ++ [.dK []], upd H q (.dK [])⟩ := own_step S hq
    have S1 : Sim M ⟨m ++ [q], st ++ [.dK []], upd H q (.dK [])⟩ := own_sim S hq ⟨[], upd_same, .nil⟩
    have hat : (m ++ [q])[st.length]? = some q := by
      have : st.length = m.length := S.len.symm
      rw [this, List.getElem?_concat_length]
    refine pairs_of.tp_mono c (pairs_of he S1 (R.step T) (Post.shift P T)) fun ps H2 ⟨m2, st2, l, S2, T2, r2, P2⟩ => ?_
    simp only at P2
    split at P2
    · rename_i qs e
      split at P2
      · rename_i hk
        split at P2
        · rename_i e2
          have hk : qs.all (fun p => MG.keyK p.1) = true ∧ qs.length ≤ 15 := by simpa [-List.all_eq_true] using hk
          obtain ⟨kvs, rfl, rk⟩ := flat_rel2 r2 e hk.1
          obtain ⟨qq, w1, w2⟩ := S2.ob _ q _ (T2.at hat) e2
          cases w2
          have T3 : Step ⟨m2, st2, H2⟩ ⟨m2, st2.set st.length (.dK (MG.dputAll [] qs)), upd H2 q (.dK (mergeK [] kvs))⟩ := set_step S2 (T2.at hat) e2 (by simp)
          refine ⟨w1, kvs, rfl, by rw [rk.length]; exact hk.2, P2 m2 _ _ (set_sim S2 (T2.at hat) e2 (by simp) ⟨_, upd_same, (RKV.merge rk .nil).step T3⟩) T3 (.ref (T2.at hat))⟩
        · exact P2.elim
      · exact P2.elim
    · exact P2.elim
end
end MGS

set_option Elab.async false
set_option linter.all false
set_option maxRecDepth 100000
set_option maxHeartbeats 4000000
/-! What loops walk, targets, comprehensions. -/
namespace MGS
open PySem PySem.Spec PyProof.Rows L2

mutual
theorem same_eq : ∀ (a b : MG.D), MG.same a b = true → a = b
  | .non, b, h => by cases b <;> simp_all [MG.same]
  | .bl _, b, h => by cases b <;> simp_all [MG.same]
  | .int _, b, h => by cases b <;> simp_all [MG.same]
  | .str _, b, h => by cases b <;> simp_all [MG.same]
  | .tup xs, b, h => by
    cases b with
    | tup ys => rw [sameAll_eq xs ys (by simpa [MG.same] using h)]
    | _ => simp [MG.same] at h
  | .lst xs, b, h => by
    cases b with
    | lst ys => rw [sameAll_eq xs ys (by simpa [MG.same] using h)]
    | _ => simp [MG.same] at h
  | .scr _, b, h => by cases b <;> simp_all [MG.same]
  | .ref _, b, h => by cases b <;> simp_all [MG.same]
  | .gd _, b, h => by cases b <;> simp_all [MG.same]
theorem sameAll_eq : ∀ (a b : List MG.D), MG.sameAll a b = true → a = b
  | [], b, h => by cases b <;> simp_all [MG.sameAll]
  | x :: xs, [], h => by simp [MG.sameAll] at h
  | x :: xs, y :: ys, h => by
    have h : MG.same x y = true ∧ MG.sameAll xs ys = true := by simpa [MG.sameAll] using h
    rw [same_eq x y h.1, sameAll_eq xs ys h.2]
end

/-- the iterator yields these -/
def Feeds (M : Mc) (s1 : Sx) (J : It) (items : List MG.D) (chk : Option (Nat × List MG.D)) : Prop :=
  ∀ s, Sim M s → Step s1 s → MG.stays s.st chk = true → (∀ i d, items[i]? = some d → J.go i s.H ∧ ∀ x H', J.yld i s.H x H' → Sim M ⟨s.m, s.st, H'⟩ ∧ Step s ⟨s.m, s.st, H'⟩ ∧ RD M ⟨s.m, s.st, H'⟩ d x) ∧ J.stop items.length s.H
section
variable {X : Cx} {M : Mc} {W : WX} {cl : MG.Call} {a b e o tg : Expr} {es : List Expr} {ca cb c : MG.C} {pos p apos tpos : Pos} {n : Nat}
def PostI (M : Mc) (W : WX) (s : Sx) (σ : L2.St) (r : MG.Res MG.D) (R : It → Hp → Prop) : Prop :=
  match r with
  | .ok x st1 => ∃ items chk, MG.iterOf st1 x = some (items, chk) ∧ ∀ (m1 : List Addr) (H1 : Hp) (J : It), Sim M ⟨m1, st1, H1⟩ → Step s ⟨m1, st1, H1⟩ → Feeds M ⟨m1, st1, H1⟩ J items chk → R J H1
  | .err x st' => M.exc = true ∧ ∀ (m' : List Addr) (H' : Hp) (cv : Value) (d : Option Addr), Sim M ⟨m', st', H'⟩ → Step s ⟨m', st', H'⟩ → XR M ⟨m', st', H'⟩ x cv d → W cv d σ H'
  | .bad => False
def tI (M : Mc) (W : WX) (cl : MG.Call) (c : MG.C) : TI := fun σ H R => ∃ m ρ st, Sim M ⟨m, st, H⟩ ∧ RE M ⟨m, st, H⟩ ρ σ ∧ PostI M W ⟨m, st, H⟩ σ (MG.evE M.G cl c ρ st) R

/-! ### any sequence -/
def iAny (K : PySem.W.Frag) (tl : TE) : TI := fun σ H R => tl σ H fun x H1 => (∃ a, x = .ref a ∧ (∃ xs, SqL K H1 a xs) ∧ R (Itl K a) H1) ∨ (∃ a, x = .ref a ∧ (∃ xs, SqT K H1 a xs) ∧ R (Itt K a) H1) ∨ (∃ z, x = .str z ∧ R (Its z) H1)
theorem pi_any {l : Expr} {tl : TE} (hl : PE X l tl) : PI X tg l (iAny X.K tl) := by
  refine ⟨fun pins s σ H R I h => ?_⟩
  refine thn (hl.run pins s σ H _ I h) fun v s1 ⟨x, H1, I1, r1, q1⟩ => ?_
  rcases q1 with ⟨a, e, ⟨xs, hq⟩, q⟩ | ⟨a, e, ⟨xs, hq⟩, q⟩ | ⟨z, e, q⟩
  · subst e
    cases r1
    obtain ⟨its, rv, p, hz⟩ := I1.list hq
    refine wpAny_pyIter_list p.isList ?_
    refine ⟨s1.heap.objs.size, [s1.heap.objs.size], _, _, H1, rfl, I1.kept (t' := s1.toks) fun b o e => Heap.get?_push_of_some _ e, turn_list a _, ⟨_, Heap.get?_push_size _ rfl, rfl, rfl⟩, fun b hb => ?_, q⟩
    have e : b = s1.heap.objs.size := by simpa using hb
    subst e
    exact I1.fpOk (Nat.le_refl _) (I1.hok.fresh (Nat.le_refl _))
  · subst e
    cases r1
    obtain ⟨its, rv, p, hz⟩ := I1.tuple hq
    refine wpAny_pyIter_tuple (show s1.heap.IsTuple a its.toArray from p) ?_
    refine ⟨s1.heap.objs.size, [s1.heap.objs.size], _, _, H1, rfl, I1.kept (t' := s1.toks) fun b o e => Heap.get?_push_of_some _ e, turn_tuple a _, ⟨_, Heap.get?_push_size _ rfl, rfl, rfl⟩, fun b hb => ?_, q⟩
    have e : b = s1.heap.objs.size := by simpa using hb
    subst e
    exact I1.fpOk (Nat.le_refl _) (I1.hok.fresh (Nat.le_refl _))
  · subst e
    obtain ⟨t, rfl⟩ := r1
    cases ha : z.cps.all (· < 128)
    · exact wpAny_pyIter_wide ha (pi_one (tk := s1.toks) I1 _ (turn_str _ z t "str_iterator" (.inr rfl)) ⟨_, Heap.get?_push_size _ rfl, rfl, rfl⟩ q)
    · exact wpAny_pyIter_ascii ha (pi_one (tk := s1.toks) I1 _ (turn_str _ z t "str_ascii_iterator" (.inl rfl)) ⟨_, Heap.get?_push_size _ rfl, rfl, rfl⟩ q)
theorem sim_eta {s : Sx} (S : Sim M s) : Sim M ⟨s.m, s.st, s.H⟩ := S
/-- a tuple's items -/
theorem feeds_tup {s1 : Sx} {ds : List MG.D} {a : Addr} (h : RD M s1 (.tup ds) (.ref a)) : Feeds M s1 (Itt M.K a) ds none := by
  intro s S T _
  obtain ⟨a', vs, e, h1, r⟩ := rd_tup (h.step T)
  cases e
  refine ⟨fun i d hd => ?_, ⟨vs, h1, Nat.le_of_eq r.length.symm⟩⟩
  obtain ⟨v, e1, e2⟩ := r.get hd
  refine ⟨⟨vs, v, h1, e1⟩, fun x H' ⟨e3, e4⟩ => ?_⟩
  subst e3
  have := e4 vs h1
  rw [e1] at this
  cases this
  exact ⟨S, Step.refl _, e2⟩
theorem feeds_lst {s1 : Sx} {ds : List MG.D} {a : Addr} (h : RD M s1 (.lst ds) (.ref a)) : Feeds M s1 (Itl M.K a) ds none := by
  intro s S T _
  obtain ⟨a', vs, e, h1, r⟩ := rd_lst S (h.step T) rfl
  cases e
  have h1 : SqL M.K s.H a vs := .inl (.inl h1)
  refine ⟨fun i d hd => ?_, ⟨vs, h1, Nat.le_of_eq r.length.symm⟩⟩
  obtain ⟨v, e1, e2⟩ := r.get hd
  refine ⟨⟨vs, v, h1, e1⟩, fun x H' ⟨e3, e4⟩ => ?_⟩
  subst e3
  have := e4 vs h1
  rw [e1] at this
  cases this
  exact ⟨S, Step.refl _, e2⟩
theorem feeds_ref {s1 : Sx} {r : Nat} {ds : List MG.D} {a : Addr} (h : RD M s1 (.ref r) (.ref a)) : Feeds M s1 (Itl M.K a) ds (some (r, ds)) := by
  intro s S T hst
  have hl : MG.lstOf s.st (.ref r) = some ds := by
    simp only [MG.stays] at hst
    simp only [MG.lstOf]
    split at hst
    · rename_i es e
      rw [sameAll_eq _ _ hst]
    · cases hst
  obtain ⟨a', vs, e, h1, q⟩ := rd_lst S (h.step T) hl
  cases e
  have h1 : SqL M.K s.H a vs := .inl (.inl h1)
  refine ⟨fun i d hd => ?_, ⟨vs, h1, Nat.le_of_eq q.length.symm⟩⟩
  obtain ⟨v, e1, e2⟩ := q.get hd
  refine ⟨⟨vs, v, h1, e1⟩, fun x H' ⟨e3, e4⟩ => ?_⟩
  subst e3
  have := e4 vs h1
  rw [e1] at this
  cases this
  exact ⟨S, Step.refl _, e2⟩
theorem feeds_str {s1 : Sx} (z : String) : Feeds M s1 (Its (sOf z)) (MG.chars z) none := by
  intro s S T _
  have hc := sOf_cps z
  have hsz : (sOf z).cps.size = z.toList.length := by rw [← Array.length_toList, hc, List.length_map]
  have hl : (MG.chars z).length = z.toList.length := by unfold MG.chars; rw [List.length_map]
  refine ⟨fun i d hd => ?_, by show (sOf z).cps.size ≤ _; omega⟩
  have hi := (List.getElem?_eq_some_iff.mp hd).1
  refine ⟨by show i < _; omega, fun x H' ⟨e3, cp, e4, e5⟩ => ?_⟩
  subst e3 e5
  refine ⟨S, Step.refl _, ?_⟩
  unfold MG.chars at hd
  rw [List.getElem?_map] at hd
  cases ez : z.toList[i]? with
  | none => rw [ez] at hd; cases hd
  | some ch =>
    rw [ez] at hd
    cases hd
    have e6 : (sOf z).cps.toList[i]? = some ch.toNat := by rw [hc, List.getElem?_map, ez]; rfl
    rw [Array.getElem?_toList] at e6
    rw [e4] at e6
    cases e6
    have : sOf (String.singleton ch) = ⟨#[ch.toNat]⟩ := by
      obtain ⟨z', h1, h2⟩ := one_sign (c := String.singleton ch) (by simp)
      have : (String.singleton ch).toList = [ch] := by simp
      rw [this] at h1
      cases h1
      exact h2
    rw [← this]
    exact .str _
theorem i_any (hK : M.K = X.K) (h : PE X e (tE M W cl c)) : PI X tg e (tI M W cl c) :=
  pi_imp (pi_any h) fun σ H R ⟨m, ρ, st, S, Re, P⟩ => by
    refine ⟨m, ρ, st, S, Re, ?_⟩
    cases ev : MG.evE M.G cl c ρ st with
    | ok x st1 =>
      rw [ev] at P
      obtain ⟨items, chk, ei, P⟩ := P
      refine fun m1 H1 v S1 T1 r1 => ?_
      cases x with
      | tup ds =>
        cases ei
        obtain ⟨q, vs, rfl, h1, _⟩ := rd_tup r1
        have h1' := h1
        rw [hK] at h1'
        refine .inr (.inl ⟨q, rfl, ⟨vs, h1'⟩, P m1 H1 _ S1 T1 ?_⟩)
        rw [← hK]
        exact feeds_tup r1
      | lst ds =>
        cases ei
        obtain ⟨q, vs, rfl, h1, _⟩ := rd_lst S1 r1 rfl
        refine .inl ⟨q, rfl, ⟨vs, .inl (.inl h1)⟩, P m1 H1 _ S1 T1 ?_⟩
        rw [← hK]
        exact feeds_lst r1
      | str z =>
        cases ei
        cases r1
        exact .inr (.inr ⟨_, rfl, P m1 H1 _ S1 T1 (feeds_str z)⟩)
      | ref r =>
        simp only [MG.iterOf] at ei
        split at ei
        · rename_i ds e1
          cases ei
          obtain ⟨q, vs, rfl, h1, _⟩ := rd_lst S1 r1 (by simp only [MG.lstOf]; rw [e1])
          refine .inl ⟨q, rfl, ⟨vs, .inl (.inl h1)⟩, P m1 H1 _ S1 T1 ?_⟩
          rw [← hK]
          exact feeds_ref r1
        · cases ei
      | _ => cases ei
    | err x st1 => rw [ev] at P; exact P
    | bad => rw [ev] at P; exact P

/-! ### ranges -/
theorem rangeD_len : ∀ (n : Nat) (a : Int), (MG.rangeD a n).length = n
  | 0, _ => rfl
  | n + 1, a => by unfold MG.rangeD; rw [List.length_cons, rangeD_len n]
theorem rangeD_get : ∀ (n : Nat) (a : Int) (i : Nat), i < n → (MG.rangeD a n)[i]? = some (.int (a + (i : Nat)))
  | 0, _, _, h => by omega
  | n + 1, a, 0, _ => by unfold MG.rangeD; simp
  | n + 1, a, i + 1, h => by
    unfold MG.rangeD
    rw [List.getElem?_cons_succ, rangeD_get n (a + 1) i (by omega)]
    congr 2
    omega
theorem feeds_rng {s1 : Sx} (lo : Int) (n : Nat) : Feeds M s1 (Itr lo n) (MG.rangeD lo n) none := by
  intro s S T _
  refine ⟨fun i d hd => ?_, Nat.le_of_eq (rangeD_len n lo).symm⟩
  have hi := (List.getElem?_eq_some_iff.mp hd).1
  rw [rangeD_len] at hi
  rw [rangeD_get n lo i hi] at hd
  cases hd
  refine ⟨hi, fun x H' ⟨e3, e4⟩ => ?_⟩
  subst e3 e4
  exact ⟨S, Step.refl _, .int _⟩
theorem feeds_rrng {s1 : Sx} (lo : Int) (n : Nat) : Feeds M s1 (Itc (lo + ((n : Nat) : Int) - 1) (-1) n) (MG.rangeD lo n).reverse none := by
  intro s S T _
  refine ⟨fun i d hd => ?_, Nat.le_of_eq (by rw [List.length_reverse]; exact (rangeD_len n lo).symm)⟩
  have hi := (List.getElem?_eq_some_iff.mp hd).1
  rw [List.length_reverse, rangeD_len] at hi
  rw [List.getElem?_reverse (by rw [rangeD_len]; exact hi), rangeD_len, rangeD_get n lo _ (by omega)] at hd
  cases hd
  refine ⟨hi, fun x H' ⟨e3, e4⟩ => ?_⟩
  subst e3
  subst e4
  have : lo + ((n : Nat) : Int) - 1 + ((i : Nat) : Int) * (-1) = lo + ((n - 1 - i : Nat) : Int) := by omega
  rw [this]
  exact ⟨S, Step.refl _, .int _⟩
/-- two ints, then a piece -/
theorem rng_of {σ : L2.St} {H : Hp} {R : It → Hp → Prop} (h : tI M W cl (.rng ca cb) σ H R) : tE M W cl ca σ H fun x H1 => tE M W cl cb σ H1 fun y H2 => ∃ i j : Int, x = .int i ∧ y = .int j ∧ (-(2 ^ 62) ≤ i ∧ i < 2 ^ 62 ∧ -(2 ^ 62) ≤ j ∧ j < 2 ^ 62) ∧ R (Itr i (j - i).toNat) H2 := by
  obtain ⟨m, ρ, st, S, Re, P⟩ := h
  unfold MG.evE at P
  refine ⟨m, ρ, st, S, Re, ?_⟩
  cases ea : MG.evE M.G cl ca ρ st with
  | ok x st1 =>
    simp only [ea, MG.Res.bind] at P
    refine fun m1 H1 v S1 T1 r1 => ⟨m1, ρ, st1, S1, Re.step T1, ?_⟩
    cases eb : MG.evE M.G cl cb ρ st1 with
    | ok y st2 =>
      simp only [eb] at P
      refine fun m2 H2 u S2 T2 r2 => ?_
      split at P
      · rename_i i j
        split at P
        · rename_i hb
          obtain ⟨items, chk, ei, P⟩ := P
          cases ei
          cases r1
          cases r2
          exact ⟨i, j, rfl, rfl, by omega, P m2 H2 _ S2 (T1.trans T2) (feeds_rng _ _)⟩
        · exact P.elim
      · exact P.elim
    | err z st2 => simp only [eb] at P; exact ⟨P.1, fun m2 H2 cv d S2 T2 xr => P.2 m2 H2 cv d S2 (T1.trans T2) xr⟩
    | bad => simp only [eb] at P; exact P
  | err z st1 => simp only [ea, MG.Res.bind] at P; exact P
  | bad => simp only [ea, MG.Res.bind] at P; exact P
theorem k_of {d : MG.D} {v : V} {σ : L2.St} {H : Hp} {Q : VK} (h : tE M W cl (.k d) σ H Q) (r : ∀ s, RD M s d v) : Q v H := by
  obtain ⟨m, ρ, st, S, R, P⟩ := h
  unfold MG.evE at P
  exact P m H v S (Step.refl _) (r _)
theorem i_range1 (hg : Gl X "range") (hm : X.mg "range" = none) (hs : starEach [b] X.env = [(false, eval b X.env)]) (hb : PE X b (tE M W cl cb)) : PI X tg (.Call (.Name "range" p) [b] [] pos) (tI M W cl (.rng (.k (.int 0)) cb)) :=
  pi_imp (pi_range1 hg hm (pa_cons hb pa_nil hs) hs) fun σ H R h => by
    refine tE.mono (k_of (rng_of h) fun s => .int 0) fun y H2 ⟨i, j, e1, e2, hb, q⟩ => ?_
    cases e1
    rw [Int.sub_zero] at q
    exact ⟨j, by rw [e2], hb.2.2.1, hb.2.2.2, q⟩
theorem i_range2 (hg : Gl X "range") (hm : X.mg "range" = none) (hs : starEach [a, b] X.env = [(false, eval a X.env), (false, eval b X.env)]) (hs1 : starEach [a, b] X.env = (false, eval a X.env) :: starEach [b] X.env) (hs2 : starEach [b] X.env = [(false, eval b X.env)]) (ha : PE X a (tE M W cl ca)) (hb : PE X b (tE M W cl cb)) :
    PI X tg (.Call (.Name "range" p) [a, b] [] pos) (tI M W cl (.rng ca cb)) :=
  pi_imp (pi_range2 hg hm (pa_cons ha (pa_cons hb pa_nil hs2) hs1) hs hs2) fun σ H R h => (rng_of h).mono fun x H1 h1 => h1.mono fun y H2 ⟨i, j, e1, e2, hb, q⟩ => ⟨i, j, by rw [e1, e2], hb, q⟩
theorem rrng_of {σ : L2.St} {H : Hp} {R : It → Hp → Prop} (h : tI M W cl (.rrng ca cb) σ H R) : tE M W cl ca σ H fun x H1 => tE M W cl cb σ H1 fun y H2 => ∃ i j : Int, x = .int i ∧ y = .int j ∧ (-(2 ^ 62) ≤ i ∧ i < 2 ^ 62 ∧ -(2 ^ 62) ≤ j ∧ j < 2 ^ 62) ∧ R (Itc (i + (((j - i).toNat : Nat) : Int) - 1) (-1) (j - i).toNat) H2 := by
  obtain ⟨m, ρ, st, S, Re, P⟩ := h
  unfold MG.evE at P
  refine ⟨m, ρ, st, S, Re, ?_⟩
  cases ea : MG.evE M.G cl ca ρ st with
  | ok x st1 =>
    simp only [ea, MG.Res.bind] at P
    refine fun m1 H1 v S1 T1 r1 => ⟨m1, ρ, st1, S1, Re.step T1, ?_⟩
    cases eb : MG.evE M.G cl cb ρ st1 with
    | ok y st2 =>
      simp only [eb] at P
      refine fun m2 H2 u S2 T2 r2 => ?_
      split at P
      · rename_i i j
        split at P
        · rename_i hb
          obtain ⟨items, chk, ei, P⟩ := P
          cases ei
          cases r1
          cases r2
          exact ⟨i, j, rfl, rfl, by omega, P m2 H2 _ S2 (T1.trans T2) (feeds_rrng _ _)⟩
        · exact P.elim
      · exact P.elim
    | err z st2 => simp only [eb] at P; exact ⟨P.1, fun m2 H2 cv d S2 T2 xr => P.2 m2 H2 cv d S2 (T1.trans T2) xr⟩
    | bad => simp only [eb] at P; exact P
  | err z st1 => simp only [ea, MG.Res.bind] at P; exact P
  | bad => simp only [ea, MG.Res.bind] at P; exact P
theorem i_rrange1 {p2 pos2 : Pos} (g1 : Gl X "reversed") (m1 : X.mg "reversed" = none) (hg : Gl X "range") (hm : X.mg "range" = none) (hs : starEach [b] X.env = (false, eval b X.env) :: starEach [] X.env) (hb : PE X b (tE M W cl cb)) :
    PI X tg (.Call (.Name "reversed" p) [.Call (.Name "range" p2) [b] [] pos2] [] pos) (tI M W cl (.rrng (.k (.int 0)) cb)) :=
  pi_imp (pi_revR g1 m1 (prg_1 hg hm hb hs) rfl) fun σ H R h => by
    refine tE.mono (k_of (rrng_of h) fun s => .int 0) fun y H2 ⟨i, j, e1, e2, hb, q⟩ => ?_
    cases e1
    exact ⟨j, e2, hb.1, hb.2.1, hb.2.2.1, hb.2.2.2, q⟩
theorem i_rrange2 {p2 pos2 : Pos} (g1 : Gl X "reversed") (m1 : X.mg "reversed" = none) (hg : Gl X "range") (hm : X.mg "range" = none) (hs1 : starEach [a, b] X.env = (false, eval a X.env) :: starEach [b] X.env) (hs2 : starEach [b] X.env = (false, eval b X.env) :: starEach [] X.env) (hpl : (backTo pos2 (starEach [b] X.env)).any (·.1) = false)
    (ha : PE X a (tE M W cl ca)) (hb : PE X b (tE M W cl cb)) : PI X tg (.Call (.Name "reversed" p) [.Call (.Name "range" p2) [a, b] [] pos2] [] pos) (tI M W cl (.rrng ca cb)) :=
  pi_imp (pi_revR g1 m1 (prg_2 hg hm ha hb hs1 hs2 hpl) rfl) fun σ H R h => (rrng_of h).mono fun x H1 h1 => h1.mono fun y H2 ⟨i, j, e1, e2, hb, q⟩ => ⟨i, j, e1, e2, hb.1, hb.2.1, hb.2.2.1, hb.2.2.2, q⟩

/-! ### enumerate, zip -/
theorem enumD_len : ∀ (l : List MG.D) (n : Int), (MG.enumD n l).length = l.length
  | [], _ => rfl
  | _ :: l, n => by unfold MG.enumD; rw [List.length_cons, enumD_len l, List.length_cons]
theorem enumD_get : ∀ (l : List MG.D) (n : Int) (i : Nat) (d : MG.D), (MG.enumD n l)[i]? = some d → ∃ x, l[i]? = some x ∧ d = .tup [.int (n + (i : Nat)), x]
  | [], _, _, _, h => by simp [MG.enumD] at h
  | x :: l, n, 0, d, h => by simp [MG.enumD] at h; exact ⟨x, rfl, by simp [← h]⟩
  | x :: l, n, i + 1, d, h => by
    unfold MG.enumD at h
    rw [List.getElem?_cons_succ] at h
    obtain ⟨y, e1, e2⟩ := enumD_get l (n + 1) i d h
    refine ⟨y, by simpa using e1, ?_⟩
    rw [e2]
    congr 3
    omega
theorem zipD_get : ∀ (l l' : List MG.D) (i : Nat) (d : MG.D), (MG.zipD l l')[i]? = some d → ∃ x y, l[i]? = some x ∧ l'[i]? = some y ∧ d = .tup [x, y]
  | [], l', i, d, h => by simp [MG.zipD] at h
  | x :: l, [], i, d, h => by simp [MG.zipD] at h
  | x :: l, y :: l', 0, d, h => by simp [MG.zipD] at h; exact ⟨x, y, rfl, rfl, h.symm⟩
  | x :: l, y :: l', i + 1, d, h => by
    unfold MG.zipD at h
    rw [List.getElem?_cons_succ] at h
    obtain ⟨u, v, e1, e2, e3⟩ := zipD_get l l' i d h
    exact ⟨u, v, by simpa using e1, by simpa using e2, e3⟩
theorem zipD_len : ∀ (l l' : List MG.D), (MG.zipD l l').length = min l.length l'.length
  | [], l' => by simp [MG.zipD]
  | x :: l, [] => by simp [MG.zipD]
  | x :: l, y :: l' => by unfold MG.zipD; rw [List.length_cons, zipD_len l l', List.length_cons, List.length_cons]; omega
/-- a new pair -/
theorem pair_step {s : Sx} {T : Addr} {d d' : MG.D} {x y : V} (S : Sim M s) (hT : s.H T = none) (h1 : RD M s d x) (h2 : RD M s d' y) : Sim M ⟨s.m, s.st, upd s.H T (.tup [x, y])⟩ ∧ Step s ⟨s.m, s.st, upd s.H T (.tup [x, y])⟩ ∧ RD M ⟨s.m, s.st, upd s.H T (.tup [x, y])⟩ (.tup [d, d']) (.ref T) :=
  have T1 : Step s ⟨s.m, s.st, upd s.H T (.tup [x, y])⟩ := lay_step S hT
  ⟨lay_sim S hT, T1, .tup upd_same (lay_live S hT) (.cons (h1.step T1) (.cons (h2.step T1) .nil))⟩
theorem feeds_enumT {s1 : Sx} {ds : List MG.D} {a : Addr} (h : RD M s1 (.tup ds) (.ref a)) : Feeds M s1 (MGZ.IteT M.K a) (MG.enumD 0 ds) none := by
  intro s S T _
  obtain ⟨a', vs, e, h1, r⟩ := rd_tup (h.step T)
  cases e
  refine ⟨fun i d hd => ?_, ⟨vs, h1, by rw [enumD_len]; exact r.length.symm⟩⟩
  obtain ⟨z, e1, rfl⟩ := enumD_get _ _ _ _ hd
  obtain ⟨v, e3, e4⟩ := r.get e1
  refine ⟨⟨vs, v, h1, e3⟩, fun x H' ⟨T', y, q1, q2, q3, q4⟩ => ?_⟩
  subst q1 q3
  have := q4 vs h1
  rw [e3] at this
  cases this
  rw [Int.zero_add]
  exact pair_step S q2 (.int _) e4
theorem feeds_enumL {s1 : Sx} {ds : List MG.D} {a : Addr} (h : RD M s1 (.lst ds) (.ref a)) : Feeds M s1 (Ite M.K a) (MG.enumD 0 ds) none := by
  intro s S T _
  obtain ⟨a', vs, e, h1, r⟩ := rd_lst S (h.step T) rfl
  cases e
  have h1 : SqL M.K s.H a vs := .inl (.inl h1)
  refine ⟨fun i d hd => ?_, ⟨vs, h1, by rw [enumD_len]; exact Nat.le_of_eq r.length.symm⟩⟩
  obtain ⟨z, e1, rfl⟩ := enumD_get _ _ _ _ hd
  obtain ⟨v, e3, e4⟩ := r.get e1
  refine ⟨⟨vs, v, h1, e3⟩, fun x H' ⟨T', y, q1, q2, q3, q4⟩ => ?_⟩
  subst q1 q3
  have := q4 vs h1
  rw [e3] at this
  cases this
  rw [Int.zero_add]
  exact pair_step S q2 (.int _) e4
theorem feeds_zipT {s1 : Sx} {l l' : List MG.D} {a b : Addr} (h : RD M s1 (.tup l) (.ref a)) (h' : RD M s1 (.tup l') (.ref b)) : Feeds M s1 (RZ.ItzT M.K a b) (MG.zipD l l') none := by
  intro s S T _
  obtain ⟨a', vs, e, h1, r⟩ := rd_tup (h.step T)
  cases e
  obtain ⟨b', us, e, h2, r'⟩ := rd_tup (h'.step T)
  cases e
  have hl := r.length
  have hl' := r'.length
  refine ⟨fun i d hd => ?_, ⟨vs, us, h1, h2, by rw [zipD_len]; omega⟩⟩
  obtain ⟨z, z', e1, e2, rfl⟩ := zipD_get _ _ _ _ hd
  obtain ⟨v, e3, e4⟩ := r.get e1
  obtain ⟨u, e5, e6⟩ := r'.get e2
  refine ⟨⟨vs, us, v, u, h1, h2, e3, e5⟩, fun x H' ⟨T', y, y', q1, q2, q3, q4, q5⟩ => ?_⟩
  subst q1 q3
  have := q4 vs h1
  rw [e3] at this
  cases this
  have := q5 us h2
  rw [e5] at this
  cases this
  exact pair_step S q2 e4 e6
theorem feeds_zipL {s1 : Sx} {l l' : List MG.D} {a b : Addr} (h : RD M s1 (.lst l) (.ref a)) (h' : RD M s1 (.lst l') (.ref b)) : Feeds M s1 (Itz M.K a b) (MG.zipD l l') none := by
  intro s S T _
  obtain ⟨a', vs, e, h1, r⟩ := rd_lst S (h.step T) rfl
  cases e
  obtain ⟨b', us, e, h2, r'⟩ := rd_lst S (h'.step T) rfl
  cases e
  have h1 : SqL M.K s.H a vs := .inl (.inl h1)
  have h2 : SqL M.K s.H b us := .inl (.inl h2)
  have hl := r.length
  have hl' := r'.length
  refine ⟨fun i d hd => ?_, ⟨vs, us, h1, h2, by rw [zipD_len]; omega⟩⟩
  obtain ⟨z, z', e1, e2, rfl⟩ := zipD_get _ _ _ _ hd
  obtain ⟨v, e3, e4⟩ := r.get e1
  obtain ⟨u, e5, e6⟩ := r'.get e2
  refine ⟨⟨vs, us, v, u, h1, h2, e3, e5⟩, fun x H' ⟨T', y, y', q1, q2, q3, q4, q5⟩ => ?_⟩
  subst q1 q3
  have := q4 vs h1
  rw [e3] at this
  cases this
  have := q5 us h2
  rw [e5] at this
  cases this
  exact pair_step S q2 e4 e6
theorem i_enum {elts : List Expr} {kk : Nat} (hK : M.K = X.K) (hg : Gl X "enumerate") (hm : X.mg "enumerate" = none) (hs : starEach [a] X.env = [(false, eval a X.env)]) (ha : PE X a (tE M W cl ca)) : PI X (.Tuple elts kk tpos) (.Call (.Name "enumerate" p) [a] [] pos) (tI M W cl (.enum ca)) :=
  pi_imp (MGZ.pi_enumT hg hm (pa_cons ha pa_nil hs) hs) fun σ H R ⟨m, ρ, st, S, Re, P⟩ => by
    unfold MG.evE at P
    refine ⟨m, ρ, st, S, Re, ?_⟩
    cases ea : MG.evE M.G cl ca ρ st with
    | ok x st1 =>
      simp only [ea, MG.Res.bind] at P
      refine fun m1 H1 v S1 T1 r1 => ?_
      cases x with
      | tup ds =>
        obtain ⟨items, chk, ei, P⟩ := P
        cases ei
        obtain ⟨q, vs, rfl, h1, _⟩ := rd_tup r1
        rw [hK] at h1
        refine ⟨q, vs, rfl, .inl ⟨h1, P m1 H1 _ S1 T1 ?_⟩⟩
        rw [← hK]
        exact feeds_enumT r1
      | lst ds =>
        obtain ⟨items, chk, ei, P⟩ := P
        cases ei
        obtain ⟨q, vs, rfl, h1, _⟩ := rd_lst S1 r1 rfl
        refine ⟨q, vs, rfl, .inr ⟨.inl (.inl h1), P m1 H1 _ S1 T1 ?_⟩⟩
        rw [← hK]
        exact feeds_enumL r1
      | _ => exact P.elim
    | err z st1 => simp only [ea, MG.Res.bind] at P; exact P
    | bad => simp only [ea, MG.Res.bind] at P; exact P
theorem i_zip {elts : List Expr} {kk : Nat} (hK : M.K = X.K) (hg : Gl X "zip") (hm : X.mg "zip" = none) (hs : starEach [a, b] X.env = (false, eval a X.env) :: starEach [b] X.env) (hs2 : starEach [b] X.env = [(false, eval b X.env)]) (hpl : (backTo pos (starEach [b] X.env)).any (·.1) = false) (ha : PE X a (tE M W cl ca)) (hb : PE X b (tE M W cl cb)) :
    PI X (.Tuple elts kk tpos) (.Call (.Name "zip" p) [a, b] [] pos) (tI M W cl (.zip ca cb)) :=
  pi_imp (RZ.pi_zipA hg hm (pa_cons ha (pa_cons hb pa_nil hs2) hs) hs hpl) fun σ H R ⟨m, ρ, st, S, Re, P⟩ => by
    unfold MG.evE at P
    refine ⟨m, ρ, st, S, Re, ?_⟩
    cases ea : MG.evE M.G cl ca ρ st with
    | ok x st1 =>
      simp only [ea, MG.Res.bind] at P
      refine fun m1 H1 v S1 T1 r1 => ⟨m1, ρ, st1, S1, Re.step T1, ?_⟩
      cases eb : MG.evE M.G cl cb ρ st1 with
      | ok y st2 =>
        simp only [eb] at P
        refine fun m2 H2 u S2 T2 r2 => ?_
        have r1 := r1.step T2
        split at P
        · obtain ⟨items, chk, ei, P⟩ := P
          cases ei
          obtain ⟨q, vs, rfl, h1, _⟩ := rd_tup r1
          obtain ⟨q', us, rfl, h2, _⟩ := rd_tup r2
          rw [hK] at h1 h2
          refine ⟨q, q', vs, us, rfl, .inr ⟨h1, h2, P m2 H2 _ S2 (T1.trans T2) ?_⟩⟩
          rw [← hK]
          exact feeds_zipT r1 r2
        · obtain ⟨items, chk, ei, P⟩ := P
          cases ei
          obtain ⟨q, vs, rfl, h1, _⟩ := rd_lst S2 r1 rfl
          obtain ⟨q', us, rfl, h2, _⟩ := rd_lst S2 r2 rfl
          refine ⟨q, q', vs, us, rfl, .inl ⟨.inl (.inl h1), .inl (.inl h2), P m2 H2 _ S2 (T1.trans T2) ?_⟩⟩
          rw [← hK]
          exact feeds_zipL r1 r2
        · exact P.elim
      | err z st2 => simp only [eb] at P; exact ⟨P.1, fun m2 H2 cv d S2 T2 xr => P.2 m2 H2 cv d S2 (T1.trans T2) xr⟩
      | bad => simp only [eb] at P; exact P
    | err z st1 => simp only [ea, MG.Res.bind] at P; exact P
    | bad => simp only [ea, MG.Res.bind] at P; exact P
end
end MGS

set_option Elab.async false
set_option linter.all false
set_option maxRecDepth 100000
set_option maxHeartbeats 4000000
/-! Targets, comprehensions. -/
namespace MGS
open PySem PySem.Spec PyProof.Rows L2

/-- the slots of a target -/
def tv : MG.C → List Nat
  | .var i => [i]
  | .cons t ts => tv t ++ tv ts
  | _ => []
def SameX (vs : List Nat) (σ σ' : L2.St) : Prop := σ'.length = σ.length ∧ ∀ j, j ∉ vs → σ'[j]? = σ[j]?
theorem SameX.mono {vs us : List Nat} {σ σ' : L2.St} (h : SameX vs σ σ') (hs : ∀ j ∈ vs, j ∈ us) : SameX us σ σ' := ⟨h.1, fun j hj => h.2 j fun q => hj (hs j q)⟩
theorem SameX.trans {vs : List Nat} {σ σ' σ'' : L2.St} (h : SameX vs σ σ') (h' : SameX vs σ' σ'') : SameX vs σ σ'' := ⟨h'.1.trans h.1, fun j hj => (h'.2 j hj).trans (h.2 j hj)⟩
theorem wipe_get (σ : L2.St) (j : Nat) : ∀ vs : List Nat, (L2.wipe σ vs)[j]? = if j ∈ vs then (if j < σ.length then some none else none) else σ[j]?
  | [] => by simp [L2.wipe]
  | v :: vs => by
    unfold L2.wipe
    by_cases hj : v = j
    · subst hj
      rw [if_pos List.mem_cons_self]
      by_cases hl : v < σ.length
      · rw [if_pos hl, List.getElem?_set_self (by rw [wipe_length]; exact hl)]
      · rw [if_neg hl, List.getElem?_eq_none (by rw [List.length_set, wipe_length]; omega)]
    · rw [List.getElem?_set_ne hj, wipe_get σ j vs]
      have : (j ∈ v :: vs) ↔ j ∈ vs := by simp [Ne.symm hj]
      simp only [this]
theorem wipe_same {vs us : List Nat} {σ σ' : L2.St} (h : SameX us (L2.wipe σ vs) σ') (hs : ∀ j ∈ us, j ∈ vs) : L2.wipe σ' vs = L2.wipe σ vs := by
  refine List.ext_getElem? fun j => ?_
  have hl : σ'.length = σ.length := by rw [h.1, wipe_length]
  rw [wipe_get, wipe_get, hl]
  by_cases hj : j ∈ vs
  · rw [if_pos hj, if_pos hj]
  · rw [if_neg hj, if_neg hj, h.2 j fun q => hj (hs j q), wipe_get, if_neg hj]

section
variable {X : Cx} {M : Mc} {W : WX} {cl : MG.Call} {a b e o tg : Expr} {es : List Expr} {ca cb c t ts : MG.C} {pos p apos tpos : Pos} {n : Nat}
def tG (M : Mc) (t : MG.C) : TG := fun v σ H Q => ∃ m st ρ d ρ', Sim M ⟨m, st, H⟩ ∧ RE M ⟨m, st, H⟩ ρ σ ∧ RD M ⟨m, st, H⟩ d v ∧ MG.bindT t d ρ = some ρ' ∧ ∀ σ', RE M ⟨m, st, H⟩ ρ' σ' → SameX (tv t) σ σ' → Q σ' H
def tGs (M : Mc) (t : MG.C) : TGs := fun vs σ H Q => ∃ m st ρ ds ρ', Sim M ⟨m, st, H⟩ ∧ RE M ⟨m, st, H⟩ ρ σ ∧ RDs M ⟨m, st, H⟩ ds vs ∧ MG.bindT t (.tup ds) ρ = some ρ' ∧ ∀ σ', RE M ⟨m, st, H⟩ ρ' σ' → SameX (tv t) σ σ' → Q σ' H
theorem g_var {i : Nat} {x : PySem.Str} (hN : X.N.Nodup) (hi : X.N[i]? = some x) (hx : Loc X.env.scope x) (hf : X.fn x = true ∨ X.env.scope.names.lookup x = some .local) : PG X (.Name x pos) (tG M (.var i)) :=
  pg_imp (pg_name hN hi hx hf) fun v σ H Q ⟨m, st, ρ, d, ρ', S, R, r, hb, q⟩ => by
    simp only [MG.bindT] at hb
    split at hb
    · cases hb
      refine q _ (R.set r i) ⟨by simp, fun j hj => ?_⟩
      rw [List.getElem?_set_ne]
      intro e
      exact hj (by simp [tv, e])
    · cases hb
theorem gs_nil : PGs X [] (tGs M .nil) := ⟨fun pins s σ H vs us Q I r ⟨m, st, ρ, ds, ρ', S, R, rd, hb, q⟩ => by
  refine pgs_nil.run pins s σ H vs us Q I r ?_
  cases ds with
  | nil =>
    cases rd
    simp only [MG.bindT] at hb
    cases hb
    exact ⟨rfl, q σ R ⟨rfl, fun _ _ => rfl⟩⟩
  | cons d ds => simp [MG.bindT] at hb⟩
theorem gs_cons (hs : (assignEach (a :: es) X.env).map (·.2) = assign a X.env :: (assignEach es X.env).map (·.2)) (h1 : PG X a (tG M t)) (h2 : PGs X es (tGs M ts)) : PGs X (a :: es) (tGs M (.cons t ts)) := ⟨fun pins s σ H vs us Q I r ⟨m, st, ρ, ds, ρ', S, R, rd, hb, q⟩ => by
  refine (pgs_cons h1 h2 hs).run pins s σ H vs us Q I r ?_
  cases ds with
  | nil => simp [MG.bindT] at hb
  | cons d ds =>
    cases rd with
    | cons r1 r2 =>
      simp only [MG.bindT] at hb
      obtain ⟨ρ1, e1, e2⟩ := Option.bind_eq_some_iff.mp hb
      refine ⟨_, _, rfl, m, st, ρ, d, ρ1, S, R, r1, e1, fun σ1 R1 x1 => ⟨m, st, ρ1, ds, ρ', S, R1, r2, e2, fun σ2 R2 x2 => q σ2 R2 ?_⟩⟩
      exact (x1.mono fun j hj => by simp [tv, hj]).trans (x2.mono fun j hj => by simp [tv, hj])⟩
/-- a chain of targets -/
theorem bindT_len : ∀ {t : MG.C} {n : Nat} {d : MG.D} {ρ ρ' : MG.Env}, argc t = some n → MG.bindT t d ρ = some ρ' → ∃ ds, d = .tup ds ∧ ds.length = n
  | .nil, n, d, ρ, ρ', h, e => by
    have : n = 0 := by simpa [argc] using h.symm
    subst this
    cases d with
    | tup ds => cases ds with
      | nil => exact ⟨[], rfl, rfl⟩
      | cons _ _ => simp [MG.bindT] at e
    | _ => simp [MG.bindT] at e
  | .cons t ts, n, d, ρ, ρ', h, e => by
    obtain ⟨k, hk, rfl⟩ : ∃ k, argc ts = some k ∧ k + 1 = n := by simpa [argc] using h
    cases d with
    | tup ds => cases ds with
      | nil => simp [MG.bindT] at e
      | cons d ds =>
        simp only [MG.bindT] at e
        obtain ⟨ρ1, e1, e2⟩ := Option.bind_eq_some_iff.mp e
        obtain ⟨ds', e3, e4⟩ := bindT_len hk e2
        cases e3
        exact ⟨_, rfl, by rw [List.length_cons, e4]⟩
    | _ => simp [MG.bindT] at e
theorem g_tup {k : Nat} (hK : M.K = X.K) (hc : X.calm = true) (hn : argc t = some n) (hl : (assignEach es X.env).length = n) (hst : (assignEach es X.env).findIdx? (·.1) = none) (h : PGs X es (tGs M t)) : PG X (.Tuple es k pos) (tG M t) :=
  pg_imp (pg_tup hc h hl hst) fun v σ H Q ⟨m, st, ρ, d, ρ', S, R, r, hb, q⟩ => by
    obtain ⟨ds, rfl, hd⟩ := bindT_len hn hb
    obtain ⟨a, vs, rfl, h1, rr⟩ := rd_tup r
    rw [hK] at h1
    exact ⟨a, vs, rfl, h1, by rw [← rr.length, hd], m, st, ρ, ds, ρ', S, R, rr, hb, q⟩

/-! ### the store cut back -/
mutual
theorem RD.cutB {m : List Addr} {st : MG.Store} {H : Hp} {r : Nat} : ∀ {d : MG.D} {v : V}, RD M ⟨m, st, H⟩ d v → MG.below r d = true → RD M ⟨m.take r, st.take r, H⟩ d v
  | _, _, .non, _ => .non
  | _, _, .bl b, _ => .bl b
  | _, _, .int i, _ => .int i
  | _, _, .str x, _ => .str x
  | _, _, .tup h n q, c => .tup h (fun z => n (live_cut z)) (RDs.cutB q (by simpa [MG.below] using c))
  | _, _, .tupK h n q, c => .tupK h n (RDs.cutB q (by simpa [MG.below] using c))
  | _, _, .lst h n q, c => .lst h (fun z => n (live_cut z)) (RDs.cutB q (by simpa [MG.below] using c))
  | _, _, .scr h n, _ => .scr h fun z => n (live_cut z)
  | _, _, .scrK h, _ => .scrK h
  | _, _, .ref (r := k) h, c => .ref (by
      have c : k < r := by simpa [MG.below] using c
      show (m.take r)[k]? = _
      rw [List.getElem?_take_of_lt c]
      exact h)
  | _, _, .gd h, _ => .gd h
theorem RDs.cutB {m : List Addr} {st : MG.Store} {H : Hp} {r : Nat} : ∀ {ds : List MG.D} {vs : List V}, RDs M ⟨m, st, H⟩ ds vs → MG.belowAll r ds = true → RDs M ⟨m.take r, st.take r, H⟩ ds vs
  | _, _, .nil, _ => .nil
  | _, _, .cons h q, c => by
    simp only [MG.belowAll, Bool.and_eq_true] at c
    exact .cons (RD.cutB h c.1) (RDs.cutB q c.2)
theorem live_cut {m : List Addr} {st : MG.Store} {H : Hp} {r : Nat} {a : Addr} (h : live ⟨m.take r, st.take r, H⟩ a) : live ⟨m, st, H⟩ a := by
  obtain ⟨k, o, h1, h2, h3⟩ := h
  have h1 : (m.take r)[k]? = some a := h1
  have h2 : (st.take r)[k]? = some o := h2
  have hk : k < r := by
    have := (List.getElem?_eq_some_iff.mp h1).1
    rw [List.length_take] at this
    omega
  rw [List.getElem?_take_of_lt hk] at h1 h2
  exact ⟨k, o, h1, h2, h3⟩
end
theorem RKV.cutB {m : List Addr} {st : MG.Store} {H : Hp} {r : Nat} : ∀ {q : List (MG.D × MG.D)} {w : List (Key × V)}, RKV M ⟨m, st, H⟩ q w → MG.belowKV r q = true → RKV M ⟨m.take r, st.take r, H⟩ q w
  | _, _, .nil, _ => .nil
  | _, _, .cons k h q, c => by
    simp only [MG.belowKV, Bool.and_eq_true] at c
    exact .cons k (h.cutB c.1.2) (RKV.cutB q c.2)
theorem RTV.cutB {m : List Addr} {st : MG.Store} {H : Hp} {r : Nat} : ∀ {q : List (MG.D × MG.D)} {w : List (List Key × V)}, RTV M ⟨m, st, H⟩ q w → MG.belowKV r q = true → RTV M ⟨m.take r, st.take r, H⟩ q w
  | _, _, .nil, _ => .nil
  | _, _, .cons k h q, c => by
    simp only [MG.belowKV, Bool.and_eq_true] at c
    exact .cons k (h.cutB c.1.2) (RTV.cutB q c.2)
theorem fget_below {r : Nat} {f : String} {d : MG.D} : ∀ {fs : List (String × MG.D)}, MG.belowF r fs = true → MG.fget fs f = some d → MG.below r d = true
  | [], _, h => by cases h
  | (g, e) :: fs, c, h => by
    simp only [MG.belowF, Bool.and_eq_true] at c
    simp only [MG.fget] at h
    split at h
    · cases h; exact c.1
    · exact fget_below c.2 h
/-- an object names what stands below r alone -/
def Blw (r : Nat) : MG.O → Prop
  | .lst ds => MG.belowAll r ds = true
  | .dK kvs => MG.belowKV r kvs = true
  | .dT kvs => MG.belowKV r kvs = true
  | .ins _ fs => ∀ f d, MG.fget fs f = some d → MG.below r d = true
  | .dead => True
theorem Blw.of {r : Nat} {o : MG.O} (h : MG.belowO r o = true) : Blw r o := by
  cases o with
  | ins k fs => exact fun f d e => fget_below h e
  | dead => trivial
  | _ => exact h
theorem RO.cutB {m : List Addr} {st : MG.Store} {H : Hp} {r : Nat} {a : Addr} {o : MG.O} (h : RO M ⟨m, st, H⟩ a o) (c : Blw r o) : RO M ⟨m.take r, st.take r, H⟩ a o := by
  cases o with
  | lst ds => obtain ⟨vs, h1, h2⟩ := h; exact ⟨vs, h1, h2.cutB c⟩
  | dK kvs => obtain ⟨q, h1, h2⟩ := h; exact ⟨q, h1, h2.cutB c⟩
  | dT kvs => obtain ⟨q, h1, h2⟩ := h; exact ⟨q, h1, h2.cutB c⟩
  | ins k fs =>
    obtain ⟨C, dx, gs, h0, h1, h2, h3⟩ := h
    refine ⟨C, dx, gs, h0, h1, h2, fun f => ?_⟩
    have q := h3 f
    revert q
    cases e : MG.fget fs f with
    | none => exact fun q => q
    | some d => rintro ⟨v, q1, q2⟩; exact ⟨v, q1, q2.cutB (c f d e)⟩
  | dead => trivial
mutual
theorem RD.blw {s : Sx} : ∀ {d : MG.D} {v : V}, RD M s d v → MG.below s.m.length d = true
  | _, _, .non => rfl
  | _, _, .bl b => rfl
  | _, _, .int i => rfl
  | _, _, .str x => rfl
  | _, _, .tup h n q => by simp only [MG.below]; exact RDs.blw q
  | _, _, .tupK h n q => by simp only [MG.below]; exact RDs.blw q
  | _, _, .lst h n q => by simp only [MG.below]; exact RDs.blw q
  | _, _, .scr h n => rfl
  | _, _, .scrK h => rfl
  | _, _, .ref h => by simp only [MG.below, decide_eq_true_eq]; exact (List.getElem?_eq_some_iff.mp h).1
  | _, _, .gd h => rfl
theorem RDs.blw {s : Sx} : ∀ {ds : List MG.D} {vs : List V}, RDs M s ds vs → MG.belowAll s.m.length ds = true
  | _, _, .nil => rfl
  | _, _, .cons h q => by simp only [MG.belowAll, RD.blw h, RDs.blw q, Bool.and_self]
end
theorem key_blw {n : Nat} {k : MG.D} {κ : Key} (h : keyOf k = some κ) : MG.below n k = true := by
  cases k <;> first | rfl | (simp [keyOf] at h)
theorem keys_blw {n : Nat} : ∀ {ks : List MG.D} {κ : List Key}, keysOf ks = some κ → MG.belowAll n ks = true
  | [], _, _ => rfl
  | d :: ds, κ, h => by
    simp only [keysOf] at h
    split at h
    · rename_i a b e1 e2
      simp only [MG.belowAll, key_blw e1, keys_blw e2, Bool.and_self]
    · cases h
theorem tkey_blw {n : Nat} {k : MG.D} {κ : List Key} (h : tkeyOf k = some κ) : MG.below n k = true := by
  cases k <;> first | (simp [tkeyOf] at h; done) | skip
  simp only [MG.below]
  exact keys_blw h
theorem RO.blw {s : Sx} {a : Addr} {o : MG.O} (h : RO M s a o) : Blw s.m.length o := by
  cases o with
  | lst ds => obtain ⟨vs, h1, h2⟩ := h; exact h2.blw
  | dK kvs =>
    obtain ⟨q, h1, h2⟩ := h
    show MG.belowKV _ kvs = true
    clear h1
    induction h2 with
    | nil => rfl
    | cons k h _ ih => simp only [MG.belowKV, key_blw k, h.blw, ih, Bool.and_self]
  | dT kvs =>
    obtain ⟨q, h1, h2⟩ := h
    show MG.belowKV _ kvs = true
    clear h1
    induction h2 with
    | nil => rfl
    | cons k h _ ih => simp only [MG.belowKV, tkey_blw k, h.blw, ih, Bool.and_self]
  | ins k fs =>
    obtain ⟨C, dx, gs, h0, h1, h2, h3⟩ := h
    intro f d e
    have q := h3 f
    rw [e] at q
    obtain ⟨v, _, q2⟩ := q
    exact q2.blw
  | dead => trivial
theorem sameKV_eq : ∀ (a b : List (MG.D × MG.D)), MG.sameKV a b = true → a = b
  | [], [], _ => rfl
  | [], _ :: _, h => by simp [MG.sameKV] at h
  | _ :: _, [], h => by simp [MG.sameKV] at h
  | (k, v) :: r, (k', v') :: r', h => by
    simp only [MG.sameKV, Bool.and_eq_true] at h
    rw [same_eq _ _ h.1.1, same_eq _ _ h.1.2, sameKV_eq r r' h.2]
theorem sameF_eq : ∀ (a b : List (String × MG.D)), MG.sameF a b = true → a = b
  | [], [], _ => rfl
  | [], _ :: _, h => by simp [MG.sameF] at h
  | _ :: _, [], h => by simp [MG.sameF] at h
  | (k, v) :: r, (k', v') :: r', h => by
    simp only [MG.sameF, Bool.and_eq_true] at h
    rw [eq_of_beq h.1.1, same_eq _ _ h.1.2, sameF_eq r r' h.2]
theorem sameO_eq {a b : MG.O} (h : MG.sameO a b = true) : a = b := by
  cases a <;> cases b <;> first | (simp [MG.sameO] at h; done) | skip
  · rw [sameAll_eq _ _ h]
  · rw [sameKV_eq _ _ h]
  · rw [sameKV_eq _ _ h]
  · simp only [MG.sameO, Bool.and_eq_true] at h
    rw [eq_of_beq h.1, sameF_eq _ _ h.2]
  · rfl
theorem kept_blw {n : Nat} : ∀ {st0 st : MG.Store}, (∀ o ∈ st0, Blw n o) → MG.keptB n st0 st = true → ∀ o ∈ st.take st0.length, Blw n o
  | [], _, _, _ => fun o h => by simp at h
  | _ :: _, [], _, h => by simp [MG.keptB] at h
  | a :: r, p :: q, hb, h => by
    simp only [MG.keptB, Bool.and_eq_true, Bool.or_eq_true] at h
    intro o ho
    rw [List.length_cons, List.take_succ_cons] at ho
    rcases List.mem_cons.mp ho with rfl | ho
    · rcases h.1 with e | e
      · rw [← sameO_eq e]; exact hb _ (List.mem_cons_self ..)
      · exact .of e
    · exact kept_blw (fun o h => hb o (List.mem_cons_of_mem _ h)) h.2 o ho
theorem Sim.blw {s : Sx} (S : Sim M s) : ∀ o ∈ s.st, Blw s.st.length o := by
  intro o ho
  obtain ⟨i, hi, e⟩ := List.mem_iff_getElem.mp ho
  have hm : i < s.m.length := by rw [S.len]; exact hi
  have := (S.ob i _ o (List.getElem?_eq_getElem hm) (by rw [List.getElem?_eq_getElem hi, e])).blw
  rw [S.len] at this
  exact this
theorem sim_cut {s1 : Sx} {m : List Addr} {st : MG.Store} {H : Hp} (S1 : Sim M s1) (S : Sim M ⟨m, st, H⟩) (c : MG.keptB s1.st.length s1.st st = true) : Sim M ⟨m.take s1.st.length, st.take s1.st.length, H⟩ := by
  refine ⟨?_, ?_, ?_, ?_⟩
  · show (m.take _).length = (st.take _).length
    have : m.length = st.length := S.len
    rw [List.length_take, List.length_take, this]
  · exact S.nd.sublist (List.take_sublist _ _)
  · exact fun a ha => S.al a (List.mem_of_mem_take ha)
  · intro k a o q1 q2
    have q1 : (m.take s1.st.length)[k]? = some a := q1
    have q2 : (st.take s1.st.length)[k]? = some o := q2
    have hb := kept_blw S1.blw c o (List.mem_of_getElem? q2)
    have hk : k < s1.st.length := by
      have := (List.getElem?_eq_some_iff.mp q1).1
      rw [List.length_take] at this
      omega
    rw [List.getElem?_take_of_lt hk] at q1 q2
    exact (S.ob k a o q1 q2).cutB hb
theorem step_cut {s : Sx} {m : List Addr} {st : MG.Store} {H : Hp} (S : Sim M s) (T : Step s ⟨m, st, H⟩) : Step s ⟨m.take s.st.length, st.take s.st.length, H⟩ := by
  refine ⟨⟨[], ?_⟩, ?_, T.more⟩
  · obtain ⟨l, el⟩ := T.pre
    have el : m = s.m ++ l := el
    show m.take s.st.length = s.m ++ []
    rw [el, ← S.len, List.take_left, List.append_nil]
  · intro a o v h n
    exact ⟨(T.kf a o v h n).1, fun z => (T.kf a o v h n).2 (live_cut (M := M) z)⟩
/-- behind a comprehension -/
theorem cut_of {s1 : Sx} {m : List Addr} {st : MG.Store} {H : Hp} {σ : L2.St} {D : Addr} {Q : VK} (S : Sim M ⟨m, st, H⟩) (S1 : Sim M s1) (T : Step s1 ⟨m, st, H⟩) (hat : m[s1.st.length]? = some D) (P : Post M W s1 σ (MG.freezeC s1.st st) Q) : Q (.ref D) H := by
  unfold MG.freezeC at P
  cases e : st[s1.st.length]? with
  | none => rw [e] at P; exact P.elim
  | some ob =>
    rw [e] at P
    cases ob with
    | lst ds =>
      simp only at P
      obtain ⟨vs, h1, h2⟩ := S.ob _ D _ hat e
      split at P
      · rename_i c
        simp only [Bool.and_eq_true] at c
        obtain ⟨c2, c3⟩ := c
        have hlt : s1.st.length < st.length := (List.getElem?_eq_some_iff.mp e).1
        have nl : ¬ live ⟨m.take s1.st.length, st.take s1.st.length, H⟩ D := by
          rintro ⟨k, o, q1, q2, q3⟩
          have q1 : (m.take s1.st.length)[k]? = some D := q1
          have hk : k < s1.st.length := by
            have := (List.getElem?_eq_some_iff.mp q1).1
            rw [List.length_take] at this
            omega
          rw [List.getElem?_take_of_lt hk] at q1
          have := set_sim.nodup_ix' S.nd q1 hat
          omega
        exact P (m.take s1.st.length) H (.ref D) (sim_cut S1 S c3) (step_cut S1 T) (.lst h1 nl (h2.cutB c2))
      · have T2 : Step ⟨m, st, H⟩ ⟨m, st.set s1.st.length .dead, H⟩ := free_step S
        exact P m H _ (free_sim S) (T.trans T2) (.lst h1 (free_not S hat) (h2.step T2))
    | _ => exact P.elim

/-! ### comprehensions -/
abbrev WF : WX := fun _ _ _ _ => False
theorem c_nil : PTs X [] (tB (tE M W cl (.k (.bl true)))) := ⟨fun pins s σ H Q I h => pts_nil.run pins s σ H Q I (by
  obtain ⟨c, e, q⟩ := k_of h fun s => RD.bl true
  cases e
  exact q)⟩
theorem e_comp {elt iter : Expr} {ifs : List Expr} {scope : Scope} {own : Bool} {ow : List (PySem.Str × Nat)} {it cond ce : MG.C} (hc : X.calm = true) (hN : X.N.Nodup) (ok : BlkOk X.N X.env.scope scope ow) (hv : ∀ j ∈ tv t, j ∈ ow.map (·.2))
    (hs : ∀ x, foldedSetIterable iter X.env x = pure x) (hi : PI X tg iter (tI M W cl it))
    (hg : ∀ (s : Shared) (H : Hp) (C : Addr) (cls : List (PySem.Str × Addr)) (fp : List Addr), PG (X.blk s H scope (compEnvC scope cls C X.env) fp) tg (tG M t))
    (ht : ∀ (s : Shared) (H : Hp) (C : Addr) (cls : List (PySem.Str × Addr)) (fp : List Addr), PTs (X.blk s H scope (compEnvC scope cls C X.env) fp) ifs (tB (tE M WF cl cond)))
    (he : ∀ (s : Shared) (H : Hp) (C : Addr) (cls : List (PySem.Str × Addr)) (fp : List Addr), PE (X.blk s H scope (compEnvC scope cls C X.env) fp) elt (tE M WF cl ce)) :
    PE X (.ListComp elt [⟨tg, iter, ifs, 0⟩] scope pos) (tE M W cl (.comp own (ow.map (·.2)) t it cond ce)) :=
  pe_imp (pe_lc hc hN hi ok hg ht he hs) fun σ H Q h => lc_of hv h
where
  lc_of {own : Bool} {vs : List Nat} {it cond ce : MG.C} (hv : ∀ j ∈ tv t, j ∈ vs) {σ : L2.St} {H : Hp} {Q : VK} (h : tE M W cl (.comp own vs t it cond ce) σ H Q) :
      tLc (tI M W cl it) (tG M t) (tB (tE M WF cl cond)) (tE M WF cl ce) vs σ H Q := by
    obtain ⟨m, ρ, st, S, R, P⟩ := h
    unfold MG.evE at P
    refine ⟨m, ρ, st, S, R, ?_⟩
    cases ei : MG.evE M.G cl it ρ st with
    | err x st1 => rw [ei] at P; exact P
    | bad => rw [ei] at P; exact P
    | ok x st1 =>
      simp only [ei, MG.Res.bind] at P
      split at P
      · rename_i items chk eit
        refine ⟨items, chk, eit, fun m1 H1 J S1 T1 F D hD => ?_⟩
        have S2 : Sim M ⟨m1 ++ [D], st1 ++ [.lst []], upd H1 D (.lst [])⟩ := own_sim S1 hD ⟨[], upd_same, .nil⟩
        have T2 : Step ⟨m1, st1, H1⟩ ⟨m1 ++ [D], st1 ++ [.lst []], upd H1 D (.lst [])⟩ := own_step S1 hD
        have hat : (m1 ++ [D])[st1.length]? = some D := by
          have : st1.length = m1.length := S1.len.symm
          rw [this, List.getElem?_concat_length]
        generalize hfin : (fun (_ : MG.D) (st2 : MG.Store) => if own = true then MG.Res.ok (MG.D.ref st1.length) st2 else MG.freezeC st1 st2) = fin at P
        generalize hcl : MG.compL st1.length (fun d => MG.bindT t d (MG.wipe ρ vs)) (fun ρ' st' => MG.evE M.G cl cond ρ' st') (fun ρ' st' => MG.evE M.G cl ce ρ' st') chk = loop at P
        have P : Post M W ⟨m, st, H⟩ σ ((loop items (st1 ++ [.lst []])).bind fin) Q := by
          subst hfin
          exact P
        have P := Post.shift P T1
        refine ⟨fun i μ H' => ∃ m' st', Sim M ⟨m', st', H'⟩ ∧ Step ⟨m1 ++ [D], st1 ++ [.lst []], upd H1 D (.lst [])⟩ ⟨m', st', H'⟩ ∧ i ≤ items.length ∧ μ = items.length - i ∧ Post M W ⟨m1, st1, H1⟩ σ ((loop (items.drop i) st').bind fin) Q,
          ⟨items.length, m1 ++ [D], st1 ++ [.lst []], S2, Step.refl _, Nat.zero_le _, rfl, by rw [List.drop_zero]; exact P⟩, ?_⟩
        rintro i μ H' ⟨m', st', S', T', hi, hμ, P'⟩
        have Ts := T2.trans T'
        by_cases hlast : i = items.length
        · left
          rw [hlast, List.drop_length, ← hcl] at P'
          simp only [MG.compL] at P'
          split at P'
          · rename_i hst
            obtain ⟨_, f2⟩ := F ⟨m', st', H'⟩ S' Ts hst
            refine ⟨by rw [hlast]; exact f2, ?_⟩
            rw [← hfin] at P'
            simp only [MG.Res.bind] at P'
            have rd : RD M ⟨m', st', H'⟩ (.ref st1.length) (.ref D) := .ref (T'.at hat)
            cases own with
            | true => exact P' m' H' _ S' Ts rd
            | false => exact cut_of (s1 := ⟨m1, st1, H1⟩) S' S1 Ts (T'.at hat) P'
          · exact P'.elim
        · right
          have hi' : i < items.length := by omega
          rw [List.drop_eq_getElem_cons hi', ← hcl] at P'
          simp only [MG.compL] at P'
          split at P'
          · rename_i hst
            obtain ⟨f1, _⟩ := F ⟨m', st', H'⟩ S' Ts hst
            obtain ⟨go, yl⟩ := f1 i items[i] (List.getElem?_eq_getElem hi')
            refine ⟨go, fun H'' => ∃ m'' st'', Sim M ⟨m'', st'', H''⟩ ∧ Step ⟨m1 ++ [D], st1 ++ [.lst []], upd H1 D (.lst [])⟩ ⟨m'', st'', H''⟩ ∧ Post M W ⟨m1, st1, H1⟩ σ ((loop (items.drop (i + 1)) st'').bind fin) Q, ?_, ?_⟩
            · rintro H'' ⟨m'', st'', q1, q2, q3⟩
              exact ⟨items.length - (i + 1), by omega, m'', st'', q1, q2, hi', rfl, q3⟩
            · intro x H3 hy
              obtain ⟨S3, T3, r3⟩ := yl x H3 hy
              split at P'
              · exact P'.elim
              · rename_i ρ' hb
                have Rw : RE M ⟨m', st', H3⟩ (MG.wipe ρ vs) (L2.wipe σ vs) := ((R.step T1).step (Ts.trans T3)).wipe vs
                refine ⟨m', st', MG.wipe ρ vs, items[i], ρ', S3, Rw, r3, hb, fun σ2 R2 x2 => ⟨wipe_same x2 hv, ?_⟩⟩
                refine ⟨m', ρ', st', S3, R2, ?_⟩
                cases ec : MG.evE M.G cl cond ρ' st' with
                | err z st4 => rw [ec] at P'; exact P'.elim
                | bad => rw [ec] at P'; exact P'.elim
                | ok db st4 =>
                  rw [ec] at P'
                  intro m4 H4 vb S4 T4 r4
                  have T34 := T3.trans T4
                  cases r4 with
                  | bl bb =>
                    refine ⟨bb, rfl, ?_⟩
                    cases bb with
                    | false =>
                      rw [if_neg Bool.false_ne_true]
                      simp only at P'
                      rw [hcl] at P'
                      exact ⟨m4, st4, S4, T'.trans T34, P'⟩
                    | true =>
                      rw [if_pos rfl]
                      simp only at P'
                      refine ⟨m4, ρ', st4, S4, R2.step T4, ?_⟩
                      cases ee : MG.evE M.G cl ce ρ' st4 with
                      | err z st5 => rw [ee] at P'; exact P'.elim
                      | bad => rw [ee] at P'; exact P'.elim
                      | ok de st5 =>
                        rw [ee] at P'
                        intro m5 H5 ve S5 T5 r5
                        simp only at P'
                        split at P'
                        · rename_i acc ea
                          split at P'
                          · rename_i hlen
                            have T35 := T34.trans T5
                            have hat5 : m5[st1.length]? = some D := (T'.trans T35).at hat
                            obtain ⟨us, w1, w2⟩ := S5.ob _ D _ hat5 ea
                            rw [hcl] at P'
                            have T6 : Step ⟨m5, st5, H5⟩ ⟨m5, st5.set st1.length (.lst (acc ++ [de])), upd H5 D (.lst (us ++ [ve]))⟩ := set_step S5 hat5 ea (by simp)
                            refine ⟨us, w1, by rw [← w2.length, sizeLine_eq]; exact hlen, m5, st5.set st1.length (.lst (acc ++ [de])), set_sim S5 hat5 ea (by simp) ⟨_, upd_same, ?_⟩, (T'.trans T35).trans T6, P'⟩
                            exact (w2.append (.cons r5 .nil)).step T6
                          · exact P'.elim
                        · exact P'.elim
                  | _ => exact P'.elim
          · exact P'.elim
      · exact P.elim
end
end MGS

set_option Elab.async false
set_option linter.all false
set_option maxRecDepth 100000
set_option maxHeartbeats 4000000
/-! Core statements against the layer's judgements, node by node. -/
namespace MGS
open PySem PySem.Spec PyProof.Rows L2

def PostS (M : Mc) (W : WX) (s : Sx) (r : MG.SR) (D : Ends) : Prop :=
  match r with
  | .nx ρ st' => ∀ (m' : List Addr) (σ' : L2.St) (H' : Hp), Sim M ⟨m', st', H'⟩ → Step s ⟨m', st', H'⟩ → RE M ⟨m', st', H'⟩ ρ σ' → D.nx σ' H'
  | .ct ρ st' => ∀ (m' : List Addr) (σ' : L2.St) (H' : Hp), Sim M ⟨m', st', H'⟩ → Step s ⟨m', st', H'⟩ → RE M ⟨m', st', H'⟩ ρ σ' → D.ct σ' H'
  | .ret d st' => ∀ (m' : List Addr) (H' : Hp) (v : V), Sim M ⟨m', st', H'⟩ → Step s ⟨m', st', H'⟩ → RD M ⟨m', st', H'⟩ d v → D.rt v H'
  | .err x ρ st' => M.exc = true ∧ ∀ (m' : List Addr) (σ' : L2.St) (H' : Hp) (cv : Value) (d : Option Addr), Sim M ⟨m', st', H'⟩ → Step s ⟨m', st', H'⟩ → RE M ⟨m', st', H'⟩ ρ σ' → XR M ⟨m', st', H'⟩ x cv d → W cv d σ' H'
  | .bad => False
theorem PostS.shift {M : Mc} {W : WX} {s t : Sx} {r : MG.SR} {D : Ends} (h : PostS M W s r D) (a : Step s t) : PostS M W t r D := by
  cases r with
  | nx ρ st' => exact fun m' σ' H' h1 h2 h3 => h m' σ' H' h1 (a.trans h2) h3
  | ct ρ st' => exact fun m' σ' H' h1 h2 h3 => h m' σ' H' h1 (a.trans h2) h3
  | ret d st' => exact fun m' H' v h1 h2 h3 => h m' H' v h1 (a.trans h2) h3
  | err x ρ st' => exact ⟨h.1, fun m' σ' H' cv d h1 h2 h3 => h.2 m' σ' H' cv d h1 (a.trans h2) h3⟩
  | bad => exact h
section
variable {X : Cx} {M : Mc} {W : WX} {cl : MG.Call} {U : MG.Up} {a b e o tg : Expr} {es : List Expr} {ca cb c t ts : MG.C} {pos p apos tpos : Pos} {n : Nat}
def tS (M : Mc) (W : WX) (cl : MG.Call) (U : MG.Up) (x : MG.S) : TS := fun D σ H => ∃ m ρ st, Sim M ⟨m, st, H⟩ ∧ RE M ⟨m, st, H⟩ ρ σ ∧ PostS M W ⟨m, st, H⟩ (MG.evS M.G U cl x ρ st) D
theorem tE.go {c : MG.C} {σ : L2.St} {ρ : MG.Env} {s : Sx} {f : MG.D → MG.Store → MG.SR} {D : Ends} (S : Sim M s) (R : RE M s ρ σ) (h : PostS M W s ((MG.evE M.G cl c ρ s.st).go ρ f) D) :
    tE M W cl c σ s.H fun v H1 => ∃ m1 st1 d, Sim M ⟨m1, st1, H1⟩ ∧ Step s ⟨m1, st1, H1⟩ ∧ RE M ⟨m1, st1, H1⟩ ρ σ ∧ RD M ⟨m1, st1, H1⟩ d v ∧ PostS M W ⟨m1, st1, H1⟩ (f d st1) D := by
  refine ⟨s.m, ρ, s.st, S, R, ?_⟩
  show Post M W s σ _ _
  cases e : MG.evE M.G cl c ρ s.st with
  | ok d st1 =>
    rw [e] at h
    exact fun m' H' v h1 h2 h3 => ⟨m', st1, d, h1, h2, R.step h2, h3, PostS.shift h h2⟩
  | err x st1 =>
    rw [e] at h
    exact ⟨h.1, fun m' H' cv d h1 h2 h3 => h.2 m' σ H' cv d h1 h2 (R.step h2) h3⟩
  | bad => rw [e] at h; exact h

/-! ### blocks -/
theorem ss_nil : PSs X [] (tS M W cl U .skip) := pss_imp pss_nil fun D σ H ⟨m, ρ, st, S, R, P⟩ => by
  unfold MG.evS at P
  exact P m σ H S (Step.refl _) R
theorem s_skip {st : Stmt} (h : PS X st tNext) : PS X st (tS M W cl U .skip) := ps_imp h fun D σ H ⟨m, ρ, st, S, R, P⟩ => by
  unfold MG.evS at P
  exact P m σ H S (Step.refl _) R
theorem ss_cons {st : Stmt} {rest : List Stmt} {x y : MG.S} (h1 : PS X st (tS M W cl U x)) (h2 : PSs X rest (tS M W cl U y)) : PSs X (st :: rest) (tS M W cl U (.seq x y)) :=
  pss_imp (pss_cons h1 h2) fun D σ H ⟨m, ρ, st, S, R, P⟩ => by
    unfold MG.evS at P
    refine ⟨m, ρ, st, S, R, ?_⟩
    cases e : MG.evS M.G U cl x ρ st with
    | nx ρ1 st1 =>
      rw [e] at P
      exact fun m' σ' H' h1 h2 h3 => ⟨m', ρ1, st1, h1, h3, PostS.shift P h2⟩
    | ct ρ1 st1 => rw [e] at P; exact P
    | ret d st1 => rw [e] at P; exact P
    | err z ρ1 st1 => rw [e] at P; exact P
    | bad => rw [e] at P; exact P
/-- a docstring ahead -/
theorem ss_doc {x j pos pos'} {rest : List Stmt} {y : MG.S} (h2 : PSs X rest (tS M W cl U y)) : PSs X (.Expr (.Constant (.str x) j pos) pos' :: rest) (tS M W cl U y) :=
  pss_imp (pss_cons ps_doc h2) fun D σ H h => h

/-! ### simple statements -/
theorem s_ex (hs : swapsWith e none pos.line X.env = pure false) (he : PE X e (tE M W cl c)) : PS X (.Expr e pos) (tS M W cl U (.ex c)) :=
  ps_imp (ps_expr he hs) fun D σ H ⟨m, ρ, st, S, R, P⟩ => by
    unfold MG.evS at P
    exact (tE.go S R P).mono fun v H1 ⟨m1, st1, d, S1, T1, R1, r1, P1⟩ => P1 m1 σ H1 S1 (Step.refl _) R1
theorem s_ret (he : PE X e (tE M W cl c)) : PS X (.Return (some e) pos) (tS M W cl U (.ret c)) :=
  ps_imp (ps_ret he) fun D σ H ⟨m, ρ, st, S, R, P⟩ => by
    unfold MG.evS at P
    exact (tE.go S R P).mono fun v H1 ⟨m1, st1, d, S1, T1, R1, r1, P1⟩ => P1 m1 H1 v S1 (Step.refl _) r1
theorem s_retN : PS X (.Return none pos) (tS M W cl U (.ret (.k .non))) :=
  ps_imp ps_retN fun D σ H ⟨m, ρ, st, S, R, P⟩ => by
    unfold MG.evS MG.evE at P
    exact P m H .non S (Step.refl _) .non
theorem s_cont : PS X (.Continue pos) (tS M W cl U .cont) := ps_imp ps_continue fun D σ H ⟨m, ρ, st, S, R, P⟩ => by
  unfold MG.evS at P
  exact P m σ H S (Step.refl _) R
/-- a bool, then one of two pieces -/
theorem bl_casesS {s : Sx} {d : MG.D} {v : V} {r1 r2 : MG.SR} {D : Ends} (r : RD M s d v) (P : PostS M W s (match (motive := MG.D → MG.SR) d with | .bl true => r1 | .bl false => r2 | _ => .bad) D) :
    ∃ c, v = .bl c ∧ if c = true then PostS M W s r1 D else PostS M W s r2 D := by
  cases r with
  | bl b => cases b <;> exact ⟨_, rfl, P⟩
  | _ => exact P.elim
theorem s_if {x y : MG.S} {p q : List Stmt} (hc : PT X e (tB (tE M W cl c))) (ha : PSs X p (tS M W cl U x)) (hb : PSs X q (tS M W cl U y)) : PS X (.If e p q pos) (tS M W cl U (.ife c x y)) :=
  ps_imp (ps_if hc ha hb) fun D σ H ⟨m, ρ, st, S, R, P⟩ => by
    unfold MG.evS at P
    refine (tE.go S R P).mono fun v H1 ⟨m1, st1, d, S1, T1, R1, r1, P1⟩ => ?_
    obtain ⟨c, e, q⟩ := bl_casesS r1 P1
    refine ⟨c, e, ?_⟩
    cases c with
    | true => exact ⟨m1, ρ, st1, S1, R1, q⟩
    | false => exact ⟨m1, ρ, st1, S1, R1, q⟩
/-- code that no run comes to where exceptions are not told -/
theorem s_raise {st : Stmt} {k : String} {ini : Bool} (hx : M.exc = false) : PS X st (tS M W cl U (.raise k ini c)) :=
  ps_imp ps_never fun D σ H ⟨m, ρ, st, S, R, P⟩ => by
    unfold MG.evS at P
    have no : ∀ {x ρ' st'}, ¬ PostS M W ⟨m, st, H⟩ (.err x ρ' st') D := fun q => by have := q.1; rw [hx] at this; cases this
    cases e : MG.evE M.G cl c ρ st with
    | ok d st1 =>
      simp only [e, MG.Res.go] at P
      split at P
      · split at P
        · exact no P
        · split at P
          · split at P
            · split at P
              · exact no P
              · exact P
            · exact P
          · exact P
      · exact P
    | err x st1 => rw [e] at P; exact no P
    | bad => rw [e] at P; exact P

/-! ### loops -/
theorem s_for {iter : Expr} {body : List Stmt} {it : MG.C} {x : MG.S} (hp : PassesOwn (model X.prog X.w) X.A X.env X.xe) (hc : X.calm = true) (hs : ∀ x, foldedSetIterable iter X.env x = pure x) (hi : PI X tg iter (tI M W cl it)) (hg : PG X tg (tG M t)) (hb : PSs X body (tS M W cl U x)) :
    PS X (.For tg iter body [] pos) (tS M W cl U (.for_ t it x)) :=
  ps_imp (ps_for hp hc hi hg hb hs) fun D σ H ⟨m, ρ, st, S, R, P⟩ => by
    unfold MG.evS at P
    refine ⟨m, ρ, st, S, R, ?_⟩
    cases ei : MG.evE M.G cl it ρ st with
    | err z st1 => rw [ei] at P; exact ⟨P.1, fun m' H' cv d h1 h2 h3 => P.2 m' σ H' cv d h1 h2 (R.step h2) h3⟩
    | bad => rw [ei] at P; exact P
    | ok v st1 =>
      simp only [ei, MG.Res.go] at P
      split at P
      · rename_i items chk eit
        refine ⟨items, chk, eit, fun m1 H1 J S1 T1 F => ?_⟩
        generalize hcl : MG.forL (fun d ρ' => MG.bindT t d ρ') (fun ρ' st' => MG.evS M.G U cl x ρ' st') chk = loop at P
        refine ⟨fun i μ σ' H' => ∃ m' st' ρ', Sim M ⟨m', st', H'⟩ ∧ Step ⟨m1, st1, H1⟩ ⟨m', st', H'⟩ ∧ RE M ⟨m', st', H'⟩ ρ' σ' ∧ i ≤ items.length ∧ μ = items.length - i ∧ PostS M W ⟨m', st', H'⟩ (loop (items.drop i) ρ' st') D,
          ⟨items.length, m1, st1, ρ, S1, Step.refl _, R.step T1, Nat.zero_le _, rfl, by rw [List.drop_zero]; exact PostS.shift P T1⟩, ?_⟩
        rintro i μ σ' H' ⟨m', st', ρ', S', T', R', hi, hμ, P'⟩
        by_cases hlast : i = items.length
        · left
          rw [hlast, List.drop_length, ← hcl] at P'
          simp only [MG.forL] at P'
          split at P'
          · rename_i hst
            exact ⟨by rw [hlast]; exact (F ⟨m', st', H'⟩ S' T' hst).2, P' m' σ' H' S' (Step.refl _) R'⟩
          · exact P'.elim
        · right
          have hi' : i < items.length := by omega
          rw [List.drop_eq_getElem_cons hi', ← hcl] at P'
          simp only [MG.forL] at P'
          split at P'
          · rename_i hst
            obtain ⟨go, yl⟩ := (F ⟨m', st', H'⟩ S' T' hst).1 i items[i] (List.getElem?_eq_getElem hi')
            refine ⟨go, fun σ'' H'' => ∃ m'' st'' ρ'', Sim M ⟨m'', st'', H''⟩ ∧ Step ⟨m1, st1, H1⟩ ⟨m'', st'', H''⟩ ∧ RE M ⟨m'', st'', H''⟩ ρ'' σ'' ∧ PostS M W ⟨m'', st'', H''⟩ (loop (items.drop (i + 1)) ρ'' st'') D, ?_, ?_⟩
            · rintro σ'' H'' ⟨m'', st'', ρ'', q1, q2, q3, q4⟩
              exact ⟨items.length - (i + 1), by omega, m'', st'', ρ'', q1, q2, q3, hi', rfl, q4⟩
            · intro y H3 hy
              obtain ⟨S3, T3, r3⟩ := yl y H3 hy
              split at P'
              · exact P'.elim
              · rename_i ρ1 hb
                refine ⟨m', st', ρ', items[i], ρ1, S3, R'.step T3, r3, hb, fun σ2 R2 _ => ⟨m', ρ1, st', S3, R2, ?_⟩⟩
                rw [hcl] at P'
                have P' := PostS.shift P' T3
                cases ex : MG.evS M.G U cl x ρ1 st' with
                | nx ρ2 st2 =>
                  rw [ex] at P'
                  exact fun m4 σ4 H4 h1 h2 h3 => ⟨m4, st2, ρ2, h1, (T'.trans T3).trans h2, h3, PostS.shift P' h2⟩
                | ct ρ2 st2 =>
                  rw [ex] at P'
                  exact fun m4 σ4 H4 h1 h2 h3 => ⟨m4, st2, ρ2, h1, (T'.trans T3).trans h2, h3, PostS.shift P' h2⟩
                | ret d st2 => rw [ex] at P'; exact P'
                | err z ρ2 st2 => rw [ex] at P'; exact P'
                | bad => rw [ex] at P'; exact P'
          · exact P'.elim
      · exact P.elim
theorem s_while {body : List Stmt} {x : MG.S} (hp : PassesOwn (model X.prog X.w) X.A X.env X.xe) (hc : PT X e (tB (tE M W cl c))) (hb : PSs X body (tS M W cl U x)) : PS X (.While e body [] pos) (tS M W cl U (.while_ c x)) :=
  ps_imp (ps_while hp hc hb) fun D σ H ⟨m, ρ, st, S, R, P⟩ => by
    unfold MG.evS at P
    generalize hcl : MG.whileL (fun ρ' st' => MG.evE M.G cl c ρ' st') (fun ρ' st' => MG.evS M.G U cl x ρ' st') = loop at P
    refine ⟨fun μ σ' H' => ∃ m' st' ρ', Sim M ⟨m', st', H'⟩ ∧ RE M ⟨m', st', H'⟩ ρ' σ' ∧ PostS M W ⟨m', st', H'⟩ (loop μ ρ' st') D, ⟨MG.TURNS, m, st, ρ, S, R, P⟩, ?_⟩
    rintro μ σ' H' ⟨m', st', ρ', S', R', P'⟩
    cases μ with
    | zero => rw [← hcl] at P'; exact P'.elim
    | succ μ =>
      rw [← hcl] at P'
      simp only [MG.whileL] at P'
      refine (tE.go S' R' P').mono fun v H1 ⟨m1, st1, d, S1, T1, R1, r1, P1⟩ => ?_
      cases r1 with
      | bl bb =>
        refine ⟨bb, rfl, ?_⟩
        cases bb with
        | false =>
          rw [if_neg Bool.false_ne_true]
          exact P1 m1 σ' H1 S1 (Step.refl _) R1
        | true =>
          rw [if_pos rfl]
          simp only at P1
          rw [hcl] at P1
          refine ⟨fun σ'' H'' => ∃ m'' st'' ρ'', Sim M ⟨m'', st'', H''⟩ ∧ RE M ⟨m'', st'', H''⟩ ρ'' σ'' ∧ PostS M W ⟨m'', st'', H''⟩ (loop μ ρ'' st'') D, fun σ'' H'' ⟨m'', st'', ρ'', q⟩ => ⟨μ, by omega, m'', st'', ρ'', q⟩, m1, ρ', st1, S1, R1, ?_⟩
          cases ex : MG.evS M.G U cl x ρ' st1 with
          | nx ρ2 st2 =>
            rw [ex] at P1
            exact fun m4 σ4 H4 h1 h2 h3 => ⟨m4, st2, ρ2, h1, h3, PostS.shift P1 h2⟩
          | ct ρ2 st2 =>
            rw [ex] at P1
            exact fun m4 σ4 H4 h1 h2 h3 => ⟨m4, st2, ρ2, h1, h3, PostS.shift P1 h2⟩
          | ret d st2 => rw [ex] at P1; exact P1
          | err z ρ2 st2 => rw [ex] at P1; exact P1
          | bad => rw [ex] at P1; exact P1
      | _ => exact P1.elim

/-! ### targets of assignments -/
def tGA (M : Mc) (W : WX) (cl : MG.Call) (t : MG.C) : TG := fun v σ H Q => ∃ m st ρ d, Sim M ⟨m, st, H⟩ ∧ RE M ⟨m, st, H⟩ ρ σ ∧ RD M ⟨m, st, H⟩ d v ∧ PostS M W ⟨m, st, H⟩ (MG.asgT M.G cl t d ρ st) { nx := Q, rt := fun _ _ => False }
def tGAs (M : Mc) (W : WX) (cl : MG.Call) (t : MG.C) : TGs := fun vs σ H Q => ∃ m st ρ ds, Sim M ⟨m, st, H⟩ ∧ RE M ⟨m, st, H⟩ ρ σ ∧ RDs M ⟨m, st, H⟩ ds vs ∧ PostS M W ⟨m, st, H⟩ (MG.asgT M.G cl t (.tup ds) ρ st) { nx := Q, rt := fun _ _ => False }
theorem ga_var {i : Nat} {x : PySem.Str} (hN : X.N.Nodup) (hi : X.N[i]? = some x) (hx : Loc X.env.scope x) (hf : X.fn x = true ∨ X.env.scope.names.lookup x = some .local) : PG X (.Name x pos) (tGA M W cl (.var i)) :=
  pg_imp (pg_name hN hi hx hf) fun v σ H Q ⟨m, st, ρ, d, S, R, r, P⟩ => by
    unfold MG.asgT at P
    split at P
    · exact P m _ H S (Step.refl _) (R.set r i)
    · exact P.elim
/-- o.f = .., by its value -/
def gFld (K : PySem.W.Frag) (to : TE) (f : PySem.Str) : TG := fun v σ H Q => to σ H fun x H2 => ∃ a C dx fs, x = .ref a ∧ H2 a = some (.ins C dx fs) ∧ Cls K C ∧ NoAttr K C f ∧ fs.length < 1000 ∧ Q σ (upd H2 a (.ins C dx (putF f v fs)))
theorem pg_fld {f : PySem.Str} {to : TE} (ho : PE X o to) : PG X (.Attribute o f pos) (gFld X.K to f) := by
  refine ⟨fun pins s σ H v u Q I r h => ?_⟩
  show wpAny _ _ (do
    let ov ← holding [u] (eval o X.env)
    standAt pos.atName
    holding [u, ov] (setAttr ov f u)
    release [u, ov] []) _ _ s
  refine wpAny_bind (wpAny_holding (thn (ho.run pins s σ H _ I h) fun ov s1 ⟨x, H1, I1, r1, a, C, dx, fs, ex, ea, c, na, hl, q⟩ => ?_))
  subst ex
  cases r1
  refine wpAny_bind (wpAny_standAt (wpAny_bind (wpAny_holding (setattr_ok I1 ea c na hl r fun s2 I2 => ?_))))
  exact wpAny_release ⟨σ, _, I2, q⟩
theorem rf_put {s : Sx} {fs : List (String × MG.D)} {gs : List (PySem.Str × V)} {f : String} {d : MG.D} {v : V} (h : RF M s fs gs) (r : RD M s d v) : RF M s (MG.fput fs f d) (putF (sOf f) v gs) := by
  have key : ∀ g : String, MG.fget (MG.fput fs f d) g = if g = f then some d else MG.fget fs g := by
    intro g
    clear h
    induction fs with
    | nil =>
      simp only [MG.fput, MG.fget]
      by_cases e : g = f
      · subst e; simp
      · rw [if_neg (Ne.symm e), if_neg e]
    | cons p fs ih =>
      obtain ⟨k, x⟩ := p
      simp only [MG.fput]
      by_cases e : k = f
      · subst e
        rw [if_pos rfl]
        simp only [MG.fget]
        by_cases e2 : k = g
        · subst e2; simp
        · rw [if_neg e2, if_neg e2, if_neg (Ne.symm e2)]
      · rw [if_neg e]
        simp only [MG.fget]
        by_cases e2 : k = g
        · subst e2; rw [if_pos rfl, if_pos rfl, if_neg e]
        · rw [if_neg e2, if_neg e2]; exact ih
  have len : (MG.fget fs f = none → (MG.fput fs f d).length = fs.length + 1) ∧ (∀ z, MG.fget fs f = some z → (MG.fput fs f d).length = fs.length) := by
    clear h key
    induction fs with
    | nil => exact ⟨fun _ => rfl, fun z h => (nomatch h)⟩
    | cons p fs ih =>
      obtain ⟨k, x⟩ := p
      simp only [MG.fput, MG.fget]
      by_cases e : k = f
      · rw [if_pos e, if_pos e]; exact ⟨fun h => (nomatch h), fun _ _ => rfl⟩
      · rw [if_neg e, if_neg e]
        exact ⟨fun h => by rw [List.length_cons, ih.1 h, List.length_cons], fun z h => by rw [List.length_cons, ih.2 z h, List.length_cons]⟩
  have len2 : (gs.lookup (sOf f) = none → (putF (sOf f) v gs).length = gs.length + 1) ∧ (∀ z, gs.lookup (sOf f) = some z → (putF (sOf f) v gs).length = gs.length) := by
    clear h key len
    induction gs with
    | nil => exact ⟨fun _ => rfl, fun z h => (nomatch h)⟩
    | cons p gs ih =>
      obtain ⟨k, x⟩ := p
      simp only [putF, List.lookup]
      by_cases e : k = sOf f
      · subst e
        rw [if_pos rfl]
        have : (sOf f == sOf f) = true := beq_self_eq_true _
        rw [this]
        exact ⟨fun h => (nomatch h), fun _ _ => rfl⟩
      · rw [if_neg e]
        have : (sOf f == k) = false := by
          apply Bool.eq_false_iff.mpr
          intro z
          exact e (eq_of_beq z).symm
        rw [this]
        exact ⟨fun h => by rw [List.length_cons, ih.1 h, List.length_cons], fun z h => by rw [List.length_cons, ih.2 z h, List.length_cons]⟩
  refine ⟨?_, fun g => ?_⟩
  · have h2 := h.2 f
    cases e : MG.fget fs f with
    | none => rw [e] at h2; rw [len.1 e, len2.1 h2, h.1]
    | some z =>
      rw [e] at h2
      obtain ⟨w, e1, _⟩ := h2
      rw [len.2 z e, len2.2 w e1, h.1]
  · rw [key g]
    have lk := lookup_putF (sOf f) (sOf g) v gs
    by_cases e : g = f
    · subst e
      rw [if_pos rfl] at lk ⊢
      exact ⟨v, lk, r⟩
    · have e' : ¬ sOf g = sOf f := fun z => e (sOf_inj z)
      rw [if_neg e'] at lk
      rw [if_neg e]
      have h2 := h.2 g
      revert h2
      cases MG.fget fs g with
      | none => intro h2; exact lk.trans h2
      | some z => rintro ⟨w, e1, e2⟩; exact ⟨w, lk.trans e1, e2⟩
theorem ga_fld {f : String} (B : BltOk M X) (hf : FldOk M X f) (ho : PE X o (tE M W cl ca)) : PG X (.Attribute o (sOf f) pos) (tGA M W cl (.fld ca f)) :=
  pg_imp (pg_fld ho) fun v σ H Q ⟨m, st, ρ, d, S, R, r, P⟩ => by
    unfold MG.asgT at P
    refine (tE.go S R P).mono fun x H1 ⟨m1, st1, dx, S1, T1, R1, r1, P1⟩ => ?_
    have r := r.step T1
    cases dx with
    | ref k =>
      simp only [MG.setFld] at P1
      cases e : st1[k]? with
      | none => rw [e] at P1; exact P1.elim
      | some ob =>
        rw [e] at P1
        cases ob with
        | ins c fs =>
          simp only at P1
          by_cases hl : fs.length < 900
          · rw [if_pos hl] at P1
            cases r1 with
            | @ref q _ hq =>
              obtain ⟨C, dd, gs, h0, h1, h2⟩ := S1.ob k q _ hq e
              have T2 : Step ⟨m1, st1, H1⟩ ⟨m1, st1.set k (.ins c (MG.fput fs f d)), upd H1 q (.ins C dd (putF (sOf f) v gs))⟩ := set_step S1 hq e (by simp)
              refine ⟨q, C, dd, gs, rfl, h1, (B.pl c C h0).cl, hf c C h0, by have := h2.1; omega, ?_⟩
              exact P1 m1 σ _ (set_sim S1 hq e (by simp) ⟨C, dd, _, h0, upd_same, (rf_put h2 r).step T2⟩) T2 (R1.step T2)
          · rw [if_neg hl] at P1; exact P1.elim
        | _ => exact P1.elim
    | _ => exact P1.elim
theorem ga_idx {own : Bool} (B : BltOk M X) (hu : X.A.units + 1 < cLine) (ho : PE X o (tE M W cl ca)) (hi : PE X b (tE M W cl cb))
    (ha : ∀ v, assign (.Subscript o b pos) X.env v = (do
      let ov ← holding [v] (eval o X.env)
      let iv ← holding [v, ov] (eval b X.env)
      standAt pos
      holding [v, ov, iv] (setItem ov iv v)
      release [v, ov, iv] [])) : PG X (.Subscript o b pos) (tGA M W cl (.op2 .idx own ca cb)) :=
  pg_imp (pg_sub ho hi (sv_idx B hu) ha) fun v σ H Q ⟨m, st, ρ, d, S, R, r, P⟩ => by
    unfold MG.asgT at P
    refine (tE.go S R P).mono fun x H1 ⟨m1, st1, dx, S1, T1, R1, r1, P1⟩ => (tE.go S1 R1 P1).mono fun y H2 ⟨m2, st2, dy, S2, T2, R2, r2, P2⟩ => ?_
    cases e : MG.setIdx M.G st2 dx dy d with
    | none => rw [e] at P2; exact P2.elim
    | some st3 =>
      rw [e] at P2
      exact ⟨m2, st2, dx, dy, d, st3, S2, r1.step T2, r2, (r.step T1).step T2, e, fun m' H' h1 h2 => P2 m' σ H' h1 h2 (R2.step h2)⟩
theorem gas_nil : PGs X [] (tGAs M W cl .nil) := ⟨fun pins s σ H vs us Q I r ⟨m, st, ρ, ds, S, R, rd, P⟩ => by
  refine pgs_nil.run pins s σ H vs us Q I r ?_
  cases ds with
  | nil =>
    cases rd
    unfold MG.asgT at P
    exact ⟨rfl, P m σ H S (Step.refl _) R⟩
  | cons d ds => simp [MG.asgT, PostS] at P⟩
theorem gas_cons (hs : (assignEach (a :: es) X.env).map (·.2) = assign a X.env :: (assignEach es X.env).map (·.2)) (h1 : PG X a (tGA M W cl t)) (h2 : PGs X es (tGAs M W cl ts)) : PGs X (a :: es) (tGAs M W cl (.cons t ts)) := ⟨fun pins s σ H vs us Q I r ⟨m, st, ρ, ds, S, R, rd, P⟩ => by
  refine (pgs_cons h1 h2 hs).run pins s σ H vs us Q I r ?_
  cases ds with
  | nil => simp [MG.asgT, PostS] at P
  | cons d ds =>
    cases rd with
    | cons r1 r2 =>
      unfold MG.asgT at P
      refine ⟨_, _, rfl, m, st, ρ, d, S, R, r1, ?_⟩
      cases e : MG.asgT M.G cl t d ρ st with
      | nx ρ1 st1 =>
        rw [e] at P
        exact fun m' σ' H' h1 h2 h3 => ⟨m', st1, ρ1, ds, h1, h3, r2.step h2, PostS.shift P h2⟩
      | ct ρ1 st1 => rw [e] at P; exact P
      | ret z st1 => rw [e] at P; exact P
      | err z ρ1 st1 => rw [e] at P; exact P
      | bad => rw [e] at P; exact P⟩
/-- (a, b, ..) = a tuple or a list -/
theorem ga_tup {k : Nat} (hK : M.K = X.K) (hc : X.calm = true) (hl : (assignEach es X.env).length = n) (hst : (assignEach es X.env).findIdx? (·.1) = none) (h : PGs X es (tGAs M W cl (.cons t ts))) (hn : MG.clen (.cons t ts) = n) :
    PG X (.Tuple es k pos) (fun v σ H Q => ∃ m st ρ d, Sim M ⟨m, st, H⟩ ∧ RE M ⟨m, st, H⟩ ρ σ ∧ RD M ⟨m, st, H⟩ d v ∧ MG.fitsT (.cons t ts) (MG.unp st d (.cons t ts)) = true ∧ PostS M W ⟨m, st, H⟩ (MG.asgT M.G cl (.cons t ts) (MG.unp st d (.cons t ts)) ρ st) { nx := Q, rt := fun _ _ => False }) := by
  refine ⟨fun pins s σ H v u Q I r ⟨m, st, ρ, d, S, R, rd, hf, P⟩ => ?_⟩
  cases e : MG.lstOf st d with
  | some ds =>
    obtain ⟨q, vs, rfl, h1, rr⟩ := rd_lst S rd e
    have eu : MG.unp st d (.cons t ts) = .tup ds := by simp only [MG.unp, e]
    rw [eu] at hf P
    have hf : ds.length = MG.clen (.cons t ts) := by simpa [MG.fitsT] using hf
    exact (pg_lst hc h hl hst).run pins s σ H _ u Q I r ⟨q, vs, rfl, .inl (.inl h1), by rw [← rr.length, hf, hn], m, st, ρ, ds, S, R, rr, P⟩
  | none =>
    have eu : MG.unp st d (.cons t ts) = d := by simp only [MG.unp, e]
    rw [eu] at hf P
    cases d with
    | tup ds =>
      obtain ⟨q, vs, rfl, h1, rr⟩ := rd_tup rd
      rw [hK] at h1
      have hf : ds.length = MG.clen (.cons t ts) := by simpa [MG.fitsT] using hf
      exact (pg_tup hc h hl hst).run pins s σ H _ u Q I r ⟨q, vs, rfl, h1, by rw [← rr.length, hf, hn], m, st, ρ, ds, S, R, rr, P⟩
    | _ => simp [MG.fitsT] at hf

/-! ### assignments -/
/-- what an assignment's reading says behind its value -/
theorem asg_of {σ : L2.St} {H : Hp} {D : Ends} (h : tS M W cl U (.asg t c) D σ H) : tE M W cl c σ H fun v H1 => ∃ m1 st1 d ρ, Sim M ⟨m1, st1, H1⟩ ∧ RE M ⟨m1, st1, H1⟩ ρ σ ∧ RD M ⟨m1, st1, H1⟩ d v ∧ MG.fitsT t (MG.unp st1 d t) = true ∧ PostS M W ⟨m1, st1, H1⟩ (MG.asgT M.G cl t (MG.unp st1 d t) ρ st1) D := by
  obtain ⟨m, ρ, st, S, R, P⟩ := h
  unfold MG.evS at P
  refine (tE.go S R P).mono fun v H1 ⟨m1, st1, d, S1, T1, R1, r1, P1⟩ => ?_
  by_cases hf : MG.fitsT t (MG.unp st1 d t) = true
  · rw [if_pos hf] at P1
    exact ⟨m1, st1, d, ρ, S1, R1, r1, hf, P1⟩
  · rw [if_neg hf] at P1; exact P1.elim
theorem asgT_ends : ∀ {t : MG.C} {d : MG.D} {ρ : MG.Env} {st : MG.Store}, (∀ z st', MG.asgT M.G cl t d ρ st ≠ .ret z st') ∧ ∀ ρ' st', MG.asgT M.G cl t d ρ st ≠ .ct ρ' st'
  | .var i, d, ρ, st => by
    unfold MG.asgT
    constructor <;> intros <;> split <;> simp
  | .fld o f, d, ρ, st => by
    unfold MG.asgT
    cases MG.evE M.G cl o ρ st with
    | ok x st1 =>
      simp only [MG.Res.go]
      constructor <;> intros <;> split <;> simp
    | err => simp [MG.Res.go]
    | bad => simp [MG.Res.go]
  | .op2 op own o i, d, ρ, st => by
    cases op <;> try (simp [MG.asgT]; done)
    unfold MG.asgT
    cases MG.evE M.G cl o ρ st with
    | ok x st1 =>
      simp only [MG.Res.go]
      cases MG.evE M.G cl i ρ st1 with
      | ok y st2 =>
        simp only
        constructor <;> intros <;> split <;> simp
      | err => simp
      | bad => simp
    | err => simp [MG.Res.go]
    | bad => simp [MG.Res.go]
  | .nil, d, ρ, st => by cases d <;> try (simp [MG.asgT]; done)
                         rename_i ds; cases ds <;> simp [MG.asgT]
  | .cons t ts, d, ρ, st => by
    cases d <;> try (simp [MG.asgT]; done)
    rename_i ds
    cases ds with
    | nil => simp [MG.asgT]
    | cons d ds =>
      unfold MG.asgT
      cases e : MG.asgT M.G cl t d ρ st with
      | nx ρ1 st1 => exact asgT_ends (t := ts)
      | ct ρ1 st1 => exact absurd e ((asgT_ends (t := t)).2 ρ1 st1)
      | ret z st1 => exact absurd e ((asgT_ends (t := t)).1 z st1)
      | err => simp
      | bad => simp
  | .k _, d, ρ, st => by simp [MG.asgT]
  | .lst _ _, d, ρ, st => by simp [MG.asgT]
  | .op1 _ _, d, ρ, st => by simp [MG.asgT]
  | .and _ _, d, ρ, st => by simp [MG.asgT]
  | .or _ _, d, ρ, st => by simp [MG.asgT]
  | .ite _ _ _, d, ρ, st => by simp [MG.asgT]
  | .chain _ _ _ _ _, d, ρ, st => by simp [MG.asgT]
  | .slc _ _ _ _, d, ρ, st => by simp [MG.asgT]
  | .rev _ _, d, ρ, st => by simp [MG.asgT]
  | .bi _ _ _, d, ρ, st => by simp [MG.asgT]
  | .bm _ _ _ _, d, ρ, st => by simp [MG.asgT]
  | .call _ _, d, ρ, st => by simp [MG.asgT]
  | .meth _ _ _ _, d, ρ, st => by simp [MG.asgT]
  | .make _ _, d, ρ, st => by simp [MG.asgT]
  | .comp _ _ _ _ _ _, d, ρ, st => by simp [MG.asgT]
  | .rng _ _, d, ρ, st => by simp [MG.asgT]
  | .enum _, d, ρ, st => by simp [MG.asgT]
  | .zip _ _, d, ρ, st => by simp [MG.asgT]
  | .rrng _ _, d, ρ, st => by simp [MG.asgT]
  | .dict _ _, d, ρ, st => by simp [MG.asgT]
  | .frz _, d, ρ, st => by simp [MG.asgT]
theorem asgT_nx {s : Sx} {t : MG.C} {d : MG.D} {ρ : MG.Env} {D : Ends} (P : PostS M W s (MG.asgT M.G cl t d ρ s.st) D) : PostS M W s (MG.asgT M.G cl t d ρ s.st) { nx := D.nx, rt := fun _ _ => False } := by
  revert P
  cases e : MG.asgT M.G cl t d ρ s.st with
  | nx ρ1 st1 => exact fun P => P
  | ct ρ1 st1 => exact absurd e (asgT_ends.2 ρ1 st1)
  | ret z st1 => exact absurd e (asgT_ends.1 z st1)
  | err => exact fun P => P
  | bad => exact fun P => P
/-- target = value, the target no tuple -/
theorem s_asg (ht : ∀ st d, MG.unp st d t = d) (hs : swapsWithSole [tg] e pos.line X.env = pure false) (hw : swappedStores [tg] e X.env = pure none) (h1 : (assignEach [tg] X.env).map (·.2) = [assign tg X.env]) (he : PE X e (tE M W cl c)) (hg : PG X tg (tGA M W cl t)) :
    PS X (.Assign [tg] e pos) (tS M W cl U (.asg t c)) :=
  ps_imp (ps_asg he hg hs hw h1) fun D σ H h => (asg_of h).mono fun v H1 ⟨m1, st1, d, ρ, S1, R1, r1, hf, P1⟩ => ⟨m1, st1, ρ, d, S1, R1, r1, by rw [ht] at P1; exact asgT_nx (s := ⟨m1, st1, H1⟩) P1⟩
/-- name = [..], stored as one -/
theorem s_lc {i : Nat} {y : PySem.Str} {py : Pos} {elt iter : Expr} {ifs : List Expr} {scope : Scope} {own : Bool} {ow : List (PySem.Str × Nat)} {spos : Pos} {it cond ce : MG.C} (hc : X.calm = true) (hN : X.N.Nodup) (hy : X.N[i]? = some y) (hyl : X.env.scope.names.lookup y = some .local)
    (hsw : swapsWith (.ListComp elt [⟨tg, iter, ifs, 0⟩] scope pos) (some (.Name y py)) spos.line X.env = pure true) (ok : BlkOk X.N X.env.scope scope ow) (hv : ∀ j ∈ tv t, j ∈ ow.map (·.2))
    (hs : ∀ x, foldedSetIterable iter X.env x = pure x) (hi : PI X tg iter (tI M W cl it))
    (hg : ∀ (s : Shared) (H : Hp) (C : Addr) (cls : List (PySem.Str × Addr)) (fp : List Addr), PG (X.blk s H scope (compEnvC scope cls C X.env) fp) tg (tG M t))
    (ht : ∀ (s : Shared) (H : Hp) (C : Addr) (cls : List (PySem.Str × Addr)) (fp : List Addr), PTs (X.blk s H scope (compEnvC scope cls C X.env) fp) ifs (tB (tE M WF cl cond)))
    (he : ∀ (s : Shared) (H : Hp) (C : Addr) (cls : List (PySem.Str × Addr)) (fp : List Addr), PE (X.blk s H scope (compEnvC scope cls C X.env) fp) elt (tE M WF cl ce)) :
    PS X (.Assign [.Name y py] (.ListComp elt [⟨tg, iter, ifs, 0⟩] scope pos) spos) (tS M W cl U (.asg (.var i) (.comp own (ow.map (·.2)) t it cond ce))) :=
  ps_imp (ps_setLc hc hN hy hyl hsw hi ok hg ht he hs) fun D σ H h => e_comp.lc_of hv ((asg_of h).mono fun v H1 ⟨m1, st1, d, ρ, S1, R1, r1, hf, P1⟩ => by
    have eu : MG.unp st1 d (.var i) = d := rfl
    rw [eu] at P1
    unfold MG.asgT at P1
    split at P1
    · exact P1 m1 _ H1 S1 (Step.refl _) (R1.set r1 i)
    · exact P1.elim)
/-- (a, b, ..) = value -/
theorem s_tup {k : Nat} (hK : M.K = X.K) (hc : X.calm = true) (hl : (assignEach es X.env).length = n) (hst : (assignEach es X.env).findIdx? (·.1) = none) (hn : MG.clen (.cons t ts) = n) (hs : swapsWithSole [.Tuple es k tpos] e pos.line X.env = pure false) (hw : swappedStores [.Tuple es k tpos] e X.env = pure none)
    (h1 : (assignEach [.Tuple es k tpos] X.env).map (·.2) = [assign (.Tuple es k tpos) X.env]) (he : PE X e (tE M W cl c)) (hg : PGs X es (tGAs M W cl (.cons t ts))) : PS X (.Assign [.Tuple es k tpos] e pos) (tS M W cl U (.asg (.cons t ts) c)) :=
  ps_imp (ps_asg he (ga_tup hK hc hl hst hg hn) hs hw h1) fun D σ H h => (asg_of h).mono fun v H1 ⟨m1, st1, d, ρ, S1, R1, r1, hf, P1⟩ => ⟨m1, st1, ρ, d, S1, R1, r1, hf, asgT_nx (s := ⟨m1, st1, H1⟩) P1⟩
theorem goA {c : MG.C} (hn : argc c = some n) {σ : L2.St} {ρ : MG.Env} {s : Sx} {f : MG.D → MG.Store → MG.SR} {D : Ends} (S : Sim M s) (R : RE M s ρ σ) (h : PostS M W s ((MG.evE M.G cl c ρ s.st).go ρ f) D) :
    tA M W cl c σ s.H fun vs H1 => ∃ m1 st1 l, Sim M ⟨m1, st1, H1⟩ ∧ Step s ⟨m1, st1, H1⟩ ∧ RE M ⟨m1, st1, H1⟩ ρ σ ∧ RDs M ⟨m1, st1, H1⟩ l vs ∧ l.length = n ∧ PostS M W ⟨m1, st1, H1⟩ (f (.tup l) st1) D := by
  refine ⟨s.m, ρ, s.st, S, R, ?_⟩
  show PostA M W s σ _ _
  cases e : MG.evE M.G cl c ρ s.st with
  | ok d st' =>
    obtain ⟨l, rfl, hl⟩ := argc_len hn e
    rw [e] at h
    exact fun m' H' vs h1 h2 h3 => ⟨m', st', l, h1, h2, R.step h2, h3, hl, PostS.shift h h2⟩
  | err x st' =>
    rw [e] at h
    exact ⟨h.1, fun m' H' cv d h1 h2 h3 => h.2 m' σ H' cv d h1 h2 (R.step h2) h3⟩
  | bad => rw [e] at h; exact h
/-- a, b = x, y with local names -/
theorem s_par2 {i j : Nat} {x y : PySem.Str} {px py pt : Pos} {kt k2 pt2} (hn : argc c = some 2) (hc : X.calm = true) (hN : X.N.Nodup) (hi : X.N[i]? = some x) (hj : X.N[j]? = some y) (hij : i ≠ j) (hx : X.env.scope.names.lookup x = some .local) (hy : X.env.scope.names.lookup y = some .local)
    (hw : swappedStores [.Tuple [.Name x px, .Name y py] kt pt] (.Tuple [a, b] k2 pt2) X.env = pure (some [x, y])) (ha : PA X [a, b] (tA M W cl c)) :
    PS X (.Assign [.Tuple [.Name x px, .Name y py] kt pt] (.Tuple [a, b] k2 pt2) pos) (tS M W cl U (.asg (.cons (.var i) (.cons (.var j) .nil)) c)) :=
  ps_imp (ps_par hc hN hi hj hij hx hy ha hw rfl) fun D σ H ⟨m, ρ, st, S, R, P⟩ => by
    unfold MG.evS at P
    refine (goA hn S R P).mono fun vs H1 ⟨m1, st1, l, S1, T1, R1, r1, hl, P1⟩ => ?_
    match l, hl, r1 with
    | [d, d'], _, .cons (v := v) q1 (.cons (v := u) q2 .nil) =>
      refine ⟨v, u, rfl, ?_⟩
      have eu : MG.unp st1 (.tup [d, d']) (.cons (.var i) (.cons (.var j) .nil)) = .tup [d, d'] := rfl
      rw [eu, if_pos (by rfl)] at P1
      simp only [MG.asgT, List.length_set] at P1
      by_cases h1 : i < ρ.length
      · by_cases h2 : j < ρ.length
        · simp only [h1, h2, if_true, List.length_set] at P1
          exact P1 m1 _ H1 S1 (Step.refl _) ((R1.set q1 i).set q2 j)
        · simp only [h1, h2, if_true, if_false, List.length_set] at P1
          exact P1.elim
      · simp only [h1, if_false] at P1
        exact P1.elim
theorem s_par3 {i j k : Nat} {x y z : PySem.Str} {c0 : Expr} {px py pz pt : Pos} {kt k2 pt2} (hn : argc c = some 3) (hc : X.calm = true) (hN : X.N.Nodup) (hi : X.N[i]? = some x) (hj : X.N[j]? = some y) (hk : X.N[k]? = some z) (hij : i ≠ j) (hik : i ≠ k) (hjk : j ≠ k) (hx : X.env.scope.names.lookup x = some .local) (hy : X.env.scope.names.lookup y = some .local) (hz : X.env.scope.names.lookup z = some .local)
    (hw : swappedStores [.Tuple [.Name x px, .Name y py, .Name z pz] kt pt] (.Tuple [a, b, c0] k2 pt2) X.env = pure (some [x, y, z])) (ha : PA X [a, b, c0] (tA M W cl c)) :
    PS X (.Assign [.Tuple [.Name x px, .Name y py, .Name z pz] kt pt] (.Tuple [a, b, c0] k2 pt2) pos) (tS M W cl U (.asg (.cons (.var i) (.cons (.var j) (.cons (.var k) .nil))) c)) :=
  ps_imp (ps_par3 hc hN hi hj hk hij hik hjk hx hy hz ha hw rfl) fun D σ H ⟨m, ρ, st, S, R, P⟩ => by
    unfold MG.evS at P
    refine (goA hn S R P).mono fun vs H1 ⟨m1, st1, l, S1, T1, R1, r1, hl, P1⟩ => ?_
    match l, hl, r1 with
    | [d, d', d2], _, .cons (v := v) q1 (.cons (v := u) q2 (.cons (v := w) q3 .nil)) =>
      refine ⟨v, u, w, rfl, ?_⟩
      have eu : MG.unp st1 (.tup [d, d', d2]) (.cons (.var i) (.cons (.var j) (.cons (.var k) .nil))) = .tup [d, d', d2] := rfl
      rw [eu, if_pos (by rfl)] at P1
      simp only [MG.asgT, List.length_set] at P1
      by_cases h1 : i < ρ.length
      · by_cases h2 : j < ρ.length
        · by_cases h3 : k < ρ.length
          · simp only [h1, h2, h3, if_true, List.length_set] at P1
            exact P1 m1 _ H1 S1 (Step.refl _) (((R1.set q1 i).set q2 j).set q3 k)
          · simp only [h1, h2, h3, if_true, if_false, List.length_set] at P1
            exact P1.elim
        · simp only [h1, h2, if_true, if_false, List.length_set] at P1
          exact P1.elim
      · simp only [h1, if_false] at P1
        exact P1.elim
end
end MGS

set_option Elab.async false
set_option linter.all false
set_option maxRecDepth 100000
set_option maxHeartbeats 4000000
/-! What a checker sees of an expression's form, and what follows of it. -/
namespace MGS
open PySem PySem.Spec PyProof.Rows L2

def notStar : Expr → Bool
  | .Starred _ _ => false
  | _ => true
def notSet : Expr → Bool
  | .Set _ _ _ => false
  | _ => true
def notSlice : Expr → Bool
  | .Slice _ _ _ _ => false
  | _ => true
def notComp : Expr → Bool
  | .ListComp _ _ _ _ => false
  | .SetComp _ _ _ _ => false
  | .DictComp _ _ _ _ _ => false
  | _ => true
def noSuper : Expr → Bool
  | .Call _ [] _ _ => false
  | _ => true
def plainTest : Expr → Bool
  | .UnaryOp _ _ _ => false
  | .BoolOp _ _ _ => false
  | .IfExp _ _ _ _ => false
  | .Compare _ _ _ _ => false
  | _ => true
theorem star_cons {e : Expr} (h : notStar e = true) (es : List Expr) (env : Env) : starEach (e :: es) env = (false, eval e env) :: starEach es env := by
  cases e <;> first | rfl | simp [notStar] at h
theorem star_one {e : Expr} (h : notStar e = true) (env : Env) : starEach [e] env = [(false, eval e env)] := by rw [star_cons h]; rfl
theorem star_two {e f : Expr} (h : notStar e = true) (h' : notStar f = true) (env : Env) : starEach [e, f] env = [(false, eval e env), (false, eval f env)] := by rw [star_cons h, star_one h']
theorem back_any {pos : Pos} {env : Env} : ∀ {es : List Expr}, es.all notStar = true → (backTo pos (starEach es env)).any (·.1) = false
  | [], _ => rfl
  | e :: es, h => by
    have h : notStar e = true ∧ es.all notStar = true := by simpa [-List.all_eq_true] using h
    rw [star_cons h.1]
    show (false || (backTo pos (starEach es env)).any (·.1)) = false
    rw [back_any h.2]
    rfl
theorem back_all {pos : Pos} {env : Env} : ∀ {es : List Expr}, es.all notStar = true → (backTo pos (starEach es env)).all (fun x => !x.1) = true
  | [], _ => rfl
  | e :: es, h => by
    have h : notStar e = true ∧ es.all notStar = true := by simpa [-List.all_eq_true] using h
    rw [star_cons h.1]
    show (true && (backTo pos (starEach es env)).all (fun x => !x.1)) = true
    rw [back_all h.2]
    rfl
theorem back_few {pos : Pos} {env : Env} {es : List Expr} (h : es.all notStar = true) (hl : es.length < 30) : ((backTo pos (starEach es env)).all (fun x => !x.1) && (backToKw pos (keywordEach [] env)).all (fun x => x.1.isSome)
      && decide (es.length + ([] : List Keyword).length + (if ([] : List Keyword).isEmpty then 0 else 1) < 30)) = true := by
  rw [back_all h]
  simp [backToKw, keywordEach]
  exact hl
theorem base_of {o : Expr} (h : noSuper o = true) (m : PySem.Str) (env : Env) (w : Sem Value) : attributeBase o m env w = w := by
  cases o with
  | Call f args kws pos =>
    cases args with
    | nil => simp [noSuper] at h
    | cons a as => cases f <;> rfl
  | _ => rfl
theorem ix_of {b : Expr} (h : notSlice b = true) : PlainIx b := by
  intro o i
  cases b <;> first | rfl | simp [notSlice] at h
theorem sub_of {o b : Expr} {pos : Pos} {env : Env} (h : notSlice b = true) (v : Value) : assign (.Subscript o b pos) env v = (do
      let ov ← holding [v] (eval o env)
      let iv ← holding [v, ov] (eval b env)
      standAt pos
      holding [v, ov, iv] (setItem ov iv v)
      release [v, ov, iv] []) := by
  cases b <;> first | rfl | simp [notSlice] at h
theorem marks_of {b : Expr} (h : notSet b = true) (op : CmpOp) : behindInMarks op b = false := by
  cases b <;> first | rfl | simp [notSet] at h
theorem folded_of {e : Expr} (h : notSet e = true) (env : Env) (x : Value) : foldedSetIterable e env x = pure x := by
  cases e <;> first | rfl | simp [notSet] at h
theorem swap_none {e : Expr} (h : notComp e = true) (line : Nat) (env : Env) : swapsWith e none line env = pure false := by
  cases e <;> first | rfl | simp [notComp] at h
theorem test_of {e : Expr} (h : plainTest e = true) (env : Env) (whole : Sem Value) : isTrue e env whole = (do let v ← whole; standAt e.pos; holding [v] (truthy v)) := by
  cases e <;> first | rfl | simp [plainTest] at h
theorem asg_each {es : List Expr} {env : Env} : es.all notStar = true → (assignEach es env).length = es.length ∧ (assignEach es env).findIdx? (·.1) = none := by
  intro h
  have e : assignEach es env = es.map fun t => (false, assign t env) := by
    induction es with
    | nil => rfl
    | cons t es ih =>
      have h : notStar t = true ∧ es.all notStar = true := by simpa [-List.all_eq_true] using h
      rw [List.map_cons, ← ih h.2]
      have h1 := h.1
      cases t <;> first | rfl | simp [notStar] at h1
  rw [e]
  refine ⟨by simp, ?_⟩
  rw [List.findIdx?_eq_none_iff]
  intro x hx
  obtain ⟨t, _, rfl⟩ := List.mem_map.mp hx
  rfl
theorem asg_cons {e : Expr} (h : notStar e = true) (es : List Expr) (env : Env) : (assignEach (e :: es) env).map (·.2) = assign e env :: (assignEach es env).map (·.2) := by
  cases e <;> first | rfl | simp [notStar] at h
theorem asg_one {e : Expr} (h : notStar e = true) (env : Env) : (assignEach [e] env).map (·.2) = [assign e env] := by
  rw [asg_cons h]; rfl
/-- whether a comprehension and a target are stored as one -/
def swB (value tg : Expr) (sc : Scope) : Bool :=
  match value with
  | .ListComp _ _ s _ => (match tg with
    | .Name t pos => (if sc.kind.isAnnotationScope then true else sc.kind == .function) && sc.names.lookup t == some .local && pos.line == value.pos.line && !(s.names.any fun (n, k) => n == t && (k == .local || k == .cell))
    | _ => false)
  | _ => false
def oneComp : Expr → Bool
  | .SetComp _ _ _ _ => false
  | .DictComp _ _ _ _ _ => false
  | _ => true
theorem sw_of {value tg : Expr} {line : Nat} {env : Env} {sc : Scope} (hsc : env.scope = sc) (h : oneComp value = true) : swapsWithSole [tg] value line env = pure (swB value tg sc) := by
  subst hsc
  show swapsWith value (some tg) line env = _
  cases value with
  | ListComp elt gens s pos =>
    cases tg with
    | Name t p =>
      show pure _ = pure _
      congr 1
      show (env.blockKind == .function && env.kindOf t == some .local && p.line == pos.line && !(s.names.any fun (n, k) => n == t && (k == .local || k == .cell))) = _
      unfold Env.blockKind Env.kindOf swB
      show _ = ((if env.scope.kind.isAnnotationScope then true else env.scope.kind == .function) && env.scope.names.lookup t == some .local && p.line == pos.line && !(s.names.any fun (n, k) => n == t && (k == .local || k == .cell)))
      cases env.scope.kind.isAnnotationScope <;> rfl
    | _ => rfl
  | SetComp => simp [oneComp] at h
  | DictComp => simp [oneComp] at h
  | _ => rfl
theorem sw_of' {value : Expr} {t : PySem.Str} {p : Pos} {line : Nat} {env : Env} {sc : Scope} (hsc : env.scope = sc) (h : oneComp value = true) : swapsWith value (some (.Name t p)) line env = pure (swB value (.Name t p) sc) := sw_of (line := line) (tg := .Name t p) hsc h
def fnKind (sc : Scope) : Bool := if sc.kind.isAnnotationScope then true else sc.kind == .function
/-- the names of plain local targets -/
def locNames (ts : List Expr) (sc : Scope) : List PySem.Str :=
  ts.filterMap fun
      | .Name id pos => if sc.names.lookup id == some .local && pos.line == (ts.head?.map (·.pos.line)).getD 0 then some id else none
      | _ => none
/-- the stores of a, b = x, y: none: one after another; some: from the right -/
def stB (ts vs : List Expr) (sc : Scope) : Option (Option (List PySem.Str)) :=
  if !(ts.length == 2 || ts.length == 3) || vs.length != ts.length || !(fnKind sc) then some none
  else if (vs.any fun | .Starred .. => true | _ => false) then some none
  else if (locNames ts sc).length != ts.length || (locNames ts sc).eraseDups.length != (locNames ts sc).length then some none
    else if vs.all (foldedForSure 8) then some none
    else if vs.all (constantsAlone 8) then none
    else some (some (locNames ts sc))
theorem st_of {ts vs : List Expr} {k k2 : Nat} {p p2 : Pos} {env : Env} {sc : Scope} {r : Option (List PySem.Str)} (hsc : env.scope = sc) (h : stB ts vs sc = some r) : swappedStores [.Tuple ts k p] (.Tuple vs k2 p2) env = pure r := by
  subst hsc
  have hb : (env.blockKind != .function) = !(fnKind env.scope) := by
    unfold Env.blockKind fnKind
    cases env.scope.kind.isAnnotationScope <;> rfl
  have e : swappedStores [.Tuple ts k p] (.Tuple vs k2 p2) env = (if (!(ts.length == 2 || ts.length == 3) || vs.length != ts.length || !(fnKind env.scope)) = true then pure none
      else if (vs.any fun | .Starred .. => true | _ => false) = true then pure none
      else if ((locNames ts env.scope).length != ts.length || (locNames ts env.scope).eraseDups.length != (locNames ts env.scope).length) = true then pure none
      else if vs.all (foldedForSure 8) = true then pure none
      else if vs.all (constantsAlone 8) = true then unsupported "assign.tuple-of-constant-expressions:order-of-the-stores" >>= fun (_ : PUnit) => pure (some (locNames ts env.scope))
      else pure (some (locNames ts env.scope))) := by
    rw [← hb]
    rfl
  rw [e]
  unfold stB at h
  by_cases c1 : (!(ts.length == 2 || ts.length == 3) || vs.length != ts.length || !(fnKind env.scope)) = true
  · rw [if_pos c1] at h ⊢
    cases h
    rfl
  rw [if_neg c1] at h ⊢
  by_cases c2 : (vs.any fun | .Starred .. => true | _ => false) = true
  · rw [if_pos c2] at h ⊢
    cases h
    rfl
  rw [if_neg c2] at h ⊢
  by_cases c3 : ((locNames ts env.scope).length != ts.length || (locNames ts env.scope).eraseDups.length != (locNames ts env.scope).length) = true
  · rw [if_pos c3] at h ⊢
    cases h
    rfl
  rw [if_neg c3] at h ⊢
  by_cases c4 : vs.all (foldedForSure 8) = true
  · rw [if_pos c4] at h ⊢
    cases h
    rfl
  rw [if_neg c4] at h ⊢
  by_cases c5 : vs.all (constantsAlone 8) = true
  · rw [if_pos c5] at h
    cases h
  rw [if_neg c5] at h ⊢
  cases h
  rfl
/-- a target that is no tuple, or a value that is none: one store -/
def noPar (tg e : Expr) : Bool :=
  match tg, e with
  | .Tuple _ _ _, .Tuple _ _ _ => false
  | .List _ _, .Tuple _ _ _ => false
  | _, _ => true
theorem st_no {tg e : Expr} {env : Env} (h : noPar tg e = true) : swappedStores [tg] e env = pure none := by
  cases tg <;> first | rfl | (cases e <;> first | rfl | simp [noPar] at h)
/-- a method's call, told as one -/
theorem meth_of {o : Expr} {m : PySem.Str} {apos pos : Pos} {args : List Expr} {env : Env} (h : noSuper o = true) (hs : args.all notStar = true) (hl : args.length < 30) (hp : (apos.endLine == pos.line) = true) : ∃ pl : Sem Bool, eval (.Call (.Attribute o m apos) args [] pos) env = (do
      let ov ← eval o env
      standAt apos.atName
      let (f, first) ← holding [ov] (getMethod ov m pl)
      callWith pos f first (backTo pos (starEach args env)) (backToKw pos (keywordEach [] env))) := by
  refine ⟨do return (← importBound o env).getD true, ?_⟩
  rw [arm_eval_Call, base_of h]
  have hf : methodCallForm (args.length + ([] : List Keyword).length) (backTo pos (starEach args env)) (backToKw pos (keywordEach [] env)) = true := back_few hs hl
  have e : ∀ ov, methodCall o m apos pos env ov (args.length + ([] : List Keyword).length) (backTo pos (starEach args env)) (backToKw pos (keywordEach [] env)) = (do
      let (f, first) ← holding [ov] (getMethod ov m (do return (← importBound o env).getD true))
      callWith pos f first (backTo pos (starEach args env)) (backToKw pos (keywordEach [] env))) := by
    intro ov
    unfold methodCall calleeOf methodCallPos
    rw [hf, hp]
    rfl
  simp only [e]
/-- a if c else b, as a test -/
theorem t_ite {X : Cx} {M : Mc} {W : WX} {cl : MG.Call} {a b c : Expr} {ca cb cc : MG.C} {pos : Pos} (hc : PT X c (tB (tE M W cl cc))) (ha : PT X a (tB (tE M W cl ca))) (hb : PT X b (tB (tE M W cl cb))) : PT X (.IfExp c a b pos) (tB (tE M W cl (.ite cc ca cb))) := by
  refine ⟨fun pins s σ H Q I h => ?_⟩
  obtain ⟨m, ρ, st, S, R, P⟩ := h
  unfold MG.evE at P
  refine isTrue_IfExp (thn (hc.run pins s σ H (fun k H1 => if k = true then tB (tE M W cl ca) σ H1 Q else tB (tE M W cl cb) σ H1 Q) I ?_) fun k s1 ⟨H1, I1, q1⟩ => ?_)
  · refine (tE.bind S R P).mono fun v H1 ⟨m1, st1, d, S1, T1, R1, r1, P1⟩ => ?_
    obtain ⟨c, e, q⟩ := bl_cases r1 P1
    refine ⟨c, e, ?_⟩
    cases c with
    | true => exact ⟨m1, ρ, st1, S1, R1, q⟩
    | false => exact ⟨m1, ρ, st1, S1, R1, q⟩
  · cases k with
    | true => exact ha.run pins s1 σ H1 Q I1 q1
    | false => exact hb.run pins s1 σ H1 Q I1 q1
end MGS


set_option Elab.async false
set_option linter.all false
set_option maxRecDepth 100000
set_option maxHeartbeats 8000000
/-! sorted(xs): tuples that begin with two ints, no two alike in them. -/
namespace SrtO
open PySem PySem.Spec PyProof.Rows
variable {prog : Program} {w : World} {A : Around} {E : Value → Shared → Prop} {s : Shared}
def IsT (h : Heap) (v : Value) (x y : Int) : Prop := ∃ a o t u r n, v = .ref a ∧ h.get? a = some o ∧ o.cls = .type "tuple" ∧ o.data = .seq (Value.int x t :: Value.int y u :: r).toArray n
theorem IsT.keeps {h h' : Heap} {v : Value} {x y : Int} (p : IsT h v x y) (k : ∀ b o, h.get? b = some o → o.cls = .type "tuple" → h'.get? b = some o) : IsT h' v x y := by
  obtain ⟨a, o, t, u, r, n, e, ho, hc, hd⟩ := p
  exact ⟨a, o, t, u, r, n, e, k _ _ ho hc, hc, hd⟩
theorem kat_same {fin : Bool} {Q : Bool → Shared → Prop} {b : Bool} (h : Q fin s) : ∀ (l : List Value) (i : Nat), PySem.W.KatLex prog w A b fin Q (l.zip l) i s
  | [], i => h
  | v :: l, i => PySem.W.kat_cons (SeqAt.EqAt.same v prog w _ _ (PySem.W.kat_yes (kat_same h l (i + 1))))
theorem lex_self (p : Int × Int) : lexB p p = false := lexB_no.mpr (by omega)
theorem trip_cmp {vs : List Value} {k : Value → Int × Int} (hp : ∀ v ∈ vs, IsT s.heap v (k v).1 (k v).2) (inj : ∀ v ∈ vs, ∀ u ∈ vs, k v = k u → v = u) : Cmp prog w A s (tuples' true) (fun p => p.1 ∈ vs) (lt2 fun v u => lexB (k v) (k u)) := by
  intro p q hm hm'
  have h1 := hp _ hm
  have h2 := hp _ hm'
  show wpAny (model prog w) A (keyLt' (tuples' true) p.1 q.1) (fun r s' => s' = s ∧ r = lexB (k p.1) (k q.1)) (fun _ _ => False) s
  by_cases same : p.1 = q.1
  · rw [← same, lex_self]
    obtain ⟨a, o, t, u, r, n, e, ho, hc, hd⟩ := h1
    rw [e]
    refine PySem.W.kat_lt ho hd ho hd ?_
    refine kat_same ⟨rfl, ?_⟩ _ 0
    exact decide_eq_false (Nat.lt_irrefl _)
  · have kd : k p.1 ≠ k q.1 := fun e => same (inj _ hm _ hm' e)
    have kd : ¬ ((k p.1).1 = (k q.1).1 ∧ (k p.1).2 = (k q.1).2) := fun ⟨e1, e2⟩ => kd (Prod.ext e1 e2)
    unfold lexB
    revert h1 h2 kd
    generalize (k p.1).1 = x
    generalize (k p.1).2 = y
    generalize (k q.1).1 = x'
    generalize (k q.1).2 = y'
    intro h1 h2 kd
    obtain ⟨a, o, t, u, r, n, e, ho, hc, hd⟩ := h1
    obtain ⟨a', o', t', u', r', n', e', ho', hc', hd'⟩ := h2
    rw [e, e']
    refine PySem.W.kat_lt ho hd ho' hd' ?_
    show PySem.W.KatLex prog w A true _ _ ((.int x t, .int x' t') :: (.int y u, .int y' u') :: r.zip r') 0 s
    refine PySem.W.kat_cons (SeqAt.EqAt.int_int x t x' t' prog w _ _ ?_)
    refine PySem.W.kat_go (fun e1 => ?_) (fun e1 => ?_)
    · have ex : x = x' := by simpa using e1
      refine PySem.W.kat_yes (PySem.W.kat_cons (SeqAt.EqAt.int_int y u y' u' prog w _ _ ?_))
      refine PySem.W.kat_go (fun e2 => ?_) (fun e2 => ?_)
      · have ey : y = y' := by simpa using e2
        exact absurd ⟨ex, ey⟩ kd
      · have e3 : (if x = x' then decide (y < y') else decide (x < x')) = decide (y < y') := if_pos ex
        refine PySem.W.kat_no (PySem.W.kat_one _ _ (PyProof.Rows.lt_int ?_))
        exact (show s = s ∧ decide (y < y') = (if x = x' then decide (y < y') else decide (x < x')) from ⟨rfl, e3.symm⟩)
    · have ex : ¬ x = x' := by simpa using e1
      have e3 : (if x = x' then decide (y < y') else decide (x < x')) = decide (x < x') := if_neg ex
      exact PySem.W.kat_no (oneLt_int ⟨rfl, e3.symm⟩)
theorem firsts_t {h : Heap} : ∀ {vs : List Value}, (∀ v ∈ vs, ∃ x y, IsT h v x y) → ∃ fs : List Value, PySem.W.KatTups h vs fs ∧ fs.length = vs.length ∧ ∀ f ∈ fs, ∃ x t, f = Value.int x t
  | [], _ => ⟨[], PySem.W.KatTups.nil, rfl, fun _ hm => by simp at hm⟩
  | v :: vs, hp => by
    obtain ⟨fs, h1, h2, h3⟩ := firsts_t (vs := vs) fun v' hm => hp v' (List.mem_cons_of_mem _ hm)
    obtain ⟨x, y, a, o, t, u, r, n, e, ho, hc, hd⟩ := hp v (List.mem_cons_self ..)
    subst e
    refine ⟨.int x t :: fs, PySem.W.KatTups.cons ho hc hd rfl h1, by rw [List.length_cons, List.length_cons, h2], fun f hm => ?_⟩
    rcases List.mem_cons.mp hm with rfl | hm
    · exact ⟨x, t, rfl⟩
    · exact h3 f hm
theorem trips_sortable {a : Addr} {vs : List Value} {k : Value → Int × Int} (h0 : 0 < vs.length) (hp : ∀ v ∈ vs, IsT s.heap v (k v).1 (k v).2) (inj : ∀ v ∈ vs, ∀ u ∈ vs, k v = k u → v = u) (ha : ∀ o, s.heap.get? a = some o → o.cls ≠ .type "tuple") : SortableO prog w A s a vs fun v u => lexB (k v) (k u) := by
  intro h' keep
  have hp' : ∀ v ∈ vs, IsT h' v (k v).1 (k v).2 := fun v hm => (hp v hm).keeps fun b o e c => keep b o (fun z => by subst z; exact ha o e c) e
  obtain ⟨fs, h1, h2, h3⟩ := firsts_t fun v hm => ⟨_, _, hp' v hm⟩
  refine ⟨tuples' true, fun Q E hq => ?_, trip_cmp hp' inj⟩
  refine PySem.W.kat_kind (T := .type "int") h1 (by omega) (fun f hm => ?_) (by rfl) ?_
  · obtain ⟨x, t, rfl⟩ := h3 f hm
    exact PySem.W.Looks.now
  · have e : (Value.type "int" != Value.type "tuple") = true := by first | decide +kernel | rfl | decide
    rw [e]
    exact hq
theorem sorted_trips {l : Addr} {vs : List Value} {k : Value → Int × Int} {Q : Value → Shared → Prop} (hl : s.heap.IsList l vs.toArray) (hz : vs.length ≤ sizeLine) (hp : ∀ v ∈ vs, IsT s.heap v (k v).1 (k v).2) (inj : ∀ v ∈ vs, ∀ u ∈ vs, k v = k u → v = u)
    (h : ∀ (h' : Heap) (d : Addr) (out : List Value), Srtd (fun v u => lexB (k v) (k u)) out → Stb (fun v u => lexB (k v) (k u)) out vs → (∀ b o, s.heap.get? b = some o → h'.get? b = some o) → s.heap.objs.size ≤ d → (∃ n, h'.get? d = some (seqObj "list" out.toArray n)) → Q (.ref d) { s with heap := h' }) :
    wpAny (model prog w) A (call (.builtin "sorted") [.ref l]) Q E s := by
  refine sorted_ord (swo_lex k) hl hz (fun h2 h₁ a ha kk => ?_) fun out hs hb => ?_
  · refine trips_sortable (s := { s with heap := h₁ }) (by omega) (fun v hm => (hp v hm).keeps fun b o e _ => (kk b o e).2) inj fun o e => ?_
    have e' : some o = some (seqObj "list" vs.toArray 0) := e.symm.trans ha
    cases e'
    intro c
    exact absurd (Value.type.inj c) (by decide)
  · exact h _ _ out hs hb (fun b o e => sortedAll_old e) (Nat.le_succ _) (sortedAll_at s.heap vs out.toArray)
end SrtO

set_option Elab.async false
set_option linter.all false
set_option maxRecDepth 100000
set_option maxHeartbeats 8000000
/-! sorted(xs) by values. -/
namespace MGS
open PySem PySem.Spec PyProof.Rows L2
/-- insertion, over values of the layer -/
def insV (lt : V → V → Bool) (x : V) : List V → List V
  | [] => [x]
  | y :: r => if !(lt y x) then x :: y :: r else y :: insV lt x r
def srtV (lt : V → V → Bool) : List V → List V
  | [] => []
  | x :: r => insV lt x (srtV lt r)
theorem insV_perm (lt : V → V → Bool) (x : V) : ∀ l : List V, (insV lt x l).Perm (x :: l)
  | [] => List.Perm.refl _
  | y :: r => by
    unfold insV
    split
    · exact List.Perm.refl _
    · exact ((insV_perm lt x r).cons y).trans (List.Perm.swap x y r)
theorem srtV_perm (lt : V → V → Bool) : ∀ l : List V, (srtV lt l).Perm l
  | [] => List.Perm.refl _
  | x :: r => (insV_perm lt x _).trans ((srtV_perm lt r).cons x)
theorem insV_sorted {lt : V → V → Bool} (O : SrtO.Swo lt) (x : V) : ∀ {l : List V}, SrtO.Srtd lt l → SrtO.Srtd lt (insV lt x l)
  | [], _ => List.pairwise_singleton _ _
  | y :: r, h => by
    unfold insV
    split
    · rename_i c
      have c : lt y x = false := by simpa using c
      refine List.pairwise_cons.mpr ⟨fun z hz => ?_, h⟩
      rcases List.mem_cons.mp hz with e | hz
      · rw [e]; exact c
      · exact O.tr _ _ _ c (List.rel_of_pairwise_cons h hz)
    · rename_i c
      have c : lt y x = true := by simpa using c
      refine List.pairwise_cons.mpr ⟨fun z hz => ?_, insV_sorted O x (List.pairwise_cons.mp h).2⟩
      rcases List.mem_cons.mp ((insV_perm lt x r).mem_iff.mp hz) with e | hz
      · rw [e]; exact O.asym _ _ c
      · exact List.rel_of_pairwise_cons h hz
theorem srtV_sorted {lt : V → V → Bool} (O : SrtO.Swo lt) : ∀ l : List V, SrtO.Srtd lt (srtV lt l)
  | [] => List.Pairwise.nil
  | x :: r => insV_sorted O x (srtV_sorted O r)
section
variable {M : Mc} {s : Sx}
/-- the same insertions on both sides -/
theorem rds_ins {le : MG.D → MG.D → Bool} {lt : V → V → Bool} {d : MG.D} {v : V} (hd : RD M s d v) : ∀ {ds : List MG.D} {vs : List V}, RDs M s ds vs → (∀ (i : Nat) d' v', ds[i]? = some d' → vs[i]? = some v' → le d d' = !(lt v' v)) → RDs M s (MG.insSort le d ds) (insV lt v vs)
  | _, _, .nil, _ => .cons hd .nil
  | _, _, .cons (d := d') (v := v') h r, q => by
    unfold MG.insSort insV
    rw [q 0 d' v' rfl rfl]
    split
    · exact .cons hd (.cons h r)
    · exact .cons h (rds_ins hd r fun i a b h1 h2 => q (i + 1) a b (by simpa using h1) (by simpa using h2))
theorem insSort_mem {le : MG.D → MG.D → Bool} {d x : MG.D} : ∀ {ds : List MG.D}, x ∈ MG.insSort le d ds → x = d ∨ x ∈ ds
  | [], h => by simpa [MG.insSort] using h
  | y :: r, h => by
    unfold MG.insSort at h
    split at h
    · simpa using h
    · rcases List.mem_cons.mp h with e | h
      · exact .inr (by simp [e])
      · rcases insSort_mem h with e | e
        · exact .inl e
        · exact .inr (by simp [e])
theorem sortBy_mem {le : MG.D → MG.D → Bool} {x : MG.D} : ∀ {ds : List MG.D}, x ∈ MG.sortBy le ds → x ∈ ds
  | [], h => by cases h
  | y :: r, h => by
    rcases insSort_mem h with e | e
    · simp [e]
    · exact List.mem_cons_of_mem _ (sortBy_mem e)
theorem rds_sort {le : MG.D → MG.D → Bool} {lt : V → V → Bool} {R : MG.D → V → Prop} (hle : ∀ d d' v v', R d v → R d' v' → le d d' = !(lt v' v)) : ∀ {ds : List MG.D} {vs : List V}, RDs M s ds vs → (∀ d v, d ∈ ds → RD M s d v → R d v) → RDs M s (MG.sortBy le ds) (srtV lt vs)
  | _, _, .nil, _ => .nil
  | _, _, .cons (d := d) (v := v) h r, q => by
    have ih := rds_sort hle r fun d' v' hd hv => q d' v' (List.mem_cons_of_mem _ hd) hv
    refine rds_ins h ih fun i d' v' h1 h2 => hle _ _ _ _ (q d v List.mem_cons_self h) (q d' v' (List.mem_cons_of_mem _ (sortBy_mem (List.mem_of_getElem? h1))) ?_)
    obtain ⟨v2, e1, e2⟩ := ih.get h1
    rw [h2] at e1
    cases e1
    exact e2
theorem RDs.mem {ds : List MG.D} {vs : List V} {v : V} (r : RDs M s ds vs) (h : v ∈ vs) : ∃ (i : Nat) (d : MG.D), ds[i]? = some d ∧ vs[i]? = some v ∧ RD M s d v := by
  obtain ⟨i, hi⟩ := List.getElem?_of_mem h
  obtain ⟨d, e1, e2⟩ := r.getV hi
  exact ⟨i, d, e1, hi, e2⟩
end
/-- the key of a tuple that stands at v -/
noncomputable def kOf (K : PySem.W.Frag) (H : Hp) (v : V) : Int × Int := by
  classical
  exact if h : ∃ p : Int × Int, ∃ (t : Addr) (r : List V), v = .ref t ∧ SqT K H t (.int p.1 :: .int p.2 :: r) then h.choose else (0, 0)
section
variable {X : Cx} {M : Mc}
theorem kOf_eq {pins : List (Addr × Obj)} {σ : L2.St} {H : Hp} {s : Shared} (I : L2.Inv X pins σ H s) {t : Addr} {i j : Int} {r : List V} (h : SqT X.K H t (.int i :: .int j :: r)) : kOf X.K H (.ref t) = (i, j) := by
  have ex : ∃ p : Int × Int, ∃ (t' : Addr) (r : List V), V.ref t = .ref t' ∧ SqT X.K H t' (.int p.1 :: .int p.2 :: r) := ⟨(i, j), t, r, rfl, h⟩
  unfold kOf
  rw [dif_pos ex]
  obtain ⟨t', r', e, q⟩ := ex.choose_spec
  cases e
  have := I.tuple_inj q h
  injection this with h1 h2
  injection h2 with h3 h4
  injection h1 with h1
  injection h3 with h3
  exact Prod.ext h1 h3
theorem key2_of {d : MG.D} {p : Int × Int} (h : MG.key2 d = some p) : ∃ r, d = .tup (.int p.1 :: .int p.2 :: r) := by
  unfold MG.key2 at h
  split at h
  · cases h; exact ⟨_, rfl⟩
  · cases h
theorem key_rd {s : Sx} {d : MG.D} {v : V} {p : Int × Int} (h : MG.key2 d = some p) (r : RD M s d v) : ∃ t us, v = .ref t ∧ SqT M.K s.H t (.int p.1 :: .int p.2 :: us) := by
  obtain ⟨l, rfl⟩ := key2_of h
  obtain ⟨t, us, rfl, h1, h2⟩ := rd_tup r
  cases h2 with
  | cons a h2 => cases h2 with
    | cons b h2 =>
      cases a
      cases b
      exact ⟨t, _, rfl, h1⟩
def kI : V → Int
  | .int i => i
  | _ => 0
def ltI (v u : V) : Bool := decide (kI v < kI u)
theorem ltI_swo : SrtO.Swo ltI := by
  refine ⟨fun x y h => ?_, fun x y z h1 h2 => ?_⟩
  · have := of_decide_eq_true h
    exact decide_eq_false (by omega)
  · have := of_decide_eq_false h1
    have := of_decide_eq_false h2
    exact decide_eq_false (by omega)
theorem ints_of {s : Sx} : ∀ {ds : List MG.D} {vs : List V}, RDs M s ds vs → ds.all MG.isInt = true → ∃ ns : List Int, vs = ns.map V.int ∧ ds = ns.map MG.D.int
  | _, _, .nil, _ => ⟨[], rfl, rfl⟩
  | _, _, .cons (d := d) h t, q => by
    rw [List.all_cons, Bool.and_eq_true] at q
    obtain ⟨ns, e1, e2⟩ := ints_of t q.2
    have q1 := q.1
    cases h with
    | int i => exact ⟨i :: ns, by rw [e1]; rfl, by rw [e2]; rfl⟩
    | _ => cases q1
theorem cv_sorted {own : Bool} (B : BltOk M X) : CallR X (.builtin "sorted") (rL M (MG.biV M.G own .sorted)) := by
  intro pins s σ H xs us Q I r h
  obtain ⟨m, st, dl, S, rd, q⟩ := h
  obtain ⟨d, x, rfl, rfl, hd, q⟩ := PV.one (s := ⟨m, st, H⟩) q rd
  obtain ⟨ds, a, vs, e, rfl, h1, rr, q⟩ := PV.onL (s := ⟨m, st, H⟩) S q hd
  simp only [MG.sortV] at q
  by_cases hi : ds.all MG.isInt = true
  · rw [if_pos hi] at q
    obtain ⟨ns, e1, e2⟩ := ints_of rr hi
    subst e1
    have SL : SqL X.K H a (ns.map V.int) := .inl (.inl h1)
    refine cr_sortedI pins s σ H _ us Q I r ⟨a, ns, rfl, SL, fun ns' p hp hs hn => PV.give (s := ⟨m, st, H⟩) q S ?_ hn⟩
    have eq : ns'.map V.int = srtV ltI (ns.map V.int) := by
      refine List.Perm.eq_of_pairwise (le := fun x y => ltI y x = false) (fun x y hx hy l1 l2 => ?_) ?_ (srtV_sorted ltI_swo _) ((hp.map _).trans (srtV_perm _ _).symm)
      · obtain ⟨i, _, rfl⟩ := List.mem_map.mp hx
        obtain ⟨j, _, rfl⟩ := List.mem_map.mp ((srtV_perm _ _).mem_iff.mp hy)
        have l1 : decide (j < i) = false := l1
        have l2 : decide (i < j) = false := l2
        have l1 := of_decide_eq_false l1
        have l2 := of_decide_eq_false l2
        congr 1
        omega
      · rw [List.pairwise_map]
        refine hs.imp fun {i j} h => ?_
        exact decide_eq_false (by show ¬ (j < i); omega)
    rw [eq]
    refine rds_sort (R := fun d v => ∃ i, d = .int i ∧ v = .int i) (fun d d' v v' ⟨i, a1, a2⟩ ⟨j, b1, b2⟩ => ?_) rr fun d v hd hv => ?_
    · subst a1 a2 b1 b2
      show decide (i ≤ j) = !(decide (j < i))
      by_cases c : j < i
      · rw [decide_eq_true c, decide_eq_false (by omega)]; rfl
      · rw [decide_eq_false c, decide_eq_true (by omega)]; rfl
    · have := List.all_eq_true.mp hi d hd
      cases hv with
      | int i => exact ⟨_, rfl, rfl⟩
      | _ => cases this
  · rw [if_neg hi] at q
    by_cases hk : ((ds.all fun d => (MG.key2 d).isSome) && decide (ds.map MG.key2).Nodup) = true
    · rw [if_pos hk] at q
      simp only [Bool.and_eq_true, decide_eq_true_eq] at hk
      obtain ⟨hk, nd⟩ := hk
      have key : ∀ d ∈ ds, ∃ p, MG.key2 d = some p := fun d hd => Option.isSome_iff_exists.mp (List.all_eq_true.mp hk d hd)
      have kk : ∀ {d : MG.D} {v : V}, d ∈ ds → RD M ⟨m, st, H⟩ d v → MG.key2 d = some (kOf X.K H v) ∧ ∃ t us, v = .ref t ∧ SqT X.K H t (.int (kOf X.K H v).1 :: .int (kOf X.K H v).2 :: us) := fun {d v} hd hr => by
        obtain ⟨p, hp⟩ := key d hd
        obtain ⟨t, us, rfl, h2⟩ := key_rd hp hr
        rw [B.hK] at h2
        have : kOf X.K H (.ref t) = (p.1, p.2) := kOf_eq I h2
        rw [this]
        exact ⟨hp, t, us, rfl, h2⟩
      have inj : ∀ v ∈ vs, ∀ u ∈ vs, kOf X.K H v = kOf X.K H u → v = u := fun v hv u hu e => by
        obtain ⟨i, d1, a1, b1, c1⟩ := rr.mem hv
        obtain ⟨j, d2, a2, b2, c2⟩ := rr.mem hu
        have k1 := (kk (List.mem_of_getElem? a1) c1).1
        have k2 := (kk (List.mem_of_getElem? a2) c2).1
        have m1 : (ds.map MG.key2)[i]? = some (some (kOf X.K H v)) := by rw [List.getElem?_map, a1, ← k1]; rfl
        have m2 : (ds.map MG.key2)[j]? = some (some (kOf X.K H v)) := by rw [List.getElem?_map, a2, e, ← k2]; rfl
        obtain ⟨l1, g1⟩ := List.getElem?_eq_some_iff.mp m1
        obtain ⟨l2, g2⟩ := List.getElem?_eq_some_iff.mp m2
        have : i = j := (List.getElem_inj nd).mp (g1.trans g2.symm)
        subst this
        rw [b1] at b2
        exact Option.some.inj b2
      obtain ⟨its, rv, hl, hz⟩ := I.list (show SqL X.K H a vs from .inl (.inl h1))
      obtain ⟨u, rfl, ru⟩ := vals1 r
      obtain rfl : u = Value.ref a := ru
      obtain ⟨e1, e2⟩ := refs_back rv fun x hx => by
        obtain ⟨i, d1, a1, b1, c1⟩ := rr.mem hx
        obtain ⟨t, us, e, _⟩ := (kk (List.mem_of_getElem? a1) c1).2
        exact ⟨t, e⟩
      refine SrtO.sorted_trips (k := fun u => kOf X.K H (backV u)) hl.isList (by rw [← rv.length]; exact hz) (fun v hv => ?_) (fun v hv u hu e => ?_) fun h' dd out g1 g2 kp hdd hn => ?_
      · obtain ⟨t, rfl⟩ := e2 v hv
        have hm : V.ref t ∈ vs := by rw [e1]; exact List.mem_map.mpr ⟨_, hv, rfl⟩
        obtain ⟨i, d1, a1, b1, c1⟩ := rr.mem hm
        obtain ⟨t', us, e, hq⟩ := (kk (List.mem_of_getElem? a1) c1).2
        cases e
        obtain ⟨its2, r2, ⟨o, ho, hc, n, hd⟩, _⟩ := I.tuple hq
        cases r2 with
        | cons p1 r2 => cases r2 with
          | cons p2 r2 =>
            obtain ⟨t1, rfl⟩ := p1
            obtain ⟨t2, rfl⟩ := p2
            exact ⟨t, o, t1, t2, _, n, rfl, ho, hc, hd⟩
      · obtain ⟨t, rfl⟩ := e2 v hv
        obtain ⟨t', rfl⟩ := e2 u hu
        have hm : V.ref t ∈ vs := by rw [e1]; exact List.mem_map.mpr ⟨_, hv, rfl⟩
        have hm' : V.ref t' ∈ vs := by rw [e1]; exact List.mem_map.mpr ⟨_, hu, rfl⟩
        have := inj _ hm _ hm' e
        cases this
        rfl
      · have g3 : ∀ u ∈ out, ∃ a, u = Value.ref a := fun u hu => e2 u (g2.perm.mem_iff.mp hu)
        obtain ⟨n, hn⟩ := hn
        have hb : SrtO.Stb (ltP (kOf X.K H)) (out.map backV) vs := by
          rw [e1]
          exact SrtO.Stb.map (ltP_swo _) backV g2
        have hsr : SrtO.Srtd (ltP (kOf X.K H)) (out.map backV) := SrtO.srtd_map g1
        have eq : out.map backV = srtV (ltP (kOf X.K H)) vs := by
          refine List.Perm.eq_of_pairwise (le := fun x y => ltP (kOf X.K H) y x = false) (fun x y hx hy l1 l2 => ?_) hsr (srtV_sorted (ltP_swo _) vs) (hb.perm.trans (srtV_perm _ vs).symm)
          have hx := hb.perm.mem_iff.mp hx
          have hy := (srtV_perm _ vs).mem_iff.mp hy
          refine inj x hx y hy (Prod.ext ?_ ?_)
          · have := SrtO.lexB_no.mp l1; have := SrtO.lexB_no.mp l2; omega
          · have := SrtO.lexB_no.mp l1; have := SrtO.lexB_no.mp l2; omega
        have rs : RDs M ⟨m, st, H⟩ (MG.sortBy MG.le2 ds) (out.map backV) := by
          rw [eq]
          refine rds_sort (R := fun d v => MG.key2 d = some (kOf X.K H v)) (fun d d' v v' k1 k2 => ?_) rr fun d v hd hv => (kk hd hv).1
          unfold MG.le2
          rw [k1, k2]
          show decide _ = !(SrtO.lexB (kOf X.K H v') (kOf X.K H v))
          by_cases c : SrtO.lexB (kOf X.K H v') (kOf X.K H v) = true
          · rw [c]
            have := SrtO.lexB_iff.mp c
            exact decide_eq_false (by omega)
          · have c : SrtO.lexB (kOf X.K H v') (kOf X.K H v) = false := by simpa using c
            rw [c]
            have := SrtO.lexB_no.mp c
            exact decide_eq_true (by omega)
        refine ⟨.ref dd, upd H dd (.lst (out.map backV)), I.laid (t' := s.toks) kp hdd ⟨?_, out, n, vals_back g3, hn⟩, rfl, PV.give (s := ⟨m, st, H⟩) q S rs (I.hok.fresh hdd)⟩
        rw [hb.len]
        exact hz
    · rw [if_neg hk] at q
      exact q.elim
end
end MGS

set_option Elab.async false
set_option linter.all false
set_option maxRecDepth 100000
set_option maxHeartbeats 8000000
/-! The checker: does a core expression tell what an expression of the text does? -/
namespace MGS
open PySem PySem.Spec PyProof.Rows L2

/-- the module, as the checker knows it -/
structure Gm where
  cst : List (PySem.Str × MG.D)
  fns : List String
  meths : List (String × String)
  makes : List String
  flds : List String
  blt : List PySem.Str
/-- a def, or a comprehension's block -/
structure Sc where
  N : List PySem.Str
  sc : Scope
  fn : PySem.Str → Bool

structure GOk (X : Cx) (M : Mc) (cl : MG.Call) (g : Gm) (k : Nat) : Prop where
  B : BltOk M X
  calm : X.calm = true
  room : Room (k + 1) X.A
  cst : ∀ x d, g.cst.lookup x = some d → ∃ u v, X.mg x = some u ∧ RelV v u ∧ ∀ s, RD M s d v
  blt : ∀ x ∈ g.blt, X.mg x = none
  fns : ∀ f ∈ g.fns, ∃ A, FnAt X M cl k f A ∧ X.mg (sOf f) = some (.ref A)
  meths : ∀ p ∈ g.meths, ∃ C A, M.cls p.1 = some C ∧ FnAt X M cl k (p.1 ++ "." ++ p.2) A ∧ Cls X.K C ∧ Meth X.K C (sOf p.2) A
  makes : ∀ c ∈ g.makes, ∃ C A, M.cls c = some C ∧ FnAt X M cl k (c ++ ".__init__") A ∧ Mk X.K C A ∧ X.mg (sOf c) = some (.ref C)
  flds : ∀ f ∈ g.flds, FldOk M X f
structure CxOk (X : Cx) (M : Mc) (W : WX) (cl : MG.Call) (g : Gm) (k : Nat) (s : Sc) : Prop where
  G : GOk X M cl g k
  N : X.N = s.N
  nd : s.N.Nodup
  sc : X.env.scope = s.sc
  fn : X.fn = s.fn
  hx : ∀ σ, PassesAt (L2.CX X.prog X.w) X σ (WE W σ)

/-- the block of a comprehension -/
def Sc.blk (s : Sc) (scope : Scope) : Sc := ⟨s.N, relS scope s.sc, fun x => scope.names.lookup x == some .cell⟩
theorem GOk.blk {X : Cx} {M : Mc} {cl : MG.Call} {g : Gm} {k : Nat} (G : GOk X M cl g k) (s : Shared) (H : Hp) (scope : Scope) (env : Env) (fp : List Addr) : GOk (X.blk s H scope env fp) M cl g k :=
  ⟨⟨G.B.hK, G.B.gd, G.B.pl⟩, G.calm, G.room, G.cst, G.blt, fun f hf => let ⟨A, F, h⟩ := G.fns f hf; ⟨A, ⟨F.fn, F.kp⟩, h⟩, fun p hp => let ⟨C, A, h1, F, h2⟩ := G.meths p hp; ⟨C, A, h1, ⟨F.fn, F.kp⟩, h2⟩, fun c hc => let ⟨C, A, h1, F, h2⟩ := G.makes c hc; ⟨C, A, h1, ⟨F.fn, F.kp⟩, h2⟩, G.flds⟩
theorem no_pass {X : Cx} (σ : L2.St) : PassesAt (L2.CX X.prog X.w) X σ (WE WF σ) := fun pins H s e s' I c => by
  obtain ⟨a, B, H', cls, d, _, _, _, _, _, _, _, z⟩ := c
  exact z.elim
theorem CxOk.blk {X : Cx} {M : Mc} {W : WX} {cl : MG.Call} {g : Gm} {k : Nat} {s : Sc} (C : CxOk X M W cl g k s) (sh : Shared) (H : Hp) (scope : Scope) (A : Addr) (cls : List (PySem.Str × Addr)) (fp : List Addr) : CxOk (X.blk sh H scope (compEnvC scope cls A X.env) fp) M WF cl g k (s.blk scope) :=
  ⟨C.G.blk _ _ _ _ _, C.N, C.nd, by show relS scope X.env.scope = relS scope s.sc; rw [C.sc], rfl, no_pass⟩

/-! ### names -/
def glb (s : Sc) (x : PySem.Str) : Bool := s.sc.names.lookup x == some .globalImplicit
def visB (s : Sc) (x : PySem.Str) : Bool := match s.sc.names.lookup x with
  | some .local => true
  | some .cell => true
  | some .free => true
  | _ => false
def locB (s : Sc) (x : PySem.Str) : Bool := match s.sc.names.lookup x with
  | some .local => true
  | some .cell => s.fn x
  | _ => false
def nm (g : Gm) (s : Sc) (x n : PySem.Str) : Bool := decide (x = n) && g.blt.contains n && glb s n
def nodbg (x : PySem.Str) : Bool := !(x == ("__debug__" : PySem.Str)) && !(x == ("__classdict__" : PySem.Str))
section
variable {X : Cx} {M : Mc} {W : WX} {cl : MG.Call} {g : Gm} {k : Nat} {s : Sc}
theorem glb_of (C : CxOk X M W cl g k s) {x : PySem.Str} (h : glb s x = true) : Gl X x := by
  show X.env.scope.names.lookup x = _
  rw [C.sc]
  exact eq_of_beq h
theorem vis_of (C : CxOk X M W cl g k s) {x : PySem.Str} (h : visB s x = true) : Vis X.env.scope x := by
  unfold visB at h
  unfold Vis
  rw [C.sc]
  split at h
  · rename_i e; exact .inl e
  · rename_i e; exact .inr (.inl e)
  · rename_i e; exact .inr (.inr e)
  · cases h
theorem loc_of (C : CxOk X M W cl g k s) {x : PySem.Str} (h : locB s x = true) : Loc X.env.scope x ∧ (X.fn x = true ∨ X.env.scope.names.lookup x = some .local) := by
  unfold locB at h
  unfold L2.Loc
  rw [C.sc, C.fn]
  split at h
  · rename_i e; exact ⟨.inl e, .inr e⟩
  · rename_i e; exact ⟨.inr e, .inl h⟩
  · cases h
theorem nm_of (C : CxOk X M W cl g k s) {x n : PySem.Str} (h : nm g s x n = true) : x = n ∧ Gl X n ∧ X.mg n = none := by
  unfold nm at h
  simp only [Bool.and_eq_true, decide_eq_true_eq] at h
  exact ⟨h.1.1, glb_of C h.2, C.G.blt n (by simpa using h.1.2)⟩
theorem nodbg_of {x : PySem.Str} (h : nodbg x = true) : (x == ("__debug__" : PySem.Str)) = false ∧ (x == ("__classdict__" : PySem.Str)) = false := by
  unfold nodbg at h
  simpa using h
theorem CxOk.un (C : CxOk X M W cl g k s) : X.A.units + 65 < cLine := by have := C.G.room.un; omega
end

/-! ### argument lists -/
inductive AOk (X : Cx) (M : Mc) (W : WX) (cl : MG.Call) : MG.C → List Expr → Prop
  | nil : AOk X M W cl .nil []
  | cons {a : Expr} {es : List Expr} {ca cb : MG.C} : notStar a = true → PE X a (tE M W cl ca) → AOk X M W cl cb es → AOk X M W cl (.cons ca cb) (a :: es)
section
variable {X : Cx} {M : Mc} {W : WX} {cl : MG.Call} {g : Gm} {k : Nat} {s : Sc} {c : MG.C} {es : List Expr}
theorem AOk.argc (h : AOk X M W cl c es) : argc c = some es.length := by
  induction h with
  | nil => rfl
  | cons _ _ _ ih => show (MGS.argc _).map _ = _; rw [ih]; rfl
theorem AOk.pa (h : AOk X M W cl c es) : PA X es (tA M W cl c) := by
  induction h with
  | nil => exact a_nil
  | cons h1 h2 h3 ih => exact a_cons h3.argc (star_cons h1 _ _) h2 ih
theorem AOk.ns (h : AOk X M W cl c es) : es.all notStar = true := by
  induction h with
  | nil => rfl
  | cons h1 _ _ ih => rw [List.all_cons, h1, ih]; rfl
inductive POk (X : Cx) (M : Mc) (W : WX) (cl : MG.Call) : MG.C → List (Option Expr) → List Expr → Prop
  | nil : POk X M W cl .nil [] []
  | cons {a b : Expr} {ks : List (Option Expr)} {vs : List Expr} {ca cb c : MG.C} : PE X a (tE M W cl ca) → PE X b (tE M W cl cb) → POk X M W cl c ks vs → POk X M W cl (.cons ca (.cons cb c)) (some a :: ks) (b :: vs)
theorem POk.pps {pos : Pos} {ks : List (Option Expr)} {vs : List Expr} (h : POk X M W cl c ks vs) : PPs X pos ks vs (trsOf M W cl c) ∧ even c = true ∧ ks.all (·.isSome) = true ∧ ks.length = vs.length := by
  induction h with
  | nil => exact ⟨pps_nil, rfl, rfl, rfl⟩
  | cons h1 h2 h3 ih =>
    refine ⟨pps_cons h1 h2 ih.1, ?_, ?_, ?_⟩
    · simpa [even] using ih.2.1
    · rw [List.all_cons, ih.2.2.1]; rfl
    · rw [List.length_cons, List.length_cons, ih.2.2.2]
end

/-! ### what is checked -/
inductive Wh where
  | val (e : Expr)
  | tst (e : Expr)
  | args (es : List Expr)
  | itr (tg e : Expr)
  | prs (ks : List (Option Expr)) (vs : List Expr)
  /-- a key's value, then pairs -/
  | odd (v : Expr) (ks : List (Option Expr)) (vs : List Expr)
def Holds (X : Cx) (M : Mc) (W : WX) (cl : MG.Call) (c : MG.C) : Wh → Prop
  | .val e => PE X e (tE M W cl c)
  | .tst e => PT X e (tB (tE M W cl c))
  | .args es => AOk X M W cl c es
  | .itr tg e => PI X tg e (tI M W cl c)
  | .prs ks vs => POk X M W cl c ks vs
  | .odd v ks vs => ∃ cb c', c = .cons cb c' ∧ PE X v (tE M W cl cb) ∧ POk X M W cl c' ks vs
def fin (v t : Expr → Bool) (it : Expr → Expr → Bool) : Wh → Bool
  | .val e => v e
  | .tst e => t e || (plainTest e && v e)
  | .itr tg e => it tg e || v e
  | _ => false
def no1 : Expr → Bool := fun _ => false
def no2 : Expr → Expr → Bool := fun _ _ => false
section
variable {X : Cx} {M : Mc} {W : WX} {cl : MG.Call} {g : Gm} {k : Nat} {s : Sc} {c : MG.C} {es : List Expr}
theorem fin_ok (C : CxOk X M W cl g k s) {v t : Expr → Bool} {it : Expr → Expr → Bool} {w : Wh} (h : fin v t it w = true) (hv : ∀ e, v e = true → PE X e (tE M W cl c)) (ht : ∀ e, t e = true → PT X e (tB (tE M W cl c))) (hi : ∀ tg e, it tg e = true → PI X tg e (tI M W cl c)) : Holds X M W cl c w := by
  cases w with
  | val e => exact hv e h
  | tst e =>
    have h : t e = true ∨ (plainTest e = true ∧ v e = true) := by simpa [fin] using h
    rcases h with h | ⟨h1, h2⟩
    · exact ht e h
    · exact pt_val (hv e h2) (test_of h1 _)
  | itr tg e =>
    have h : it tg e = true ∨ v e = true := by simpa [fin] using h
    rcases h with h | h
    · exact hi tg e h
    · exact i_any C.G.B.hK (hv e h)
  | _ => cases h
theorem no1_of {P : Expr → Prop} : ∀ e, no1 e = true → P e := fun _ h => by cases h
theorem no2_of {P : Expr → Expr → Prop} : ∀ t e, no2 t e = true → P t e := fun _ _ h => by cases h
end

/-! ### constants, variables -/
def kOk (g : Gm) (s : Sc) (d : MG.D) : Expr → Bool
  | .Constant (.int i) _ _ => (match d with | .int j => decide (i = j) | _ => false)
  | .Constant (.bool b) _ _ => (match d with | .bl j => decide (b = j) | _ => false)
  | .Constant (.str x) _ _ => (match d with | .str y => decide (x = sOf y) | _ => false)
  | .Constant .none _ _ => (match d with | .non => true | _ => false)
  | .Name x _ => glb s x && nodbg x && (match g.cst.lookup x with | some e => MG.same e d | none => false)
  | _ => false
def varOk (s : Sc) (i : Nat) : Expr → Bool
  | .Name x _ => decide (s.N[i]? = some x) && visB s x && nodbg x
  | _ => false
section
variable {X : Cx} {M : Mc} {W : WX} {cl : MG.Call} {g : Gm} {k : Nat} {s : Sc} {c : MG.C} {es : List Expr}
theorem k_ok (C : CxOk X M W cl g k s) {d : MG.D} {e : Expr} (h : kOk g s d e = true) : PE X e (tE M W cl (.k d)) := by
  unfold kOk at h
  split at h
  · split at h
    · cases of_decide_eq_true h; exact e_k pe_int fun s => .int _
    · cases h
  · split at h
    · cases of_decide_eq_true h; exact e_k pe_bl fun s => .bl _
    · cases h
  · split at h
    · cases of_decide_eq_true h; exact e_k pe_str fun s => .str _
    · cases h
  · split at h
    · exact e_k pe_non fun s => .non
    · cases h
  · simp only [Bool.and_eq_true] at h
    obtain ⟨⟨h1, h2⟩, h3⟩ := h
    split at h3
    · rename_i e' el
      rw [same_eq _ _ h3] at el
      obtain ⟨u, v, m1, m2, m3⟩ := C.G.cst _ _ el
      exact e_k (pe_glob (glb_of C h1) m1 m2 (nodbg_of h2).1) m3
    · cases h3
  · cases h
theorem var_ok (C : CxOk X M W cl g k s) {i : Nat} {e : Expr} (h : varOk s i e = true) : PE X e (tE M W cl (.var i)) := by
  unfold varOk at h
  split at h
  · simp only [Bool.and_eq_true, decide_eq_true_eq] at h
    exact e_var (by rw [C.N]; exact h.1.1) (vis_of C h.1.2) (nodbg_of h.2).1 (nodbg_of h.2).2
  · cases h
end

/-! ### operators -/
def binOk : Operator → MG.Op2 → Bool
  | .Add, .add => true
  | .Sub, .sub => true
  | .Mult, .mul => true
  | .FloorDiv, .fdiv => true
  | .Mod, .md => true
  | .Pow, .pow => true
  | _, _ => false
def cmpOk : CmpOp → MG.Op2 → Bool
  | .Eq, .eq => true
  | .NotEq, .ne => true
  | .Lt, .lt => true
  | .LtE, .le => true
  | .Gt, .gt => true
  | .GtE, .ge => true
  | .In, .in_ => true
  | .NotIn, .nin => true
  | _, _ => false
def isIdx : MG.Op2 → Bool
  | .idx => true
  | _ => false
def vOp2 (ra rb : Expr → Bool) (o : MG.Op2) : Expr → Bool
  | .BinOp a op b _ => binOk op o && ra a && rb b
  | .Compare a [op] [b] _ => cmpOk op o && notSet b && ra a && rb b
  | .Subscript a b _ => isIdx o && notSlice b && ra a && rb b
  | _ => false
def tOp2 (ra rb : Expr → Bool) (o : MG.Op2) : Expr → Bool
  | .Compare a [op] [b] _ => cmpOk op o && notSet b && ra a && rb b
  | _ => false
def isNeg : MG.Op1 → Bool
  | .neg => true
  | _ => false
def isNot : MG.Op1 → Bool
  | .not => true
  | _ => false
def isNoneC : Expr → Bool
  | .Constant .none _ _ => true
  | _ => false
def isC (op : CmpOp) (o : MG.Op1) : Bool := match op, o with
  | .Is, .isN => true
  | .IsNot, .notN => true
  | _, _ => false
def vOp1 (ra : Expr → Bool) (o : MG.Op1) : Expr → Bool
  | .UnaryOp .USub a _ => isNeg o && ra a
  | .UnaryOp .Not a _ => isNot o && ra a
  | .Compare a [op] [b] _ => isC op o && isNoneC b && ra a
  | _ => false
def tOp1 (ra ta : Expr → Bool) (o : MG.Op1) : Expr → Bool
  | .UnaryOp .Not a _ => isNot o && ta a
  | .Compare a [op] [b] _ => isC op o && isNoneC b && ra a
  | _ => false
section
variable {X : Cx} {M : Mc} {W : WX} {cl : MG.Call} {g : Gm} {k : Nat} {s : Sc} {ca cb cc : MG.C} {es : List Expr}
theorem bin_ok (C : CxOk X M W cl g k s) {op : Operator} {o : MG.Op2} {own : Bool} (h : binOk op o = true) : OpR X (binaryOp op) (rV M (MG.op2V M.G own o)) := by
  have hK := C.G.B.hK
  cases op <;> cases o <;> first | (cases h; done) | exact ov_add hK | exact ov_sub hK | exact ov_mul hK | exact ov_fdiv hK | exact ov_md hK | exact ov_pow hK
theorem cmp_ok (C : CxOk X M W cl g k s) {op : CmpOp} {o : MG.Op2} {own : Bool} (h : cmpOk op o = true) : OpR X (compareOp op) (rV M (MG.op2V M.G own o)) := by
  have hK := C.G.B.hK
  have hu := C.un
  have hg := C.G.B.gd
  cases op <;> cases o <;> first | (cases h; done) | exact ov_eq hK (by omega) | exact ov_ne hK (by omega) | exact ov_lt hK | exact ov_le hK | exact ov_gt hK | exact ov_ge hK | exact ov_in hK hu hg | exact ov_nin hK hu hg
theorem op2_ok (C : CxOk X M W cl g k s) {ra rb : Expr → Bool} {o : MG.Op2} {own : Bool} {e : Expr} (ha : ∀ e, ra e = true → PE X e (tE M W cl ca)) (hb : ∀ e, rb e = true → PE X e (tE M W cl cb)) (h : vOp2 ra rb o e = true) : PE X e (tE M W cl (.op2 o own ca cb)) := by
  unfold vOp2 at h
  split at h
  · simp only [Bool.and_eq_true] at h
    exact e_bin (bin_ok C h.1.1) (ha _ h.1.2) (hb _ h.2)
  · simp only [Bool.and_eq_true] at h
    exact e_cmp (cmp_ok C h.1.1.1) (marks_of h.1.1.2 _) (ha _ h.1.2) (hb _ h.2)
  · simp only [Bool.and_eq_true] at h
    obtain ⟨⟨⟨h1, h2⟩, h3⟩, h4⟩ := h
    cases o <;> first | (cases h1; done) | exact e_ix (iv_idx C.G.B.hK (by have := C.un; omega) C.G.B.gd) (ix_of h2) (ha _ h3) (hb _ h4)
  · cases h
theorem op2_t (C : CxOk X M W cl g k s) {ra rb : Expr → Bool} {o : MG.Op2} {own : Bool} {e : Expr} (ha : ∀ e, ra e = true → PE X e (tE M W cl ca)) (hb : ∀ e, rb e = true → PE X e (tE M W cl cb)) (h : tOp2 ra rb o e = true) : PT X e (tB (tE M W cl (.op2 o own ca cb))) := by
  unfold tOp2 at h
  split at h
  · simp only [Bool.and_eq_true] at h
    exact t_cmp (cmp_ok C h.1.1.1) (marks_of h.1.1.2 _) (ha _ h.1.2) (hb _ h.2)
  · cases h
theorem none_of {e : Expr} (h : isNoneC e = true) : ∃ j p, e = .Constant .none j p := by
  unfold isNoneC at h
  split at h
  · exact ⟨_, _, rfl⟩
  · cases h
theorem op1_ok (C : CxOk X M W cl g k s) {ra : Expr → Bool} {o : MG.Op1} {e : Expr} (ha : ∀ e, ra e = true → PE X e (tE M W cl ca)) (h : vOp1 ra o e = true) : PE X e (tE M W cl (.op1 o ca)) := by
  unfold vOp1 at h
  split at h
  · simp only [Bool.and_eq_true] at h
    cases o <;> first | (cases h.1; done) | exact e_neg C.G.B.hK (ha _ h.2)
  · simp only [Bool.and_eq_true] at h
    cases o <;> first | (cases h.1; done) | exact e_not (ha _ h.2)
  · simp only [Bool.and_eq_true] at h
    obtain ⟨⟨h1, h2⟩, h3⟩ := h
    obtain ⟨j, p, rfl⟩ := none_of h2
    unfold isC at h1
    split at h1
    · exact e_isN (ha _ h3)
    · exact e_notN (ha _ h3)
    · cases h1
  · cases h
theorem op1_t (C : CxOk X M W cl g k s) {ra ta : Expr → Bool} {o : MG.Op1} {e : Expr} (ha : ∀ e, ra e = true → PE X e (tE M W cl ca)) (hta : ∀ e, ta e = true → PT X e (tB (tE M W cl ca))) (h : tOp1 ra ta o e = true) : PT X e (tB (tE M W cl (.op1 o ca))) := by
  unfold tOp1 at h
  split at h
  · simp only [Bool.and_eq_true] at h
    cases o <;> first | (cases h.1; done) | exact t_not (hta _ h.2)
  · simp only [Bool.and_eq_true] at h
    obtain ⟨⟨h1, h2⟩, h3⟩ := h
    obtain ⟨j, p, rfl⟩ := none_of h2
    unfold isC at h1
    split at h1
    · exact t_isN (ha _ h3)
    · exact t_notN (ha _ h3)
    · cases h1
  · cases h
end

/-! ### and, or, if, chains -/
def vAnd (ra rb : Expr → Bool) : Expr → Bool
  | .BoolOp .And (a :: b :: rest) pos => ra a && (match rest with | [] => rb b | _ :: _ => rb (.BoolOp .And (b :: rest) pos))
  | _ => false
def vOr (ra rb : Expr → Bool) : Expr → Bool
  | .BoolOp .Or (a :: b :: rest) pos => ra a && (match rest with | [] => rb b | _ :: _ => rb (.BoolOp .Or (b :: rest) pos))
  | _ => false
def vIte (rc ra rb : Expr → Bool) : Expr → Bool
  | .IfExp c a b _ => rc c && ra a && rb b
  | _ => false
def vChain (ra rb rc : Expr → Bool) (o1 o2 : MG.Op2) : Expr → Bool
  | .Compare a [op, op'] [b, c] _ => cmpOk op o1 && cmpOk op' o2 && notSet b && notSet c && ra a && rb b && rc c
  | _ => false
section
variable {X : Cx} {M : Mc} {W : WX} {cl : MG.Call} {g : Gm} {k : Nat} {s : Sc} {ca cb cc : MG.C} {es : List Expr}
theorem and_ok {ra rb : Expr → Bool} {e : Expr} (ha : ∀ e, ra e = true → PE X e (tE M W cl ca)) (hb : ∀ e, rb e = true → PE X e (tE M W cl cb)) (h : vAnd ra rb e = true) : PE X e (tE M W cl (.and ca cb)) := by
  unfold vAnd at h
  split at h
  · rename_i a b rest pos
    simp only [Bool.and_eq_true] at h
    refine e_and (ha _ h.1) ?_
    cases rest with
    | nil => exact pe_one (hb _ h.2)
    | cons _ _ => exact hb _ h.2
  · cases h
theorem or_ok {ra rb : Expr → Bool} {e : Expr} (ha : ∀ e, ra e = true → PE X e (tE M W cl ca)) (hb : ∀ e, rb e = true → PE X e (tE M W cl cb)) (h : vOr ra rb e = true) : PE X e (tE M W cl (.or ca cb)) := by
  unfold vOr at h
  split at h
  · rename_i a b rest pos
    simp only [Bool.and_eq_true] at h
    refine e_or (ha _ h.1) ?_
    cases rest with
    | nil => exact pe_one (hb _ h.2)
    | cons _ _ => exact hb _ h.2
  · cases h
/-- a test of and, or whatever its whole is -/
theorem pw_of_pt {e : Expr} {t : TT} (h : PT X e t) (hb : ∃ op vs pos, e = .BoolOp op vs pos) : PW X e t := by
  obtain ⟨op, vs, pos, rfl⟩ := hb
  exact ⟨fun wh pins s σ H Q I q => h.run pins s σ H Q I q⟩
theorem and_t {ra rb : Expr → Bool} {e : Expr} (ha : ∀ e, ra e = true → PT X e (tB (tE M W cl ca))) (hb : ∀ e, rb e = true → PT X e (tB (tE M W cl cb))) (h : vAnd ra rb e = true) : PT X e (tB (tE M W cl (.and ca cb))) := by
  unfold vAnd at h
  split at h
  · rename_i a b rest pos
    simp only [Bool.and_eq_true] at h
    refine (w_and (ha _ h.1) ?_).pt
    cases rest with
    | nil => exact pw_and1 (hb _ h.2)
    | cons _ _ => exact pw_of_pt (hb _ h.2) ⟨_, _, _, rfl⟩
  · cases h
theorem or_t {ra rb : Expr → Bool} {e : Expr} (ha : ∀ e, ra e = true → PT X e (tB (tE M W cl ca))) (hb : ∀ e, rb e = true → PT X e (tB (tE M W cl cb))) (h : vOr ra rb e = true) : PT X e (tB (tE M W cl (.or ca cb))) := by
  unfold vOr at h
  split at h
  · rename_i a b rest pos
    simp only [Bool.and_eq_true] at h
    refine (w_or (ha _ h.1) ?_).pt
    cases rest with
    | nil => exact pw_or1 (hb _ h.2)
    | cons _ _ => exact pw_of_pt (hb _ h.2) ⟨_, _, _, rfl⟩
  · cases h
theorem ite_ok {rc ra rb : Expr → Bool} {e : Expr} (hc : ∀ e, rc e = true → PT X e (tB (tE M W cl cc))) (ha : ∀ e, ra e = true → PE X e (tE M W cl ca)) (hb : ∀ e, rb e = true → PE X e (tE M W cl cb)) (h : vIte rc ra rb e = true) : PE X e (tE M W cl (.ite cc ca cb)) := by
  unfold vIte at h
  split at h
  · simp only [Bool.and_eq_true] at h
    exact e_ite (hc _ h.1.1) (ha _ h.1.2) (hb _ h.2)
  · cases h
theorem ite_t {rc ra rb : Expr → Bool} {e : Expr} (hc : ∀ e, rc e = true → PT X e (tB (tE M W cl cc))) (ha : ∀ e, ra e = true → PT X e (tB (tE M W cl ca))) (hb : ∀ e, rb e = true → PT X e (tB (tE M W cl cb))) (h : vIte rc ra rb e = true) : PT X e (tB (tE M W cl (.ite cc ca cb))) := by
  unfold vIte at h
  split at h
  · simp only [Bool.and_eq_true] at h
    exact t_ite (hc _ h.1.1) (ha _ h.1.2) (hb _ h.2)
  · cases h
theorem last_of {op op' : CmpOp} {b c : Expr} (h : notSet c = true) : lastMarks [op, op'] [b, c] = false := marks_of h op'
theorem chain_ok (C : CxOk X M W cl g k s) {ra rb rc : Expr → Bool} {o1 o2 : MG.Op2} {e : Expr} (ha : ∀ e, ra e = true → PE X e (tE M W cl ca)) (hb : ∀ e, rb e = true → PE X e (tE M W cl cb)) (hc : ∀ e, rc e = true → PE X e (tE M W cl cc)) (h : vChain ra rb rc o1 o2 e = true) : PE X e (tE M W cl (.chain o1 o2 ca cb cc)) := by
  unfold vChain at h
  split at h
  · simp only [Bool.and_eq_true] at h
    obtain ⟨⟨⟨⟨⟨⟨h1, h2⟩, h3⟩, h4⟩, h5⟩, h6⟩, h7⟩ := h
    exact e_chain (cmp_ok C h1) (cmp_ok C h2) (last_of h4) (ha _ h5) (hb _ h6) (hc _ h7)
  · cases h
theorem chain_t (C : CxOk X M W cl g k s) {ra rb rc : Expr → Bool} {o1 o2 : MG.Op2} {e : Expr} (ha : ∀ e, ra e = true → PE X e (tE M W cl ca)) (hb : ∀ e, rb e = true → PE X e (tE M W cl cb)) (hc : ∀ e, rc e = true → PE X e (tE M W cl cc)) (h : vChain ra rb rc o1 o2 e = true) : PT X e (tB (tE M W cl (.chain o1 o2 ca cb cc))) := by
  unfold vChain at h
  split at h
  · simp only [Bool.and_eq_true] at h
    obtain ⟨⟨⟨⟨⟨⟨h1, h2⟩, h3⟩, h4⟩, h5⟩, h6⟩, h7⟩ := h
    exact t_chain (cmp_ok C h1) (cmp_ok C h2) (last_of h4) (ha _ h5) (hb _ h6) (hc _ h7)
  · cases h
end

/-! ### calls -/
def callOf : Expr → Option (PySem.Str × List Expr)
  | .Call (.Name x _) args [] _ => some (x, args)
  | _ => none
def nameOf : Expr → Option PySem.Str
  | .Name x _ => some x
  | _ => none
theorem callOf_of {e : Expr} {x : PySem.Str} {args : List Expr} (h : callOf e = some (x, args)) : ∃ p pos, e = .Call (.Name x p) args [] pos := by
  unfold callOf at h
  split at h
  · cases h; exact ⟨_, _, rfl⟩
  · cases h
theorem nameOf_of {e : Expr} {x : PySem.Str} (h : nameOf e = some x) : ∃ p, e = .Name x p := by
  unfold nameOf at h
  split at h
  · cases h; exact ⟨_, rfl⟩
  · cases h
def isi (g : Gm) (s : Sc) (ar : List Expr → Bool) (T : PySem.Str) (x : PySem.Str) (args : List Expr) : Bool :=
  nm g s x "isinstance" && (match args with
    | [a, b] => (match nameOf b with | some y => nm g s y T | none => false) && ar [a]
    | _ => false)
def tlOf : Expr → Option (PySem.Str × PySem.Str)
  | .Tuple [.Name x _, .Name y _] _ _ => some (x, y)
  | _ => none
theorem tlOf_of {e : Expr} {x y : PySem.Str} (h : tlOf e = some (x, y)) : ∃ p q kk r, e = .Tuple [.Name x p, .Name y q] kk r := by
  unfold tlOf at h
  split at h
  · cases h; exact ⟨_, _, _, _, rfl⟩
  · cases h
def ne (l : List Expr) : Bool := !l.isEmpty
def vBi (g : Gm) (s : Sc) (ar : List Expr → Bool) (f : MG.Bi) (own : Bool) (e : Expr) : Bool :=
  match callOf e with
  | none => false
  | some (x, args) => match f with
    | .len => nm g s x "len" && ne args && ar args
    | .tuple => nm g s x "tuple" && ne args && ar args
    | .list => nm g s x "list" && ne args && ar args
    | .int => nm g s x "int" && ne args && ar args
    | .max => nm g s x "max" && ne args && ar args
    | .min => nm g s x "min" && ne args && ar args
    | .sorted => nm g s x "sorted" && ne args && ar args
    | .isInt => !own && isi g s ar "int" x args
    | .isBool => !own && isi g s ar "bool" x args
    | .isStr => !own && isi g s ar "str" x args
    | .isTup => !own && isi g s ar "tuple" x args
    | .isLst => !own && isi g s ar "list" x args
    | .isTL => !own && nm g s x "isinstance" && (match args with
      | [a, b] => (match tlOf b with | some (y, z) => nm g s y "tuple" && nm g s z "list" | none => false) && ar [a]
      | _ => false)
    | .range => nm g s x "list" && (match args with
      | [b] => (match callOf b with | some (y, [a]) => nm g s y "range" && ar [a] | _ => false)
      | _ => false)
    | .zip => !own && nm g s x "list" && (match args with
      | [b] => (match callOf b with | some (y, [a, a']) => nm g s y "zip" && ar [a, a'] | _ => false)
      | _ => false)
    | _ => false
section
variable {X : Cx} {M : Mc} {W : WX} {cl : MG.Call} {g : Gm} {k : Nat} {s : Sc} {c ca cb cc : MG.C} {es : List Expr}
theorem ne_of_l {l : List Expr} (h : ne l = true) : ∃ a r, l = a :: r := by
  cases l with
  | nil => cases h
  | cons a r => exact ⟨a, r, rfl⟩
theorem callB_ok (C : CxOk X M W cl g k s) {ar : List Expr → Bool} (har : ∀ es, ar es = true → AOk X M W cl c es) {f : MG.Bi} {own : Bool} {x : PySem.Str} {args : List Expr} {p pos : Pos} {n : PySem.Str} {id : String} (h : (nm g s x n && ne args && ar args) = true)
    (hc : CallR X (.builtin id) (rL M (MG.biV M.G own f))) (hv : bootBuiltins n = some (.builtin id)) (hx : n ≠ "__name__") (hdb : (n == ("__debug__" : PySem.Str)) = false) : PE X (.Call (.Name x p) args [] pos) (tE M W cl (.bi f own c)) := by
  simp only [Bool.and_eq_true] at h
  obtain ⟨⟨h1, h2⟩, h3⟩ := h
  obtain ⟨rfl, hg, hm⟩ := nm_of C h1
  have A := har _ h3
  obtain ⟨a, r, rfl⟩ := ne_of_l h2
  have ns : notStar a = true ∧ r.all notStar = true := by simpa [-List.all_eq_true] using A.ns
  exact e_callB A.argc hc hg hm hv hx hdb (star_cons ns.1 _ _) (back_any ns.2) A.pa
theorem callT_ok (C : CxOk X M W cl g k s) {ar : List Expr → Bool} (har : ∀ es, ar es = true → AOk X M W cl c es) {f : MG.Bi} {own : Bool} {x : PySem.Str} {args : List Expr} {p pos : Pos} {n : PySem.Str} {T : String} (h : (nm g s x n && ne args && ar args) = true)
    (hc : CallR X (.type T) (rL M (MG.biV M.G own f))) (hv : bootBuiltins n = some (.type T)) (hx : n ≠ "__name__") (hdb : (n == ("__debug__" : PySem.Str)) = false) : PE X (.Call (.Name x p) args [] pos) (tE M W cl (.bi f own c)) := by
  simp only [Bool.and_eq_true] at h
  obtain ⟨⟨h1, h2⟩, h3⟩ := h
  obtain ⟨rfl, hg, hm⟩ := nm_of C h1
  have A := har _ h3
  obtain ⟨a, r, rfl⟩ := ne_of_l h2
  have ns : notStar a = true ∧ r.all notStar = true := by simpa [-List.all_eq_true] using A.ns
  exact e_callTy A.argc hc hg hm hv hx hdb (star_cons ns.1 _ _) (back_any ns.2) A.pa
theorem isi_ok (C : CxOk X M W cl g k s) {ar : List Expr → Bool} (har : ∀ es, ar es = true → AOk X M W cl c es) {f : MG.Bi} {own : Bool} {x : PySem.Str} {args : List Expr} {p pos : Pos} {n : PySem.Str} {T : String} {gg : MG.Store → MG.D → Bool} (h : (!own && isi g s ar n x args) = true)
    (hg : ∀ (st : MG.Store) (d : MG.D) (t : Value), tyD M st d = some t → PySem.W.kitOne X.K t (.type T) = some (gg st d)) (hf : ∀ d st, MG.biV M.G false f [d] st = MG.seen st d (gg st d)) (hv : bootBuiltins n = some (.type T)) (hx : n ≠ "__name__") (hdb : (n == ("__debug__" : PySem.Str)) = false) :
    PE X (.Call (.Name x p) args [] pos) (tE M W cl (.bi f own c)) := by
  unfold isi at h
  simp only [Bool.and_eq_true] at h
  obtain ⟨ho, h1, h2⟩ := h
  have ho : own = false := by simpa using ho
  subst ho
  obtain ⟨rfl, gi, mi⟩ := nm_of C h1
  split at h2
  · rename_i a b
    simp only [Bool.and_eq_true] at h2
    obtain ⟨h2, h3⟩ := h2
    split at h2
    · rename_i y ey
      obtain ⟨p2, rfl⟩ := nameOf_of ey
      obtain ⟨rfl, gx, mx⟩ := nm_of C h2
      cases har _ h3 with
      | cons n1 n2 n3 =>
        cases n3
        exact e_isi C.G.B hg hf gi mi gx mx hv hx hdb (star_cons n1 _ _) n2
    · cases h2
  · cases h2
theorem bi_ok (C : CxOk X M W cl g k s) {ar : List Expr → Bool} (har : ∀ es, ar es = true → AOk X M W cl c es) {f : MG.Bi} {own : Bool} {e : Expr} (h : vBi g s ar f own e = true) : PE X e (tE M W cl (.bi f own c)) := by
  have B := C.G.B
  have hc := C.G.calm
  unfold vBi at h
  split at h
  · cases h
  · rename_i x args ec
    obtain ⟨p, pos, rfl⟩ := callOf_of ec
    split at h
    · exact callB_ok C har h (cv_len B) rfl (by decide) (by decide)
    · exact callT_ok C har h (cv_tuple B) rfl (by decide) (by decide)
    · exact callT_ok C har h (cv_list B) rfl (by decide) (by decide)
    · exact callT_ok C har h (cv_int B) rfl (by decide) (by decide)
    · exact callB_ok C har h (cv_max B hc) rfl (by decide) (by decide)
    · exact callB_ok C har h (cv_min B hc) rfl (by decide) (by decide)
    · exact callB_ok C har h (cv_sorted B) rfl (by decide) (by decide)
    · exact isi_ok C har h (hg_int B) (fun _ _ => rfl) rfl (by decide) (by decide)
    · exact isi_ok C har h (hg_bool B) (fun _ _ => rfl) rfl (by decide) (by decide)
    · exact isi_ok C har h (hg_str B) (fun _ _ => rfl) rfl (by decide) (by decide)
    · exact isi_ok C har h (hg_tup B) (fun _ _ => rfl) rfl (by decide) (by decide)
    · exact isi_ok C har h (hg_lst B) (fun _ _ => rfl) rfl (by decide) (by decide)
    · simp only [Bool.and_eq_true] at h
      obtain ⟨⟨ho, h1⟩, h2⟩ := h
      have ho : own = false := by simpa using ho
      subst ho
      obtain ⟨rfl, gi, mi⟩ := nm_of C h1
      split at h2
      · rename_i a b
        simp only [Bool.and_eq_true] at h2
        obtain ⟨h2, h3⟩ := h2
        split at h2
        · rename_i y z ey
          obtain ⟨p3, p4, kk, p2, rfl⟩ := tlOf_of ey
          simp only [Bool.and_eq_true] at h2
          obtain ⟨rfl, g1, m1⟩ := nm_of C h2.1
          obtain ⟨rfl, g2, m2⟩ := nm_of C h2.2
          cases har _ h3 with
          | cons n1 n2 n3 =>
            cases n3
            exact e_isiTL B gi mi g1 m1 g2 m2 (star_cons n1 _ _) n2
        · cases h2
      · cases h2
    · simp only [Bool.and_eq_true] at h
      obtain ⟨h1, h2⟩ := h
      obtain ⟨rfl, g1, m1⟩ := nm_of C h1
      split at h2
      · split at h2
        · rename_i b y a eb
          obtain ⟨p2, pos2, rfl⟩ := callOf_of eb
          simp only [Bool.and_eq_true] at h2
          obtain ⟨rfl, g2, m2⟩ := nm_of C h2.1
          cases har _ h2.2 with
          | cons n1 n2 n3 =>
            cases n3
            exact e_listRg hc g1 m1 g2 m2 (star_cons n1 _ _) n2
        · cases h2
      · cases h2
    · simp only [Bool.and_eq_true] at h
      obtain ⟨⟨h0, h1⟩, h2⟩ := h
      have h0 : own = false := by simpa using h0
      subst h0
      obtain ⟨rfl, g1, m1⟩ := nm_of C h1
      split at h2
      · split at h2
        · rename_i b y a a' eb
          obtain ⟨p2, pos2, rfl⟩ := callOf_of eb
          simp only [Bool.and_eq_true] at h2
          obtain ⟨rfl, g2, m2⟩ := nm_of C h2.1
          have A := har _ h2.2
          have ns : notStar a = true ∧ notStar a' = true := by simpa using A.ns
          exact e_listZip B.hK A.argc hc g1 m1 g2 m2 (star_cons ns.1 _ _) (back_any (by simp [ns.2])) A.pa
        · cases h2
      · cases h2
    · cases h
end
end MGS

set_option Elab.async false
set_option linter.all false
set_option maxRecDepth 100000
set_option maxHeartbeats 8000000
/-! The checker, second part: methods, slices, calls of the text's defs, comprehensions; the whole of it. -/
namespace MGS
open PySem PySem.Spec PyProof.Rows L2

/-! ### methods of built-ins -/
def methOf : Expr → Option (Expr × PySem.Str × List Expr)
  | .Call (.Attribute o m apos) args [] pos => if apos.endLine == pos.line then some (o, m, args) else none
  | _ => none
theorem methOf_of {e o : Expr} {m : PySem.Str} {args : List Expr} (h : methOf e = some (o, m, args)) : ∃ apos pos, e = .Call (.Attribute o m apos) args [] pos ∧ (apos.endLine == pos.line) = true := by
  unfold methOf at h
  split at h
  · split at h
    · rename_i hp; cases h; exact ⟨_, _, rfl, hp⟩
    · cases h
  · cases h
def bmName : MG.Bi → Option PySem.Str
  | .append => some "append"
  | .extend => some "extend"
  | .pop => some "pop"
  | .popAt => some "pop"
  | .get1 => some "get"
  | .get2 => some "get"
  | .upd => some "update"
  | _ => none
def vBm (ro : Expr → Bool) (ar : List Expr → Bool) (f : MG.Bi) (e : Expr) : Bool :=
  match methOf e with
  | none => false
  | some (o, m, args) => decide (bmName f = some m) && noSuper o && decide (args.length < 29) && ro o && ar args
section
variable {X : Cx} {M : Mc} {W : WX} {cl : MG.Call} {g : Gm} {k : Nat} {s : Sc} {c ca cb cc : MG.C} {es : List Expr}
theorem bm_gen {T id : String} {m : PySem.Str} {f : MG.Bi} {own : Bool} {o : Expr} {args : List Expr} {apos pos : Pos} (A : AOk X M W cl c args) (ho : PE X o (tE M W cl ca)) (hs : noSuper o = true) (hl : args.length < 29) (hp : (apos.endLine == pos.line) = true)
    (ht : TyOk X T (tyM M f)) (pa : PlainAttrs T) (slot : Slot T m id) (hty : typeOf (.builtin id) = pure (.type "method_descriptor")) (hm : MtR X id (fun x xs H Q => rL M (MG.biV M.G own f) (x :: xs) H Q)) : PE X (.Call (.Attribute o m apos) args [] pos) (tE M W cl (.bm f own ca c)) := by
  have ar := A.argc
  have ns := A.ns
  have pa' := A.pa
  cases A with
  | nil => exact e_bm0 ht pa slot hty hm (base_of hs _ _ _) hp ho
  | @cons a es ca' cb' h1 h2 h3 =>
    have ns' : notStar a = true ∧ es.all notStar = true := by simpa [-List.all_eq_true] using ns
    exact e_bm ar ht pa slot hty hm (base_of hs _ _ _) (back_few ns (by omega)) hp (star_cons ns'.1 _ _) (back_any ns'.2) ho pa'
theorem bm_ok (C : CxOk X M W cl g k s) {ro : Expr → Bool} {ar : List Expr → Bool} (hro : ∀ e, ro e = true → PE X e (tE M W cl ca)) (har : ∀ es, ar es = true → AOk X M W cl c es) {f : MG.Bi} {own : Bool} {e : Expr} (h : vBm ro ar f e = true) : PE X e (tE M W cl (.bm f own ca c)) := by
  have B := C.G.B
  have hu := C.un
  unfold vBm at h
  split at h
  · cases h
  · rename_i o m args em
    obtain ⟨apos, pos, rfl, hp⟩ := methOf_of em
    simp only [Bool.and_eq_true, decide_eq_true_eq] at h
    obtain ⟨⟨⟨⟨h1, h2⟩, h3⟩, h4⟩, h5⟩ := h
    have A := har _ h5
    have O := hro _ h4
    have dct : ∀ f, (f = .get1 ∨ f = .get2 ∨ f = .upd) → ∀ st d, MG.recv f st d = true → (∃ n, d = .gd n) ∨ ∃ r, d = .ref r ∧ ((∃ kvs, st[r]? = some (.dK kvs)) ∨ ∃ kvs, st[r]? = some (.dT kvs)) := by
      intro f hf st d hd
      rcases hf with rfl | rfl | rfl <;> (
        cases d with
        | gd n => exact .inl ⟨_, rfl⟩
        | ref r =>
          simp only [MG.recv] at hd
          split at hd
          · rename_i e; exact .inr ⟨_, rfl, .inl ⟨_, e⟩⟩
          · rename_i e; exact .inr ⟨_, rfl, .inr ⟨_, e⟩⟩
          · cases hd
        | _ => simp [MG.recv] at hd)
    cases f
    case append => cases h1; exact bm_gen A O h2 h3 hp (ty_list fun st d h => h) F.plainAttrs_list F.slot_list_append (by kernel_rfl) (mv_append B)
    case extend => cases h1; exact bm_gen A O h2 h3 hp (ty_list fun st d h => h) F.plainAttrs_list F.slot_list_extend (by kernel_rfl) (mv_extend B)
    case pop => cases h1; exact bm_gen A O h2 h3 hp (ty_list fun st d h => h) F.plainAttrs_list F.slot_list_pop (by kernel_rfl) (mv_pop B)
    case popAt => cases h1; exact bm_gen A O h2 h3 hp (ty_list fun st d h => h) F.plainAttrs_list F.slot_list_pop (by kernel_rfl) (mv_popAt B)
    case get1 => cases h1; exact bm_gen A O h2 h3 hp (ty_dict B (dct _ (by simp))) F.plainAttrs_dict F.slot_dict_get (by kernel_rfl) (mv_get1 B (by omega))
    case get2 => cases h1; exact bm_gen A O h2 h3 hp (ty_dict B (dct _ (by simp))) F.plainAttrs_dict F.slot_dict_get (by kernel_rfl) (mv_get2 B (by omega))
    case upd => cases h1; exact bm_gen A O h2 h3 hp (ty_dict B (dct _ (by simp))) F.plainAttrs_dict F.slot_dict_update (by kernel_rfl) (mv_upd B)
    all_goals cases h1
end

/-! ### slices, fields -/
def isNonK : MG.C → Bool
  | .k .non => true
  | _ => false
def partB (c : MG.C) (r : Expr → Bool) : Option Expr → Bool
  | none => isNonK c
  | some e => !isNonK c && r e
def vSlc (ra rl rh : Expr → Bool) (clo chi : MG.C) : Expr → Bool
  | .Subscript a (.Slice lo hi none _) _ => ra a && partB clo rl lo && partB chi rh hi
  | _ => false
def isOne : Expr → Bool
  | .UnaryOp .USub (.Constant (.int i) _ _) _ => decide (i = 1)
  | _ => false
def vRev (ra : Expr → Bool) : Expr → Bool
  | .Subscript a (.Slice none none (some e) _) _ => isOne e && ra a
  | _ => false
def vFld (g : Gm) (ra : Expr → Bool) (f : String) : Expr → Bool
  | .Attribute a x _ => decide (x = sOf f) && g.flds.contains f && noSuper a && ra a
  | _ => false
section
variable {X : Cx} {M : Mc} {W : WX} {cl : MG.Call} {g : Gm} {k : Nat} {s : Sc} {c ca cb cc clo chi : MG.C} {es : List Expr}
theorem part_ok {r : Expr → Bool} (hr : ∀ e, r e = true → PE X e (tE M W cl c)) {e : Option Expr} (h : partB c r e = true) : PartOk X M W cl c e := by
  unfold partB at h
  split at h
  · unfold isNonK at h
    split at h
    · exact .none
    · cases h
  · simp only [Bool.and_eq_true] at h
    refine .some (fun d e1 e2 => ?_) (hr _ h.2)
    subst e1 e2
    exact absurd h.1 (by decide)
theorem slc_ok (C : CxOk X M W cl g k s) {ra rl rh : Expr → Bool} {own : Bool} {e : Expr} (ha : ∀ e, ra e = true → PE X e (tE M W cl ca)) (hl : ∀ e, rl e = true → PE X e (tE M W cl clo)) (hh : ∀ e, rh e = true → PE X e (tE M W cl chi)) (h : vSlc ra rl rh clo chi e = true) : PE X e (tE M W cl (.slc own ca clo chi)) := by
  unfold vSlc at h
  split at h
  · simp only [Bool.and_eq_true] at h
    exact e_slc C.G.B.hK (ha _ h.1.1) (part_ok hl h.1.2) (part_ok hh h.2)
  · cases h
theorem rev_ok {ra : Expr → Bool} {own : Bool} {e : Expr} (ha : ∀ e, ra e = true → PE X e (tE M W cl ca)) (h : vRev ra e = true) : PE X e (tE M W cl (.rev own ca)) := by
  unfold vRev at h
  split at h
  · simp only [Bool.and_eq_true] at h
    obtain ⟨h1, h2⟩ := h
    unfold isOne at h1
    split at h1
    · cases of_decide_eq_true h1
      exact e_rev (ha _ h2)
    · cases h1
  · cases h
theorem fld_ok (C : CxOk X M W cl g k s) {ra : Expr → Bool} {f : String} {e : Expr} (ha : ∀ e, ra e = true → PE X e (tE M W cl ca)) (h : vFld g ra f e = true) : PE X e (tE M W cl (.fld ca f)) := by
  unfold vFld at h
  split at h
  · simp only [Bool.and_eq_true, decide_eq_true_eq] at h
    obtain ⟨⟨⟨rfl, h2⟩, h3⟩, h4⟩ := h
    exact e_fld C.G.B (C.G.flds f (by simpa using h2)) (base_of h3 _ _ _) (ha _ h4)
  · cases h
end

/-! ### the text's own defs -/
def vCall (g : Gm) (s : Sc) (ar : List Expr → Bool) (f : String) (e : Expr) : Bool :=
  match callOf e with
  | none => false
  | some (x, args) => decide (x = sOf f) && g.fns.contains f && glb s x && nodbg x && ar args
def vMake (g : Gm) (s : Sc) (ar : List Expr → Bool) (f : String) (e : Expr) : Bool :=
  match callOf e with
  | none => false
  | some (x, args) => decide (x = sOf f) && g.makes.contains f && glb s x && nodbg x && ne args && ar args
def vMeth (g : Gm) (ro : Expr → Bool) (ar : List Expr → Bool) (cn mn : String) (e : Expr) : Bool :=
  match methOf e with
  | none => false
  | some (o, m, args) => decide (m = sOf mn) && g.meths.contains (cn, mn) && noSuper o && decide (args.length < 29) && ro o && ar args
section
variable {X : Cx} {M : Mc} {W : WX} {cl : MG.Call} {g : Gm} {k : Nat} {s : Sc} {c ca cb cc clo chi : MG.C} {es : List Expr}
theorem call_ok (C : CxOk X M W cl g k s) {ar : List Expr → Bool} (har : ∀ es, ar es = true → AOk X M W cl c es) {f : String} {e : Expr} (h : vCall g s ar f e = true) : PE X e (tE M W cl (.call f c)) := by
  unfold vCall at h
  split at h
  · cases h
  · rename_i x args ec
    obtain ⟨p, pos, rfl⟩ := callOf_of ec
    simp only [Bool.and_eq_true, decide_eq_true_eq] at h
    obtain ⟨⟨⟨⟨rfl, h2⟩, h3⟩, h4⟩, h5⟩ := h
    obtain ⟨A, F, hm⟩ := C.G.fns f (by simpa using h2)
    have R := C.G.room.mono (Nat.le_succ k)
    have AA := har _ h5
    have ar := AA.argc
    have ns := AA.ns
    have pa' := AA.pa
    cases AA with
    | nil => exact e_call0 F R (glb_of C h3) hm C.hx (nodbg_of h4).1
    | @cons a es ca' cb' n1 n2 n3 =>
      have ns' : notStar a = true ∧ es.all notStar = true := by simpa [-List.all_eq_true] using ns
      exact e_call ar F R (glb_of C h3) hm C.hx (nodbg_of h4).1 (star_cons ns'.1 _ _) (back_any ns'.2) pa'
theorem make_ok (C : CxOk X M W cl g k s) {ar : List Expr → Bool} (har : ∀ es, ar es = true → AOk X M W cl c es) {f : String} {e : Expr} (h : vMake g s ar f e = true) : PE X e (tE M W cl (.make f c)) := by
  unfold vMake at h
  split at h
  · cases h
  · rename_i x args ec
    obtain ⟨p, pos, rfl⟩ := callOf_of ec
    simp only [Bool.and_eq_true, decide_eq_true_eq] at h
    obtain ⟨⟨⟨⟨⟨rfl, h2⟩, h3⟩, h4⟩, h5⟩, h6⟩ := h
    obtain ⟨Cc, A, hC, F, K, hm⟩ := C.G.makes f (by simpa using h2)
    have AA := har _ h6
    obtain ⟨a, r, rfl⟩ := ne_of_l h5
    have ns' : notStar a = true ∧ r.all notStar = true := by simpa [-List.all_eq_true] using AA.ns
    exact e_make hC AA.argc F K C.G.room (glb_of C h3) hm C.hx (nodbg_of h4).1 (star_cons ns'.1 _ _) (back_any ns'.2) AA.pa
theorem meth_ok (C : CxOk X M W cl g k s) {ro : Expr → Bool} {ar : List Expr → Bool} (hro : ∀ e, ro e = true → PE X e (tE M W cl ca)) (har : ∀ es, ar es = true → AOk X M W cl c es) {cn mn : String} {e : Expr} (h : vMeth g ro ar cn mn e = true) : PE X e (tE M W cl (.meth cn mn ca c)) := by
  unfold vMeth at h
  split at h
  · cases h
  · rename_i o m args em
    obtain ⟨apos, pos, rfl, hp⟩ := methOf_of em
    simp only [Bool.and_eq_true, decide_eq_true_eq] at h
    obtain ⟨⟨⟨⟨⟨rfl, h2⟩, h3⟩, h4⟩, h5⟩, h6⟩ := h
    obtain ⟨Cc, A, hC, F, hcl, hme⟩ := C.G.meths (cn, mn) (by simpa using h2)
    have R := C.G.room.mono (Nat.le_succ k)
    have AA := har _ h6
    have ar := AA.argc
    have ns := AA.ns
    have pa' := AA.pa
    obtain ⟨pl, ht⟩ := meth_of (m := sOf mn) (env := X.env) h3 ns (by omega) hp
    cases AA with
    | nil => exact e_meth0 hC F hcl hme R C.hx ht (hro _ h5)
    | @cons a es ca' cb' n1 n2 n3 =>
      have ns' : notStar a = true ∧ es.all notStar = true := by simpa [-List.all_eq_true] using ns
      exact e_meth hC ar F hcl hme R C.hx (star_cons ns'.1 _ _) (back_any ns'.2) ht (hro _ h5) pa'
end

/-! ### targets of loops -/
inductive Tg where
  | one (e : Expr)
  | many (es : List Expr)
def repG : MG.C → Sc → Tg → Bool
  | .var i, s, .one (.Name x _) => decide (s.N[i]? = some x) && locB s x
  | .nil, _, .many [] => true
  | .cons t ts, s, .many (e :: es) => notStar e && repG t s (.one e) && repG ts s (.many es)
  | .cons t ts, s, .one (.Tuple (e :: es) _ _) => notStar e && repG t s (.one e) && repG ts s (.many es)
  | _, _, _ => false
def GHolds (X : Cx) (M : Mc) (t : MG.C) : Tg → Prop
  | .one e => PG X e (tG M t)
  | .many es => PGs X es (tGs M t) ∧ argc t = some es.length ∧ es.all notStar = true
theorem repG_ok {X : Cx} {M : Mc} {W : WX} {cl : MG.Call} {g : Gm} {k : Nat} {s : Sc} (C : CxOk X M W cl g k s) : ∀ (t : MG.C) (w : Tg), repG t s w = true → GHolds X M t w := by
  intro t
  induction t with
  | var i =>
    intro w h
    cases w with
    | one e =>
      cases e <;> first | (simp [repG] at h; done) | skip
      rename_i x p
      simp only [repG, Bool.and_eq_true, decide_eq_true_eq] at h
      exact g_var (by rw [C.N]; exact C.nd) (by rw [C.N]; exact h.1) (loc_of C h.2).1 (loc_of C h.2).2
    | many es => cases es <;> simp [repG] at h
  | nil =>
    intro w h
    cases w with
    | one e => cases e <;> simp [repG] at h
    | many es =>
      cases es with
      | nil => exact ⟨gs_nil, rfl, rfl⟩
      | cons _ _ => simp [repG] at h
  | cons t ts ih1 ih2 =>
    intro w h
    have key : ∀ e es, (notStar e && repG t s (.one e) && repG ts s (.many es)) = true → PGs X (e :: es) (tGs M (.cons t ts)) ∧ argc (.cons t ts) = some (e :: es).length ∧ (e :: es).all notStar = true := by
      intro e es h
      simp only [Bool.and_eq_true] at h
      obtain ⟨⟨h1, h2⟩, h3⟩ := h
      obtain ⟨q1, q2, q3⟩ := ih2 (.many es) h3
      refine ⟨gs_cons (asg_cons h1 _ _) (ih1 (.one e) h2) q1, ?_, by rw [List.all_cons, h1, q3]; rfl⟩
      show (argc ts).map _ = _
      rw [q2]; rfl
    cases w with
    | one e =>
      cases e <;> first | (simp [repG] at h; done) | skip
      rename_i es kk p
      cases es with
      | nil => simp [repG] at h
      | cons e es =>
        obtain ⟨q1, q2, q3⟩ := key e es (by simpa [repG] using h)
        obtain ⟨a1, a2⟩ := asg_each (env := X.env) q3
        exact g_tup C.G.B.hK C.G.calm q2 a1 a2 q1
    | many es =>
      cases es with
      | nil => simp [repG] at h
      | cons e es => exact key e es (by simpa [repG] using h)
  | _ =>
    intro w h
    cases w with
    | one e => cases e <;> simp [repG] at h
    | many es => cases es <;> simp [repG] at h

/-! ### comprehensions -/
def ownOf (s : Sc) (vs : List Nat) : List (PySem.Str × Nat) := vs.map fun i => ((s.N[i]?).getD (sOf ""), i)
theorem ownOf_snd (s : Sc) (vs : List Nat) : (ownOf s vs).map (·.2) = vs := by
  unfold ownOf
  rw [List.map_map]
  exact List.map_id _
def isTrueK : MG.C → Bool
  | .k (.bl true) => true
  | _ => false
def condB (c : MG.C) (r : Expr → Bool) : List Expr → Bool
  | [] => isTrueK c
  | [e] => r e
  | _ => false
/-- what a comprehension's parts are, and whether all of it is as the core tells -/
def vComp (s : Sc) (vs : List Nat) (t cond : MG.C) (ri : Expr → Expr → Bool) (rc re : Sc → Expr → Bool) : Expr → Bool
  | .ListComp elt [⟨tg, iter, ifs, a⟩] scope _ => decide (a = 0) && blkC s.N s.sc scope (ownOf s vs) && (tv t).all (fun j => vs.contains j) && notSet iter && ri tg iter && repG t (s.blk scope) (.one tg) && condB cond (rc (s.blk scope)) ifs && re (s.blk scope) elt
  | _ => false
structure CompOk (X : Cx) (M : Mc) (W : WX) (cl : MG.Call) (s : Sc) (vs : List Nat) (t it cond ce : MG.C) (elt tg iter : Expr) (ifs : List Expr) (scope : Scope) : Prop where
  ok : BlkOk X.N X.env.scope scope (ownOf s vs)
  hv : ∀ j ∈ tv t, j ∈ (ownOf s vs).map (·.2)
  hs : ∀ x, foldedSetIterable iter X.env x = pure x
  hi : PI X tg iter (tI M W cl it)
  hg : ∀ (s : Shared) (H : Hp) (C : Addr) (cls : List (PySem.Str × Addr)) (fp : List Addr), PG (X.blk s H scope (compEnvC scope cls C X.env) fp) tg (tG M t)
  ht : ∀ (s : Shared) (H : Hp) (C : Addr) (cls : List (PySem.Str × Addr)) (fp : List Addr), PTs (X.blk s H scope (compEnvC scope cls C X.env) fp) ifs (tB (tE M WF cl cond))
  he : ∀ (s : Shared) (H : Hp) (C : Addr) (cls : List (PySem.Str × Addr)) (fp : List Addr), PE (X.blk s H scope (compEnvC scope cls C X.env) fp) elt (tE M WF cl ce)
section
variable {X : Cx} {M : Mc} {W : WX} {cl : MG.Call} {g : Gm} {k : Nat} {s : Sc} {t it cond ce : MG.C}
theorem comp_parts (C : CxOk X M W cl g k s) {vs : List Nat} {ri : Expr → Expr → Bool} {rc re : Sc → Expr → Bool} {e : Expr} (hi : ∀ tg e, ri tg e = true → PI X tg e (tI M W cl it))
    (hc : ∀ X' s', CxOk X' M WF cl g k s' → ∀ e, rc s' e = true → PT X' e (tB (tE M WF cl cond))) (he : ∀ X' s', CxOk X' M WF cl g k s' → ∀ e, re s' e = true → PE X' e (tE M WF cl ce)) (h : vComp s vs t cond ri rc re e = true) :
    ∃ elt tg iter ifs scope pos, e = .ListComp elt [⟨tg, iter, ifs, 0⟩] scope pos ∧ CompOk X M W cl s vs t it cond ce elt tg iter ifs scope := by
  unfold vComp at h
  split at h
  · rename_i elt tg iter ifs a scope pos
    simp only [Bool.and_eq_true, decide_eq_true_eq] at h
    obtain ⟨⟨⟨⟨⟨⟨⟨rfl, h1⟩, h2⟩, h3⟩, h4⟩, h5⟩, h6⟩, h7⟩ := h
    refine ⟨elt, tg, iter, ifs, scope, pos, rfl, ?_, ?_, folded_of h3 _, hi _ _ h4, ?_, ?_, ?_⟩
    · rw [C.N, C.sc]; exact blkOk_by h1
    · intro j hj
      rw [ownOf_snd]
      have := List.all_eq_true.mp h2 j hj
      simpa using this
    · intro sh H A cls fp
      exact repG_ok (C.blk sh H scope A cls fp) t (.one tg) h5
    · intro sh H A cls fp
      unfold condB at h6
      split at h6
      · unfold isTrueK at h6
        split at h6
        · exact c_nil
        · cases h6
      · exact pts_one (hc _ _ (C.blk sh H scope A cls fp) _ h6)
      · cases h6
    · intro sh H A cls fp
      exact he _ _ (C.blk sh H scope A cls fp) _ h7
  · cases h
theorem comp_ok (C : CxOk X M W cl g k s) {own : Bool} {vs : List Nat} {ri : Expr → Expr → Bool} {rc re : Sc → Expr → Bool} {e : Expr} (hi : ∀ tg e, ri tg e = true → PI X tg e (tI M W cl it))
    (hc : ∀ X' s', CxOk X' M WF cl g k s' → ∀ e, rc s' e = true → PT X' e (tB (tE M WF cl cond))) (he : ∀ X' s', CxOk X' M WF cl g k s' → ∀ e, re s' e = true → PE X' e (tE M WF cl ce)) (h : vComp s vs t cond ri rc re e = true) : PE X e (tE M W cl (.comp own vs t it cond ce)) := by
  obtain ⟨elt, tg, iter, ifs, scope, pos, rfl, P⟩ := comp_parts C hi hc he h
  have q := e_comp (pos := pos) (own := own) C.G.calm (by rw [C.N]; exact C.nd) P.ok P.hv P.hs P.hi P.hg P.ht P.he
  rw [ownOf_snd] at q
  exact q
end

/-! ### what loops walk -/
def isZeroK : MG.C → Bool
  | .k (.int i) => decide (i = 0)
  | _ => false
def isTup : Expr → Bool
  | .Tuple _ _ _ => true
  | _ => false
def iRng (g : Gm) (s : Sc) (ca : MG.C) (ra rb : Expr → Bool) (tg e : Expr) : Bool :=
  match callOf e with
  | some (x, [b]) => nm g s x "range" && isZeroK ca && notStar b && rb b
  | some (x, [a, b]) => nm g s x "range" && notStar a && notStar b && ra a && rb b
  | _ => false
def iRrng (g : Gm) (s : Sc) (ca : MG.C) (ra rb : Expr → Bool) (tg e : Expr) : Bool :=
  match callOf e with
  | some (x, [r]) => nm g s x "reversed" && (match callOf r with
    | some (y, [b]) => nm g s y "range" && isZeroK ca && notStar b && rb b
    | some (y, [a, b]) => nm g s y "range" && notStar a && notStar b && ra a && rb b
    | _ => false)
  | _ => false
def iEnum (g : Gm) (s : Sc) (ra : Expr → Bool) (tg e : Expr) : Bool :=
  isTup tg && (match callOf e with
  | some (x, [a]) => nm g s x "enumerate" && notStar a && ra a
  | _ => false)
def iZip (g : Gm) (s : Sc) (ra rb : Expr → Bool) (tg e : Expr) : Bool :=
  isTup tg && (match callOf e with
  | some (x, [a, b]) => nm g s x "zip" && notStar a && notStar b && ra a && rb b
  | _ => false)
section
variable {X : Cx} {M : Mc} {W : WX} {cl : MG.Call} {g : Gm} {k : Nat} {s : Sc} {ca cb : MG.C} {tg e : Expr}
theorem tup_of (h : isTup tg = true) : ∃ es kk p, tg = .Tuple es kk p := by
  cases tg <;> first | (cases h; done) | exact ⟨_, _, _, rfl⟩
theorem zero_of (h : isZeroK ca = true) : ca = .k (.int 0) := by
  unfold isZeroK at h
  split at h
  · rw [of_decide_eq_true h]
  · cases h
theorem rng_ok (C : CxOk X M W cl g k s) {ra rb : Expr → Bool} (ha : ∀ e, ra e = true → PE X e (tE M W cl ca)) (hb : ∀ e, rb e = true → PE X e (tE M W cl cb)) (h : iRng g s ca ra rb tg e = true) : PI X tg e (tI M W cl (.rng ca cb)) := by
  unfold iRng at h
  split at h
  · rename_i x b ec
    obtain ⟨p, pos, rfl⟩ := callOf_of ec
    simp only [Bool.and_eq_true] at h
    obtain ⟨⟨⟨h1, h2⟩, h3⟩, h4⟩ := h
    obtain ⟨rfl, gg, mm⟩ := nm_of C h1
    rw [zero_of h2]
    exact i_range1 gg mm (star_one h3 _) (hb _ h4)
  · rename_i x a b ec
    obtain ⟨p, pos, rfl⟩ := callOf_of ec
    simp only [Bool.and_eq_true] at h
    obtain ⟨⟨⟨⟨h1, h2⟩, h3⟩, h4⟩, h5⟩ := h
    obtain ⟨rfl, gg, mm⟩ := nm_of C h1
    exact i_range2 gg mm (star_two h2 h3 _) (star_cons h2 _ _) (star_one h3 _) (ha _ h4) (hb _ h5)
  · cases h
theorem rrng_ok (C : CxOk X M W cl g k s) {ra rb : Expr → Bool} (ha : ∀ e, ra e = true → PE X e (tE M W cl ca)) (hb : ∀ e, rb e = true → PE X e (tE M W cl cb)) (h : iRrng g s ca ra rb tg e = true) : PI X tg e (tI M W cl (.rrng ca cb)) := by
  unfold iRrng at h
  split at h
  · rename_i x r ec
    obtain ⟨p, pos, rfl⟩ := callOf_of ec
    simp only [Bool.and_eq_true] at h
    obtain ⟨h0, h⟩ := h
    obtain ⟨rfl, g0, m0⟩ := nm_of C h0
    split at h
    · rename_i y b ec
      obtain ⟨p2, pos2, rfl⟩ := callOf_of ec
      simp only [Bool.and_eq_true] at h
      obtain ⟨⟨⟨h1, h2⟩, h3⟩, h4⟩ := h
      obtain ⟨rfl, gg, mm⟩ := nm_of C h1
      rw [zero_of h2]
      exact i_rrange1 g0 m0 gg mm (star_cons h3 _ _) (hb _ h4)
    · rename_i y a b ec
      obtain ⟨p2, pos2, rfl⟩ := callOf_of ec
      simp only [Bool.and_eq_true] at h
      obtain ⟨⟨⟨⟨h1, h2⟩, h3⟩, h4⟩, h5⟩ := h
      obtain ⟨rfl, gg, mm⟩ := nm_of C h1
      exact i_rrange2 g0 m0 gg mm (star_cons h2 _ _) (star_cons h3 _ _) (back_any (by simp [h3])) (ha _ h4) (hb _ h5)
    · cases h
  · cases h
theorem enum_ok (C : CxOk X M W cl g k s) {ra : Expr → Bool} (ha : ∀ e, ra e = true → PE X e (tE M W cl ca)) (h : iEnum g s ra tg e = true) : PI X tg e (tI M W cl (.enum ca)) := by
  unfold iEnum at h
  simp only [Bool.and_eq_true] at h
  obtain ⟨h0, h⟩ := h
  obtain ⟨es, kk, p, rfl⟩ := tup_of h0
  split at h
  · rename_i x a ec
    obtain ⟨p, pos, rfl⟩ := callOf_of ec
    simp only [Bool.and_eq_true] at h
    obtain ⟨⟨h1, h2⟩, h3⟩ := h
    obtain ⟨rfl, gg, mm⟩ := nm_of C h1
    exact i_enum C.G.B.hK gg mm (star_one h2 _) (ha _ h3)
  · cases h
theorem zip_ok (C : CxOk X M W cl g k s) {ra rb : Expr → Bool} (ha : ∀ e, ra e = true → PE X e (tE M W cl ca)) (hb : ∀ e, rb e = true → PE X e (tE M W cl cb)) (h : iZip g s ra rb tg e = true) : PI X tg e (tI M W cl (.zip ca cb)) := by
  unfold iZip at h
  simp only [Bool.and_eq_true] at h
  obtain ⟨h0, h⟩ := h
  obtain ⟨es, kk, p, rfl⟩ := tup_of h0
  split at h
  · rename_i x a b ec
    obtain ⟨p, pos, rfl⟩ := callOf_of ec
    simp only [Bool.and_eq_true] at h
    obtain ⟨⟨⟨⟨h1, h2⟩, h3⟩, h4⟩, h5⟩ := h
    obtain ⟨rfl, gg, mm⟩ := nm_of C h1
    exact i_zip C.G.B.hK gg mm (star_cons h2 _ _) (star_one h3 _) (back_any (by simp [h3])) (ha _ h4) (hb _ h5)
  · cases h
end

/-! ### the whole -/
def vTup (ar : List Expr → Bool) : Expr → Bool
  | .Tuple es _ _ => decide (es.length ≤ 1000) && ar es
  | _ => false
def vLst (ar : List Expr → Bool) : Expr → Bool
  | .List es _ => decide (es.length ≤ 1000) && ar es
  | _ => false
def isNilC : MG.C → Bool
  | .nil => true
  | _ => false
def vDict (tk : Bool) (c : MG.C) (pr : List (Option Expr) → List Expr → Bool) : Expr → Bool
  | .Dict [] [] _ => tk || isNilC c
  | .Dict (k :: ks) vs _ => !tk && decide (ks.length < 15) && pr (k :: ks) vs
  | _ => false
def rep (g : Gm) : MG.C → Sc → Wh → Bool
  | .var i, s, w => fin (varOk s i) no1 no2 w
  | .k d, s, w => fin (kOk g s d) no1 no2 w
  | .nil, s, w => match w with
    | .args [] => true
    | .prs [] [] => true
    | w => fin (vTup fun es => es.isEmpty) no1 no2 w
  | .cons a b, s, w => match w with
    | .args (e :: es) => notStar e && rep g a s (.val e) && rep g b s (.args es)
    | .prs (some x :: ks) (v :: vs) => rep g a s (.val x) && rep g b s (.odd v ks vs)
    | .odd v ks vs => rep g a s (.val v) && rep g b s (.prs ks vs)
    | w => fin (vTup fun es => match es with | e :: es => notStar e && rep g a s (.val e) && rep g b s (.args es) | [] => false) no1 no2 w
  | .lst own c, s, w => fin (vLst fun es => rep g c s (.args es)) no1 no2 w
  | .op1 o a, s, w => fin (vOp1 (fun e => rep g a s (.val e)) o) (tOp1 (fun e => rep g a s (.val e)) (fun e => rep g a s (.tst e)) o) no2 w
  | .op2 o own a b, s, w => fin (vOp2 (fun e => rep g a s (.val e)) (fun e => rep g b s (.val e)) o) (tOp2 (fun e => rep g a s (.val e)) (fun e => rep g b s (.val e)) o) no2 w
  | .and a b, s, w => fin (vAnd (fun e => rep g a s (.val e)) (fun e => rep g b s (.val e))) (vAnd (fun e => rep g a s (.tst e)) (fun e => rep g b s (.tst e))) no2 w
  | .or a b, s, w => fin (vOr (fun e => rep g a s (.val e)) (fun e => rep g b s (.val e))) (vOr (fun e => rep g a s (.tst e)) (fun e => rep g b s (.tst e))) no2 w
  | .ite c a b, s, w => fin (vIte (fun e => rep g c s (.tst e)) (fun e => rep g a s (.val e)) (fun e => rep g b s (.val e))) (vIte (fun e => rep g c s (.tst e)) (fun e => rep g a s (.tst e)) (fun e => rep g b s (.tst e))) no2 w
  | .chain o1 o2 a b c, s, w => fin (vChain (fun e => rep g a s (.val e)) (fun e => rep g b s (.val e)) (fun e => rep g c s (.val e)) o1 o2) (vChain (fun e => rep g a s (.val e)) (fun e => rep g b s (.val e)) (fun e => rep g c s (.val e)) o1 o2) no2 w
  | .slc own a lo hi, s, w => fin (vSlc (fun e => rep g a s (.val e)) (fun e => rep g lo s (.val e)) (fun e => rep g hi s (.val e)) lo hi) no1 no2 w
  | .rev own a, s, w => fin (vRev fun e => rep g a s (.val e)) no1 no2 w
  | .bi f own c, s, w => fin (vBi g s (fun es => rep g c s (.args es)) f own) no1 no2 w
  | .bm f own o c, s, w => fin (vBm (fun e => rep g o s (.val e)) (fun es => rep g c s (.args es)) f) no1 no2 w
  | .call f c, s, w => fin (vCall g s (fun es => rep g c s (.args es)) f) no1 no2 w
  | .meth cn mn o c, s, w => fin (vMeth g (fun e => rep g o s (.val e)) (fun es => rep g c s (.args es)) cn mn) no1 no2 w
  | .make cn c, s, w => fin (vMake g s (fun es => rep g c s (.args es)) cn) no1 no2 w
  | .fld o f, s, w => fin (vFld g (fun e => rep g o s (.val e)) f) no1 no2 w
  | .comp own vs t it cond elt, s, w => fin (vComp s vs t cond (fun tg e => rep g it s (.itr tg e)) (fun s' e => rep g cond s' (.tst e)) (fun s' e => rep g elt s' (.val e))) no1 no2 w
  | .rng a b, s, w => fin no1 no1 (iRng g s a (fun e => rep g a s (.val e)) (fun e => rep g b s (.val e))) w
  | .rrng a b, s, w => fin no1 no1 (iRrng g s a (fun e => rep g a s (.val e)) (fun e => rep g b s (.val e))) w
  | .enum a, s, w => fin no1 no1 (iEnum g s (fun e => rep g a s (.val e))) w
  | .zip a b, s, w => fin no1 no1 (iZip g s (fun e => rep g a s (.val e)) (fun e => rep g b s (.val e))) w
  | .dict tk c, s, w => fin (vDict tk c fun ks vs => rep g c s (.prs ks vs)) no1 no2 w
  | .frz a, s, w => fin (fun e => rep g a s (.val e)) no1 no2 w
section
variable {M : Mc} {cl : MG.Call} {g : Gm} {k : Nat}
theorem vTup_ok {X : Cx} {W : WX} {c : MG.C} {ar : List Expr → Bool} (har : ∀ es, ar es = true → AOk X M W cl c es) {e : Expr} (h : vTup ar e = true) : PE X e (tE M W cl c) := by
  unfold vTup at h
  split at h
  · simp only [Bool.and_eq_true, decide_eq_true_eq] at h
    exact e_tup (har _ h.2).argc h.1 (har _ h.2).pa
  · cases h
theorem vLst_ok {X : Cx} {W : WX} {c : MG.C} {own : Bool} {ar : List Expr → Bool} (har : ∀ es, ar es = true → AOk X M W cl c es) {e : Expr} (h : vLst ar e = true) : PE X e (tE M W cl (.lst own c)) := by
  unfold vLst at h
  split at h
  · simp only [Bool.and_eq_true, decide_eq_true_eq] at h
    exact e_lst (har _ h.2).argc h.1 (har _ h.2).pa
  · cases h
theorem vDict_ok {X : Cx} {W : WX} {c : MG.C} {tk : Bool} {pr : List (Option Expr) → List Expr → Bool} (har : ∀ ks vs, pr ks vs = true → POk X M W cl c ks vs) {e : Expr} (h : vDict tk c pr e = true) : PE X e (tE M W cl (.dict tk c)) := by
  unfold vDict at h
  split at h
  · cases tk with
    | true => exact e_dictT
    | false =>
      have h : isNilC c = true := by simpa using h
      cases c <;> first | (cases h; done) | exact e_dict0
  · simp only [Bool.and_eq_true, decide_eq_true_eq] at h
    obtain ⟨⟨h1, h2⟩, h3⟩ := h
    have h1 : tk = false := by simpa using h1
    subst h1
    obtain ⟨p1, p2, p3, p4⟩ := (har _ _ h3).pps
    exact e_dict p2 p1 p3 p4 (by simp) (by rw [List.length_cons]; omega)
  · cases h
theorem rep_ok : ∀ (c : MG.C) (s : Sc) (w : Wh), rep g c s w = true → ∀ (X : Cx) (W : WX), CxOk X M W cl g k s → Holds X M W cl c w := by
  intro c
  induction c with
  | var i => intro s w h X W C; exact fin_ok C h (fun e h => var_ok C h) no1_of no2_of
  | k d => intro s w h X W C; exact fin_ok C h (fun e h => k_ok C h) no1_of no2_of
  | nil =>
    intro s w h X W C
    unfold rep at h
    split at h
    · exact .nil
    · exact .nil
    · refine fin_ok C h (fun e h => vTup_ok (fun es h => ?_) h) no1_of no2_of
      cases es with
      | nil => exact .nil
      | cons _ _ => cases h
  | cons a b ih1 ih2 =>
    intro s w h X W C
    have key : ∀ e es, (notStar e && rep g a s (.val e) && rep g b s (.args es)) = true → AOk X M W cl (.cons a b) (e :: es) := by
      intro e es h
      simp only [Bool.and_eq_true] at h
      exact .cons h.1.1 (ih1 s (.val e) h.1.2 X W C) (ih2 s (.args es) h.2 X W C)
    unfold rep at h
    split at h
    · exact key _ _ h
    · simp only [Bool.and_eq_true] at h
      obtain ⟨cb, c', rfl, q1, q2⟩ := ih2 s (.odd _ _ _) h.2 X W C
      exact .cons (ih1 s (.val _) h.1 X W C) q1 q2
    · simp only [Bool.and_eq_true] at h
      exact ⟨a, b, rfl, ih1 s (.val _) h.1 X W C, ih2 s (.prs _ _) h.2 X W C⟩
    · refine fin_ok C h (fun e h => vTup_ok (fun es h => ?_) h) no1_of no2_of
      cases es with
      | nil => cases h
      | cons e es => exact key e es h
  | lst own c ih => intro s w h X W C; exact fin_ok C h (fun e h => vLst_ok (fun es h => ih s (.args es) h X W C) h) no1_of no2_of
  | op1 o a ih => intro s w h X W C; exact fin_ok C h (fun e h => op1_ok C (fun e h => ih s (.val e) h X W C) h) (fun e h => op1_t C (fun e h => ih s (.val e) h X W C) (fun e h => ih s (.tst e) h X W C) h) no2_of
  | op2 o own a b ih1 ih2 => intro s w h X W C; exact fin_ok C h (fun e h => op2_ok C (fun e h => ih1 s (.val e) h X W C) (fun e h => ih2 s (.val e) h X W C) h) (fun e h => op2_t C (fun e h => ih1 s (.val e) h X W C) (fun e h => ih2 s (.val e) h X W C) h) no2_of
  | and a b ih1 ih2 => intro s w h X W C; exact fin_ok C h (fun e h => and_ok (fun e h => ih1 s (.val e) h X W C) (fun e h => ih2 s (.val e) h X W C) h) (fun e h => and_t (fun e h => ih1 s (.tst e) h X W C) (fun e h => ih2 s (.tst e) h X W C) h) no2_of
  | or a b ih1 ih2 => intro s w h X W C; exact fin_ok C h (fun e h => or_ok (fun e h => ih1 s (.val e) h X W C) (fun e h => ih2 s (.val e) h X W C) h) (fun e h => or_t (fun e h => ih1 s (.tst e) h X W C) (fun e h => ih2 s (.tst e) h X W C) h) no2_of
  | ite c a b ih0 ih1 ih2 => intro s w h X W C; exact fin_ok C h (fun e h => ite_ok (fun e h => ih0 s (.tst e) h X W C) (fun e h => ih1 s (.val e) h X W C) (fun e h => ih2 s (.val e) h X W C) h) (fun e h => ite_t (fun e h => ih0 s (.tst e) h X W C) (fun e h => ih1 s (.tst e) h X W C) (fun e h => ih2 s (.tst e) h X W C) h) no2_of
  | chain o1 o2 a b c ih1 ih2 ih3 => intro s w h X W C; exact fin_ok C h (fun e h => chain_ok C (fun e h => ih1 s (.val e) h X W C) (fun e h => ih2 s (.val e) h X W C) (fun e h => ih3 s (.val e) h X W C) h) (fun e h => chain_t C (fun e h => ih1 s (.val e) h X W C) (fun e h => ih2 s (.val e) h X W C) (fun e h => ih3 s (.val e) h X W C) h) no2_of
  | slc own a lo hi ih1 ih2 ih3 => intro s w h X W C; exact fin_ok C h (fun e h => slc_ok C (fun e h => ih1 s (.val e) h X W C) (fun e h => ih2 s (.val e) h X W C) (fun e h => ih3 s (.val e) h X W C) h) no1_of no2_of
  | rev own a ih => intro s w h X W C; exact fin_ok C h (fun e h => rev_ok (fun e h => ih s (.val e) h X W C) h) no1_of no2_of
  | bi f own c ih => intro s w h X W C; exact fin_ok C h (fun e h => bi_ok C (fun es h => ih s (.args es) h X W C) h) no1_of no2_of
  | bm f own o c ih1 ih2 => intro s w h X W C; exact fin_ok C h (fun e h => bm_ok C (fun e h => ih1 s (.val e) h X W C) (fun es h => ih2 s (.args es) h X W C) h) no1_of no2_of
  | call f c ih => intro s w h X W C; exact fin_ok C h (fun e h => call_ok C (fun es h => ih s (.args es) h X W C) h) no1_of no2_of
  | meth cn mn o c ih1 ih2 => intro s w h X W C; exact fin_ok C h (fun e h => meth_ok C (fun e h => ih1 s (.val e) h X W C) (fun es h => ih2 s (.args es) h X W C) h) no1_of no2_of
  | make cn c ih => intro s w h X W C; exact fin_ok C h (fun e h => make_ok C (fun es h => ih s (.args es) h X W C) h) no1_of no2_of
  | fld o f ih => intro s w h X W C; exact fin_ok C h (fun e h => fld_ok C (fun e h => ih s (.val e) h X W C) h) no1_of no2_of
  | comp own vs t it cond elt iht ihi ihc ihe => intro s w h X W C; exact fin_ok C h (fun e h => comp_ok C (fun tg e h => ihi s (.itr tg e) h X W C) (fun X' s' C' e h => ihc s' (.tst e) h X' WF C') (fun X' s' C' e h => ihe s' (.val e) h X' WF C') h) no1_of no2_of
  | rng a b ih1 ih2 => intro s w h X W C; exact fin_ok C h no1_of no1_of (fun tg e h => rng_ok C (fun e h => ih1 s (.val e) h X W C) (fun e h => ih2 s (.val e) h X W C) h)
  | rrng a b ih1 ih2 => intro s w h X W C; exact fin_ok C h no1_of no1_of (fun tg e h => rrng_ok C (fun e h => ih1 s (.val e) h X W C) (fun e h => ih2 s (.val e) h X W C) h)
  | enum a ih => intro s w h X W C; exact fin_ok C h no1_of no1_of (fun tg e h => enum_ok C (fun e h => ih s (.val e) h X W C) h)
  | zip a b ih1 ih2 => intro s w h X W C; exact fin_ok C h no1_of no1_of (fun tg e h => zip_ok C (fun e h => ih1 s (.val e) h X W C) (fun e h => ih2 s (.val e) h X W C) h)
  | dict tk c ih => intro s w h X W C; exact fin_ok C h (fun e h => vDict_ok (fun ks vs h => ih s (.prs ks vs) h X W C) h) no1_of no2_of
  | frz a ih => intro s w h X W C; exact fin_ok C h (fun e h => e_frz (ih s (.val e) h X W C)) no1_of no2_of
end
end MGS

set_option Elab.async false
set_option linter.all false
set_option maxRecDepth 100000
set_option maxHeartbeats 8000000
/-! The checker of statements; all defs of a text. -/
namespace MGS
open PySem PySem.Spec PyProof.Rows L2

/-! ### assignments -/
def repGA (g : Gm) (t : MG.C) (s : Sc) (tg : Expr) : Bool :=
  match t, tg with
  | .var i, .Name x _ => decide (s.N[i]? = some x) && locB s x
  | .fld o f, .Attribute o' x _ => decide (x = sOf f) && g.flds.contains f && rep g o s (.val o')
  | .op2 .idx _ o i, .Subscript o' i' _ => notSlice i' && rep g o s (.val o') && rep g i s (.val i')
  | _, _ => false
def repGAs (g : Gm) : MG.C → Sc → List Expr → Bool
  | .nil, _, [] => true
  | .cons t ts, s, e :: es => notStar e && repGA g t s e && repGAs g ts s es
  | _, _, _ => false
/-- a, b (, c) = x, y (, z) from the right -/
def par2 (t : MG.C) (s : Sc) (es : List Expr) (names : List PySem.Str) : Bool :=
  match t, es, names with
  | .cons (.var i) (.cons (.var j) .nil), [.Name x _, .Name y _], [x', y'] => decide (s.N[i]? = some x) && decide (s.N[j]? = some y) && !(i == j) && s.sc.names.lookup x == some .local && s.sc.names.lookup y == some .local && decide (x = x') && decide (y = y')
  | _, _, _ => false
def par3 (t : MG.C) (s : Sc) (es : List Expr) (names : List PySem.Str) : Bool :=
  match t, es, names with
  | .cons (.var i) (.cons (.var j) (.cons (.var k) .nil)), [.Name x _, .Name y _, .Name z _], [x', y', z'] => decide (s.N[i]? = some x) && decide (s.N[j]? = some y) && decide (s.N[k]? = some z) && !(i == j) && !(i == k) && !(j == k) &&
      s.sc.names.lookup x == some .local && s.sc.names.lookup y == some .local && s.sc.names.lookup z == some .local && decide (x = x') && decide (y = y') && decide (z = z')
  | _, _, _ => false
def asTup : Expr → Option (List Expr)
  | .Tuple es _ _ => some es
  | _ => none
def isCons : MG.C → Bool
  | .cons _ _ => true
  | _ => false
def asgB (g : Gm) (s : Sc) (t c : MG.C) (tg e : Expr) : Bool :=
  match asTup tg with
  | some es => match asTup e with
    | some vs => match stB es vs s.sc with
      | none => false
      | some none => isCons t && es.all notStar && decide (MG.clen t = es.length) && rep g c s (.val e) && repGAs g t s es
      | some (some names) => (par2 t s es names && decide (vs.length = 2) && rep g c s (.args vs)) || (par3 t s es names && decide (vs.length = 3) && rep g c s (.args vs))
    | none => isCons t && es.all notStar && decide (MG.clen t = es.length) && oneComp e && !(swB e tg s.sc) && rep g c s (.val e) && repGAs g t s es
  | none => notStar tg && noPar tg e && oneComp e && (if swB e tg s.sc then
      (match t, c, tg with
      | .var i, .comp own vs t' it cond elt, .Name y _ => decide (s.N[i]? = some y) && s.sc.names.lookup y == some .local && vComp s vs t' cond (fun tg e => rep g it s (.itr tg e)) (fun s' e => rep g cond s' (.tst e)) (fun s' e => rep g elt s' (.val e)) e
      | _, _, _ => false)
    else rep g c s (.val e) && repGA g t s tg)
section
variable {X : Cx} {M : Mc} {W : WX} {cl : MG.Call} {g : Gm} {k : Nat} {s : Sc} {U : MG.Up}
theorem repGA_ok (C : CxOk X M W cl g k s) {t : MG.C} {tg : Expr} (h : repGA g t s tg = true) : PG X tg (tGA M W cl t) ∧ ∀ st d, MG.unp st d t = d := by
  unfold repGA at h
  split at h
  · simp only [Bool.and_eq_true, decide_eq_true_eq] at h
    exact ⟨ga_var (by rw [C.N]; exact C.nd) (by rw [C.N]; exact h.1) (loc_of C h.2).1 (loc_of C h.2).2, fun _ _ => rfl⟩
  · simp only [Bool.and_eq_true, decide_eq_true_eq] at h
    obtain ⟨⟨rfl, h2⟩, h3⟩ := h
    exact ⟨ga_fld C.G.B (C.G.flds _ (by simpa using h2)) (rep_ok _ s (.val _) h3 X W C), fun _ _ => rfl⟩
  · simp only [Bool.and_eq_true] at h
    exact ⟨ga_idx C.G.B (by have := C.un; omega) (rep_ok _ s (.val _) h.1.2 X W C) (rep_ok _ s (.val _) h.2 X W C) (sub_of h.1.1), fun _ _ => rfl⟩
  · cases h
theorem repGAs_ok (C : CxOk X M W cl g k s) : ∀ {t : MG.C} {es : List Expr}, repGAs g t s es = true → PGs X es (tGAs M W cl t) := by
  intro t
  induction t with
  | nil =>
    intro es h
    cases es with
    | nil => exact gas_nil
    | cons _ _ => simp [repGAs] at h
  | cons t ts ih1 ih2 =>
    intro es h
    cases es with
    | nil => simp [repGAs] at h
    | cons e es =>
      simp only [repGAs, Bool.and_eq_true] at h
      exact gas_cons (asg_cons h.1.1 _ _) (repGA_ok C h.1.2).1 (ih2 h.2)
  | _ => intro es h; cases es <;> simp [repGAs] at h
theorem asTup_of {e : Expr} {es : List Expr} (h : asTup e = some es) : ∃ kk p, e = .Tuple es kk p := by
  unfold asTup at h
  split at h
  · cases h; exact ⟨_, _, rfl⟩
  · cases h
theorem asTup_no {e : Expr} (h : asTup e = none) : ∀ es kk p, e ≠ .Tuple es kk p := by
  intro es kk p e'
  subst e'
  cases h
theorem cons_of {t : MG.C} (h : isCons t = true) : ∃ a b, t = .cons a b := by
  cases t <;> first | (cases h; done) | exact ⟨_, _, rfl⟩
theorem asg_ok (C : CxOk X M W cl g k s) {t c : MG.C} {tg e : Expr} {pos : Pos} (h : asgB g s t c tg e = true) : PS X (.Assign [tg] e pos) (tS M W cl U (.asg t c)) := by
  have hN : X.N.Nodup := by rw [C.N]; exact C.nd
  unfold asgB at h
  split at h
  · rename_i es et
    obtain ⟨kk, tp, rfl⟩ := asTup_of et
    split at h
    · rename_i vs ev
      obtain ⟨k2, p2, rfl⟩ := asTup_of ev
      split at h
      · cases h
      · rename_i est
        simp only [Bool.and_eq_true, decide_eq_true_eq] at h
        obtain ⟨⟨⟨⟨h1, h2⟩, h3⟩, h4⟩, h5⟩ := h
        obtain ⟨t1, t2, rfl⟩ := cons_of h1
        obtain ⟨a1, a2⟩ := asg_each (env := X.env) h2
        exact s_tup C.G.B.hK C.G.calm a1 a2 h3 rfl (st_of C.sc est) rfl (rep_ok _ s (.val _) h4 X W C) (repGAs_ok C h5)
      · rename_i names est
        simp only [Bool.or_eq_true] at h
        rcases h with h | h
        · simp only [Bool.and_eq_true, decide_eq_true_eq] at h
          obtain ⟨⟨h1, h2⟩, h3⟩ := h
          unfold par2 at h1
          split at h1
          · simp only [Bool.and_eq_true, decide_eq_true_eq] at h1
            obtain ⟨⟨⟨⟨⟨⟨q1, q2⟩, q3⟩, q4⟩, q5⟩, rfl⟩, rfl⟩ := h1
            have A := rep_ok _ s (.args vs) h3 X W C
            match vs, h2, A with
            | [a, b], _, A => exact s_par2 A.argc C.G.calm hN (by rw [C.N]; exact q1) (by rw [C.N]; exact q2) (by simpa using q3) (by rw [C.sc]; exact eq_of_beq q4) (by rw [C.sc]; exact eq_of_beq q5) (st_of C.sc est) A.pa
          · cases h1
        · simp only [Bool.and_eq_true, decide_eq_true_eq] at h
          obtain ⟨⟨h1, h2⟩, h3⟩ := h
          unfold par3 at h1
          split at h1
          · simp only [Bool.and_eq_true, decide_eq_true_eq] at h1
            obtain ⟨⟨⟨⟨⟨⟨⟨⟨⟨⟨⟨q1, q2⟩, q3⟩, q4⟩, q5⟩, q6⟩, q7⟩, q8⟩, q9⟩, rfl⟩, rfl⟩, rfl⟩ := h1
            have A := rep_ok _ s (.args vs) h3 X W C
            match vs, h2, A with
            | [a, b, c0], _, A => exact s_par3 A.argc C.G.calm hN (by rw [C.N]; exact q1) (by rw [C.N]; exact q2) (by rw [C.N]; exact q3) (by simpa using q4) (by simpa using q5) (by simpa using q6) (by rw [C.sc]; exact eq_of_beq q7) (by rw [C.sc]; exact eq_of_beq q8) (by rw [C.sc]; exact eq_of_beq q9) (st_of C.sc est) A.pa
          · cases h1
    · rename_i ev
      simp only [Bool.and_eq_true, decide_eq_true_eq] at h
      obtain ⟨⟨⟨⟨⟨⟨h1, h2⟩, h3⟩, h4⟩, h5⟩, h6⟩, h7⟩ := h
      obtain ⟨t1, t2, rfl⟩ := cons_of h1
      obtain ⟨a1, a2⟩ := asg_each (env := X.env) h2
      have hsw : swapsWithSole [.Tuple es kk tp] e pos.line X.env = pure false := by
        rw [sw_of C.sc h4]
        have : swB e (.Tuple es kk tp) s.sc = false := by simpa using h5
        rw [this]
      have hw : swappedStores [.Tuple es kk tp] e X.env = pure none := st_no (by
        cases e <;> first | rfl | exact absurd rfl (asTup_no ev _ _ _))
      exact s_tup C.G.B.hK C.G.calm a1 a2 h3 hsw hw rfl (rep_ok _ s (.val _) h6 X W C) (repGAs_ok C h7)
  · rename_i et
    simp only [Bool.and_eq_true] at h
    obtain ⟨⟨⟨h1, h2⟩, h3⟩, h4⟩ := h
    by_cases hb : swB e tg s.sc = true
    · rw [if_pos hb] at h4
      split at h4
      · rename_i i own vs t' it cond elt y py
        simp only [Bool.and_eq_true, decide_eq_true_eq] at h4
        obtain ⟨⟨q1, q2⟩, q3⟩ := h4
        obtain ⟨el, tg', iter, ifs, scope, pos', rfl, P⟩ := comp_parts C (fun tg e h => rep_ok _ s (.itr tg e) h X W C) (fun X' s' C' e h => rep_ok _ s' (.tst e) h X' WF C') (fun X' s' C' e h => rep_ok _ s' (.val e) h X' WF C') q3
        have hsw := sw_of' (line := pos.line) (t := y) (p := py) C.sc h3
        rw [hb] at hsw
        have q := s_lc (U := U) (own := own) C.G.calm hN (by rw [C.N]; exact q1) (by rw [C.sc]; exact eq_of_beq q2) hsw P.ok P.hv P.hs P.hi P.hg P.ht P.he
        rw [ownOf_snd] at q
        exact q
      · cases h4
    · rw [if_neg hb] at h4
      simp only [Bool.and_eq_true] at h4
      have hsw : swapsWithSole [tg] e pos.line X.env = pure false := by
        rw [sw_of C.sc h3]
        have : swB e tg s.sc = false := by simpa using hb
        rw [this]
      obtain ⟨G1, G2⟩ := repGA_ok C h4.2
      exact s_asg G2 hsw (st_no h2) (asg_one h1 _) (rep_ok _ s (.val _) h4.1 X W C) G1
end

/-! ### statements -/
inductive Ws where
  | one (x : Stmt)
  | many (xs : List Stmt)
def repS (g : Gm) : MG.S → Sc → Ws → Bool
  | .skip, _, .one (.Pass _) => true
  | .skip, _, .many [] => true
  | .seq a b, s, .many (x :: xs) => repS g a s (.one x) && repS g b s (.many xs)
  | .ex c, s, .one (.Expr e _) => notComp e && rep g c s (.val e)
  | .asg t c, s, .one (.Assign [tg] e _) => asgB g s t c tg e
  | .ret c, s, .one (.Return (some e) _) => rep g c s (.val e)
  | .ret c, _, .one (.Return none _) => isNonK c
  | .ife c a b, s, .one (.If e p q _) => rep g c s (.tst e) && repS g a s (.many p) && repS g b s (.many q)
  | .for_ t it b, s, .one (.For tg iter body [] _) => notSet iter && rep g it s (.itr tg iter) && repG t s (.one tg) && repS g b s (.many body)
  | .while_ c b, s, .one (.While e body [] _) => rep g c s (.tst e) && repS g b s (.many body)
  | .raise _ _ _, _, .one _ => true
  | .cont, _, .one (.Continue _) => true
  | _, _, _ => false
def SHolds (X : Cx) (M : Mc) (W : WX) (cl : MG.Call) (U : MG.Up) (x : MG.S) : Ws → Prop
  | .one st => PS X st (tS M W cl U x)
  | .many ss => PSs X ss (tS M W cl U x)
theorem repS_ok {X : Cx} {M : Mc} {W : WX} {cl : MG.Call} {g : Gm} {k : Nat} {s : Sc} {U : MG.Up} (C : CxOk X M W cl g k s) (hp : PassesOwn (model X.prog X.w) X.A X.env X.xe) (hx : M.exc = false) : ∀ (x : MG.S) (w : Ws), repS g x s w = true → SHolds X M W cl U x w := by
  intro x
  induction x with
  | skip =>
    intro w h
    cases w with
    | one st => cases st <;> first | (simp [repS] at h; done) | exact s_skip ps_pass
    | many ss => cases ss with
      | nil => exact ss_nil
      | cons _ _ => simp [repS] at h
  | seq a b ih1 ih2 =>
    intro w h
    cases w with
    | one st => cases st <;> simp [repS] at h
    | many ss => cases ss with
      | nil => simp [repS] at h
      | cons st rest =>
        simp only [repS, Bool.and_eq_true] at h
        exact ss_cons (ih1 (.one st) h.1) (ih2 (.many rest) h.2)
  | ex c =>
    intro w h
    cases w with
    | one st =>
      cases st <;> first | (simp [repS] at h; done) | skip
      simp only [repS, Bool.and_eq_true] at h
      exact s_ex (swap_none h.1 _ _) (rep_ok _ s (.val _) h.2 X W C)
    | many ss => cases ss <;> simp [repS] at h
  | asg t c =>
    intro w h
    cases w with
    | one st =>
      cases st <;> first | (simp [repS] at h; done) | skip
      rename_i tgs e pos
      match tgs, h with
      | [tg], h => exact asg_ok C (by simpa [repS] using h)
      | [], h => simp [repS] at h
      | _ :: _ :: _, h => simp [repS] at h
    | many ss => cases ss <;> simp [repS] at h
  | ret c =>
    intro w h
    cases w with
    | one st =>
      cases st <;> first | (simp [repS] at h; done) | skip
      rename_i v pos
      cases v with
      | some e => exact s_ret (rep_ok _ s (.val e) (by simpa [repS] using h) X W C)
      | none =>
        have h : isNonK c = true := by simpa [repS] using h
        unfold isNonK at h
        split at h
        · exact s_retN
        · cases h
    | many ss => cases ss <;> simp [repS] at h
  | ife c a b ih1 ih2 =>
    intro w h
    cases w with
    | one st =>
      cases st <;> first | (simp [repS] at h; done) | skip
      simp only [repS, Bool.and_eq_true] at h
      exact s_if (rep_ok _ s (.tst _) h.1.1 X W C) (ih1 (.many _) h.1.2) (ih2 (.many _) h.2)
    | many ss => cases ss <;> simp [repS] at h
  | for_ t it b ih =>
    intro w h
    cases w with
    | one st =>
      cases st <;> first | (simp [repS] at h; done) | skip
      rename_i tg iter body orelse pos
      cases orelse with
      | nil =>
        simp only [repS, Bool.and_eq_true] at h
        obtain ⟨⟨⟨h1, h2⟩, h3⟩, h4⟩ := h
        exact s_for hp C.G.calm (folded_of h1 _) (rep_ok _ s (.itr _ _) h2 X W C) (repG_ok C t (.one _) h3) (ih (.many _) h4)
      | cons _ _ => simp [repS] at h
    | many ss => cases ss <;> simp [repS] at h
  | while_ c b ih =>
    intro w h
    cases w with
    | one st =>
      cases st <;> first | (simp [repS] at h; done) | skip
      rename_i e body orelse pos
      cases orelse with
      | nil =>
        simp only [repS, Bool.and_eq_true] at h
        exact s_while hp (rep_ok _ s (.tst _) h.1 X W C) (ih (.many _) h.2)
      | cons _ _ => simp [repS] at h
    | many ss => cases ss <;> simp [repS] at h
  | raise c ini es =>
    intro w h
    cases w with
    | one st => exact s_raise hx
    | many ss => cases ss <;> simp [repS] at h
  | try_ b cs v h' ih1 ih2 =>
    intro w h
    cases w with
    | one st => cases st <;> simp [repS] at h
    | many ss => cases ss <;> simp [repS] at h
  | cont =>
    intro w h
    cases w with
    | one st => cases st <;> first | (simp [repS] at h; done) | exact s_cont
    | many ss => cases ss <;> simp [repS] at h

/-! ### a call's store cut back -/
theorem Post.uncut {M : Mc} {W : WX} {s : Sx} {σ : L2.St} {r : MG.Res MG.D} {Q : VK} (S : Sim M s) (h : Post M W s σ (MG.cutR s.st r) Q) : Post M W s σ r Q := by
  cases r with
  | ok d st' =>
    simp only [MG.cutR] at h
    split at h
    · rename_i c
      simp only [Bool.and_eq_true] at c
      exact fun m' H' v h1 h2 h3 => h _ H' v (sim_cut S h1 c.2) (step_cut S h2) (h3.cutB c.1)
    · exact h
  | err x st' =>
    simp only [MG.cutR] at h
    split at h
    · rename_i c
      simp only [Bool.and_eq_true] at c
      refine ⟨h.1, fun m' H' cv d h1 h2 h3 => h.2 _ H' cv d (sim_cut S h1 c.2) (step_cut S h2) ?_⟩
      obtain ⟨C, e1, e2, e3⟩ := h3
      refine ⟨C, e1, e2, e3.imp id ?_⟩
      rintro ⟨da, gs, q1, q2, q3, q4⟩
      refine ⟨da, gs, q1, q2, fun z => q3 (live_cut (M := M) z), q4.1, fun f => ?_⟩
      have q := q4.2 f
      revert q
      cases e : MG.fget x.fs f with
      | none => exact fun q => q
      | some d => rintro ⟨v, q1, q2⟩; exact ⟨v, q1, q2.cutB (fget_below c.1 e)⟩
    · exact h
  | bad => exact h
/-! ### all defs of a text -/
/-- a def: its name in the core, where it stands, its text, its names, its core -/
structure Df where
  f : String
  A : Addr
  x : PySem.Str
  qual : PySem.Str
  st : Stmt
  N : List PySem.Str
  ps : List PySem.Str
  d : MG.Fn
structure DfOk (K : PySem.W.Frag) (g : Gm) (Pr : MG.Prog) (D : Df) : Prop where
  fn : ∃ fd, Fun K D.x D.qual D.st D.A fd ∧ Binds K fd D.ps []
  sc : FnScope D.N D.ps (defScope D.st)
  pr : Pr D.f = some D.d
  np : D.d.np = D.ps.length
  ns : D.d.ns = D.N.length
  rep : repS g D.d.body ⟨D.N, defScope D.st, fun _ => true⟩ (.many (defBody D.st)) = true
/-- the module's facts -/
structure MOk (P : Program) (w : World) (K : PySem.W.Frag) (mg : PySem.Str → Option Value) (base : Heap) (M : Mc) (g : Gm) (Pr : MG.Prog) (defs : List Df) : Prop where
  hK : M.K = K
  gd : ∀ n a, M.gd n = some a → (∃ es k, KDict K w a es k) ∧ ∀ z : String, match MG.dget (M.G.get n) (.str z) with
    | none => PySem.W.nsIn K a (sOf z) = some none
    | some d => ∃ u v, PySem.W.nsIn K a (sOf z) = some (some u) ∧ RelV v u ∧ ∀ s, RD M s d v
  pl : ∀ c C, M.cls c = some C → PlainC K C
  cst : ∀ x d, g.cst.lookup x = some d → ∃ u v, mg x = some u ∧ RelV v u ∧ ∀ s, RD M s d v
  blt : ∀ x ∈ g.blt, mg x = none
  flds : ∀ f ∈ g.flds, ∀ c C, M.cls c = some C → NoAttr K C (sOf f)
  dfs : ∀ D ∈ defs, DfOk K g Pr D
  fns : ∀ f ∈ g.fns, ∃ D ∈ defs, D.f = f ∧ mg (sOf f) = some (.ref D.A)
  meths : ∀ p ∈ g.meths, ∃ D ∈ defs, ∃ C, M.cls p.1 = some C ∧ D.f = p.1 ++ "." ++ p.2 ∧ Cls K C ∧ Meth K C (sOf p.2) D.A
  makes : ∀ c ∈ g.makes, ∃ D ∈ defs, ∃ C, M.cls c = some C ∧ D.f = c ++ ".__init__" ∧ Mk K C D.A ∧ mg (sOf c) = some (.ref C)
  exc : M.exc = false
theorem re_start {M : Mc} {s : Sx} {N : List PySem.Str} {ds : List MG.D} {vs : List V} {n : Nat} (hn : n = N.length - vs.length) (r : RDs M s ds vs) : RE M s (ds.map some ++ List.replicate n none) (L2.start N vs) := by
  unfold L2.start
  refine ⟨by simp [r.length, hn], fun i d h => ?_⟩
  by_cases hi : i < ds.length
  · rw [List.getElem?_append_left (by simpa using hi), List.getElem?_map] at h
    cases e : ds[i]? with
    | none => rw [e] at h; cases h
    | some z =>
      rw [e] at h
      cases h
      obtain ⟨v, e1, e2⟩ := r.get e
      have hv : i < vs.length := by rw [← r.length]; exact hi
      exact ⟨v, by rw [List.getElem?_append_left (by simpa using hv), List.getElem?_map, e1]; rfl, e2⟩
  · rw [List.getElem?_append_right (by simpa using hi), List.getElem?_replicate] at h
    split at h <;> cases h
theorem all_ok {P : Program} {w : World} {K : PySem.W.Frag} {mg : PySem.Str → Option Value} {base : Heap} {M : Mc} {g : Gm} {Pr : MG.Prog} {U : MG.Up} {defs : List Df} (O : MOk P w K mg base M g Pr defs) :
    ∀ (n : Nat), ∀ D ∈ defs, ∃ fd, FnOk P w K mg base (L2.CX P w) (2 * n) D.A fd D.ps (spOf M (MG.callN M.G U Pr n) D.f) ∧ Binds K fd D.ps [] ∧ Fun K D.x D.qual D.st D.A fd := by
  intro n
  induction n with
  | zero =>
    intro D hD
    obtain ⟨fd, F, hb⟩ := (O.dfs D hD).fn
    exact ⟨fd, ⟨fun vs H Q E ⟨m, st, ds, _, _, z⟩ => by rw [MG.callN_zero] at z; exact z.elim, fun A outer s H args us vs Q E _ _ _ _ ⟨m, st, ds, _, _, z⟩ => by rw [MG.callN_zero] at z; exact z.elim⟩, hb, F⟩
  | succ n ih =>
    intro D hD
    have DO := O.dfs D hD
    obtain ⟨fd, F, hb⟩ := DO.fn
    refine ⟨fd, ?_, hb, F⟩
    have hlen : ∀ vs H Q E, spOf M (MG.callN M.G U Pr (n + 1)) D.f vs H Q E → vs.length = D.ps.length := by
      rintro vs H Q E ⟨m, st, ds, S, r, z⟩
      rw [MG.callN_succ] at z
      rw [DO.pr] at z
      simp only at z
      by_cases hl : ds.length = D.d.np
      · rw [← r.length, hl, DO.np]
      · rw [if_neg hl] at z; exact z.elim
    have h2 : 2 * (n + 1) = (2 * n + 1) + 1 := by omega
    rw [h2]
    refine F.okX DO.sc hlen fun cdv A outer s H vs Q E hr hsp => ?_
    have hvl := hlen vs H Q E hsp
    obtain ⟨m, st, ds, S, r, z⟩ := hsp
    rw [MG.callN_succ] at z
    rw [DO.pr] at z
    simp only at z
    by_cases hl : ds.length = D.d.np
    case neg => rw [if_neg hl] at z; exact z.elim
    rw [if_pos hl] at z
    have z := Post.uncut (s := ⟨m, st, H⟩) S z
    have fnAt : ∀ D' ∈ defs, FnAt (cxOf (L2.CX P w) P w K mg base D.N D.qual (defScope D.st) D.A cdv A outer s H E) M (MG.callN M.G U Pr n) (2 * n) D'.f D'.A := fun D' hD' => by
      obtain ⟨fd', F1, F2, F3⟩ := ih D' hD'
      exact ⟨⟨fd', D'.ps, F1, F2⟩, F3.kp⟩
    have C : CxOk (cxOf (L2.CX P w) P w K mg base D.N D.qual (defScope D.st) D.A cdv A outer s H E) M WF (MG.callN M.G U Pr n) g (2 * n) ⟨D.N, defScope D.st, fun _ => true⟩ := by
      refine ⟨⟨⟨O.hK, O.gd, O.pl⟩, rfl, hr, O.cst, O.blt, ?_, ?_, ?_, O.flds⟩, rfl, DO.sc.nd, rfl, rfl, no_pass⟩
      · intro f hf
        obtain ⟨D', h1, rfl, h3⟩ := O.fns f hf
        exact ⟨D'.A, fnAt D' h1, h3⟩
      · intro p hp
        obtain ⟨D', h1, C, h2, h3, h4, h5⟩ := O.meths p hp
        have := fnAt D' h1
        rw [h3] at this
        exact ⟨C, D'.A, h2, this, h4, h5⟩
      · intro c hc
        obtain ⟨D', h1, C, h2, h3, h4, h5⟩ := O.makes c hc
        have := fnAt D' h1
        rw [h3] at this
        exact ⟨C, D'.A, h2, this, h4, h5⟩
    have B := repS_ok (U := U) C (passes_of rfl) O.exc D.d.body (.many (defBody D.st)) DO.rep
    refine ⟨_, B, m, ds.map some ++ List.replicate (D.d.ns - D.d.np) none, st, S, re_start (by rw [DO.ns, DO.np, hvl]) r, ?_⟩
    cases e : MG.evS M.G U (MG.callN M.G U Pr n) D.d.body (ds.map some ++ List.replicate (D.d.ns - D.d.np) none) st with
    | nx ρ st1 =>
      rw [e] at z
      exact fun m' σ' H' h1 h2 _ => z m' H' .non h1 h2 .non
    | ret v st1 => rw [e] at z; exact z
    | ct ρ st1 => rw [e] at z; exact False.elim z
    | err x ρ st1 =>
      rw [e] at z
      have := z.1
      rw [O.exc] at this
      cases this
    | bad => rw [e] at z; exact z
end MGS

set_option Elab.async false
set_option linter.all false
set_option maxRecDepth 100000
set_option maxHeartbeats 8000000
/-! The head of a law: what is read of the module behind its top, and the law by its core. -/
namespace MGS
open PySem PySem.Spec PyProof.Rows L2

/-- a def, as data -/
structure Dd where
  f : String
  at_ : PySem.Str × Option PySem.Str
  x : PySem.Str
  qual : PySem.Str
  st : Stmt
  N : List PySem.Str
  ps : List PySem.Str
  d : MG.Fn
structure Law where
  g : Gm
  G : MG.GD
  U : MG.Up
  Pr : MG.Prog
  defs : List Dd
  clss : List String
  dics : List String
def Dd.dd (D : Dd) : He.DefD := ⟨D.at_, D.x, D.qual, defArgs D.st, defBody D.st, defScope D.st, [], []⟩
def Law.mc (L : Law) (K : PySem.W.Frag) : Mc := ⟨K, fun c => if L.clss.contains c then some (He.ga K (sOf c)) else none, fun _ => none, fun n => if L.dics.contains n then some (He.ga K (sOf n)) else none, L.G, false⟩
def Dd.df (K : PySem.W.Frag) (D : Dd) : Df := ⟨D.f, He.fAd K D.at_, D.x, D.qual, D.st, D.N, D.ps, D.d⟩

/-! ### values that stand in the module -/
def allRel (r : MG.D → Value → Bool) : List MG.D → List Value → Bool
  | [], [] => true
  | d :: ds, u :: us => r d u && allRel r ds us
  | _, _ => false
def relD (L : Law) (K : PySem.W.Frag) : Nat → MG.D → Value → Bool
  | _, .non, .none => true
  | _, .bl b, .bool c => b == c
  | _, .int i, .int j _ => decide (i = j)
  | _, .str x, .str y _ => decide (y = sOf x)
  | _, .gd n, .ref a => L.dics.contains n && decide (a = He.ga K (sOf n))
  | n + 1, .tup ds, .ref a => (match K.lookup a with
    | some ⟨.type c, _, .seq its _, _⟩ => decide (c = "tuple") && decide (its.size ≤ sizeLine) && (L.G.kt.any fun z => MG.sameAll z ds) && allRel (relD L K n) ds its.toList
    | _ => false)
  | _, _, _ => false
theorem allRel_ok {M : Mc} {r : MG.D → Value → Bool} (h : ∀ d u, r d u = true → ∃ v, RelV v u ∧ ∀ s, RD M s d v) : ∀ {ds : List MG.D} {us : List Value}, allRel r ds us = true → ∃ vs, Vals vs us ∧ ∀ s, RDs M s ds vs
  | [], [], _ => ⟨[], .nil, fun _ => .nil⟩
  | [], _ :: _, q => by cases q
  | _ :: _, [], q => by cases q
  | d :: ds, u :: us, q => by
    simp only [allRel, Bool.and_eq_true] at q
    obtain ⟨v, h1, h2⟩ := h d u q.1
    obtain ⟨vs, h3, h4⟩ := allRel_ok h q.2
    exact ⟨v :: vs, .cons h1 h3, fun s => .cons (h2 s) (h4 s)⟩
theorem relD_ok {L : Law} {K : PySem.W.Frag} : ∀ (n : Nat) (d : MG.D) (u : Value), relD L K n d u = true → ∃ v, RelV v u ∧ ∀ s, RD (L.mc K) s d v := by
  intro n
  induction n with
  | zero =>
    intro d u h
    cases d <;> cases u <;> first | (simp [relD] at h; done) | skip
    · exact ⟨.non, rfl, fun _ => .non⟩
    · simp only [relD] at h; rw [eq_of_beq h]; exact ⟨.bl _, rfl, fun _ => .bl _⟩
    · simp only [relD, decide_eq_true_eq] at h; subst h; exact ⟨.int _, ⟨_, rfl⟩, fun _ => .int _⟩
    · simp only [relD, decide_eq_true_eq] at h; subst h; exact ⟨.str _, ⟨_, rfl⟩, fun _ => .str _⟩
    · simp only [relD, Bool.and_eq_true, decide_eq_true_eq] at h
      refine ⟨.ref _, rfl, fun _ => .gd ?_⟩
      show (if L.dics.contains _ = true then some (He.ga K (sOf _)) else none) = _
      rw [if_pos h.1, h.2]
  | succ n ih =>
    intro d u h
    cases d <;> cases u <;> first | (simp [relD] at h; done) | skip
    · exact ⟨.non, rfl, fun _ => .non⟩
    · simp only [relD] at h; rw [eq_of_beq h]; exact ⟨.bl _, rfl, fun _ => .bl _⟩
    · simp only [relD, decide_eq_true_eq] at h; subst h; exact ⟨.int _, ⟨_, rfl⟩, fun _ => .int _⟩
    · simp only [relD, decide_eq_true_eq] at h; subst h; exact ⟨.str _, ⟨_, rfl⟩, fun _ => .str _⟩
    · rename_i ds a
      simp only [relD] at h
      split at h
      · rename_i c od its k sl e
        simp only [Bool.and_eq_true, decide_eq_true_eq] at h
        obtain ⟨⟨⟨rfl, h2⟩, h3⟩, h4⟩ := h
        obtain ⟨vs, q1, q2⟩ := allRel_ok ih h4
        obtain ⟨z, hz, hs⟩ := List.any_eq_true.mp h3
        rw [sameAll_eq _ _ hs] at hz
        exact ⟨.ref a, rfl, fun s => .tupK (fun H => .inr ⟨_, its, k, e, rfl, rfl, h2, q1⟩) hz (q2 s)⟩
      · cases h
    · simp only [relD, Bool.and_eq_true, decide_eq_true_eq] at h
      refine ⟨.ref _, rfl, fun _ => .gd ?_⟩
      show (if L.dics.contains _ = true then some (He.ga K (sOf _)) else none) = _
      rw [if_pos h.1, h.2]

/-! ### written dicts -/
def gdAll (L : Law) (K : PySem.W.Frag) : List (MG.D × MG.D) → List DictEntry → Bool
  | [], [] => true
  | (.str z, d) :: r, e :: es => (match e.key with
    | .str y _ => decide (y = sOf z)
    | _ => false) && relD L K 9 d e.val && gdAll L K r es
  | _, _ => false
def gdB (L : Law) (K : PySem.W.Frag) (n : String) : Bool := match K.lookup (He.ga K (sOf n)) with
  | some ⟨_, _, .dict es _, _⟩ => gdAll L K (L.G.get n) es.toList
  | _ => false
theorem gdAll_ok {L : Law} {K : PySem.W.Frag} (z : String) : ∀ {kvs : List (MG.D × MG.D)} {es : List DictEntry}, gdAll L K kvs es = true → match MG.dget kvs (.str z) with
    | none => es.find? (·.key.isStr (sOf z)) = none ∧ es.any (·.refKey) = false
    | some d => ∃ e, es.find? (·.key.isStr (sOf z)) = some e ∧ relD L K 9 d e.val = true
  | [], [], _ => ⟨rfl, rfl⟩
  | [], _ :: _, h => by simp [gdAll] at h
  | (k, d) :: r, [], h => by cases k <;> simp [gdAll] at h
  | (k, d) :: r, e :: es, h => by
    cases k <;> first | (simp [gdAll] at h; done) | skip
    rename_i y
    simp only [gdAll, Bool.and_eq_true] at h
    obtain ⟨⟨h1, h2⟩, h3⟩ := h
    have ih := gdAll_ok z h3
    split at h1
    · rename_i y' t ek
      have h1 := of_decide_eq_true h1
      subst h1
      have e1 : e.key.isStr (sOf z) = (y == z) := by
        rw [ek]
        show ((sOf y == sOf z) : Bool) = _
        exact sOf_beq y z
      simp only [MG.dget, MG.eqv, List.find?_cons, e1]
      by_cases c : y = z
      · subst c
        simp only [beq_self_eq_true, if_true]
        exact ⟨e, rfl, h2⟩
      · have c' : (y == z) = false := by simpa using c
        simp only [c', Bool.false_eq_true, if_false]
        have er : e.refKey = false := by
          unfold DictEntry.refKey
          rw [ek]
        revert ih
        cases MG.dget r (.str z) with
        | none => exact fun ih => ⟨ih.1, by rw [List.any_cons, er, ih.2]; rfl⟩
        | some d' => exact fun ih => ih
    · cases h1
theorem gdB_ok {L : Law} {K : PySem.W.Frag} {n : String} (h : gdB L K n = true) (z : String) : match MG.dget (L.G.get n) (.str z) with
    | none => PySem.W.nsIn K (He.ga K (sOf n)) (sOf z) = some none
    | some d => ∃ u v, PySem.W.nsIn K (He.ga K (sOf n)) (sOf z) = some (some u) ∧ RelV v u ∧ ∀ s, RD (L.mc K) s d v := by
  unfold gdB at h
  split at h
  · rename_i c od es k sl e
    have q := gdAll_ok z h
    unfold PySem.W.nsIn
    rw [e]
    revert q
    cases MG.dget (L.G.get n) (.str z) with
    | none => exact fun q => by simp only [q.1, q.2]; rfl
    | some d =>
      rintro ⟨en, q1, q2⟩
      obtain ⟨v, r1, r2⟩ := relD_ok 9 d en.val q2
      exact ⟨en.val, v, by simp only [q1], r1, r2⟩
  · cases h

/-! ### classes -/
def plB (K : PySem.W.Frag) (c : String) : Bool :=
  let C := He.ga K (sOf c)
  (He.Fa.cls (sOf c)).ok K && He.eqO (PySem.W.findIn K (.ref C) "__class__") (some (some (.builtin "object.__class__"))) && He.eqO (PySem.W.specialIn K (.builtin "object.__class__") "__get__") (some (some (.builtin "getset_descriptor.__get__")))
    && decide (PySem.W.takesIn K (.builtin "object.__class__") = some true) && decide (PySem.W.mroIn K C (.type "object") = some true)
    && decide (PySem.W.kitOne K (.ref C) (.type "int") = some false) && decide (PySem.W.kitOne K (.ref C) (.type "bool") = some false) && decide (PySem.W.kitOne K (.ref C) (.type "str") = some false)
    && decide (PySem.W.kitOne K (.ref C) (.type "tuple") = some false) && decide (PySem.W.kitOne K (.ref C) (.type "list") = some false) && decide (PySem.W.kitAny K (.ref C) [.type "tuple", .type "list"] = some false)
theorem plB_ok {K : PySem.W.Frag} {c : String} (h : plB K c = true) : PlainC K (He.ga K (sOf c)) := by
  unfold plB at h
  simp only [Bool.and_eq_true, decide_eq_true_eq] at h
  obtain ⟨⟨⟨⟨⟨⟨⟨⟨⟨⟨h1, h2⟩, h3⟩, h4⟩, h5⟩, h6⟩, h7⟩, h8⟩, h9⟩, h10⟩, h11⟩ := h
  exact ⟨He.cls_ok h1, He.eqO_ok h2, He.eqO_ok h3, h4, h5, h6, h7, h8, h9, h10, h11⟩

/-! ### all facts of the module, one Bool -/
def exB (L : Law) (K : PySem.W.Frag) : Bool :=
  (L.g.cst.all fun p => match PySem.W.nsIn K mainGlobals p.1 with
    | some (some u) => relD L K 9 p.2 u
    | _ => false) &&
  (L.g.blt.all fun x => (He.Fa.free x).ok K) && (L.clss.all fun c => plB K c) &&
  (L.g.flds.all fun f => L.clss.all fun c => (He.Fa.noat (sOf c) (sOf f)).ok K) && (L.dics.all fun n => gdB L K n) &&
  (L.g.fns.all fun f => (He.Fa.glo (sOf f)).ok K) && (L.g.meths.all fun p => (He.Fa.meth (sOf p.1) (sOf p.2)).ok K) &&
  (L.g.makes.all fun c => (He.Fa.glo (sOf c)).ok K && (He.Fa.mkr (sOf c)).ok K)
/-- what the kernel checks of the data, without the module -/
def scB (N ps : List PySem.Str) (sc : Scope) : Bool :=
  (match sc.kind with | .function => true | _ => false) && !sc.isCoroutine && !sc.isGenerator && decide N.Nodup && decide (N.take ps.length = ps) &&
  (ps.all fun x => match sc.names.lookup x with | some .local => true | some .cell => true | _ => false) && (sc.names.all fun y => match y.2 with | .free => false | _ => true)
theorem scB_ok {N ps : List PySem.Str} {sc : Scope} (h : scB N ps sc = true) : FnScope N ps sc := by
  unfold scB at h
  simp only [Bool.and_eq_true, decide_eq_true_eq] at h
  obtain ⟨⟨⟨⟨⟨⟨h1, h2⟩, h3⟩, h4⟩, h5⟩, h6⟩, h7⟩ := h
  refine ⟨?_, by simpa using h2, by simpa using h3, h4, h5, fun x hx => ?_, fun y hy e => ?_⟩
  · split at h1
    · assumption
    · cases h1
  · have q := List.all_eq_true.mp h6 x hx
    split at q
    · rename_i e; exact .inl e
    · rename_i e; exact .inr e
    · cases q
  · have q := List.all_eq_true.mp h7 y hy
    simp only [e] at q
    cases q
def dfB (g : Gm) (D : Dd) : Bool := scB D.N D.ps (defScope D.st) && decide (D.d.np = D.ps.length) && decide (D.d.ns = D.N.length) && repS g D.d.body ⟨D.N, defScope D.st, fun _ => true⟩ (.many (defBody D.st))
def linkB (L : Law) : Bool :=
  (L.g.fns.all fun f => L.defs.any fun D => D.f == f && decide (D.at_ = (sOf f, none))) &&
  (L.g.meths.all fun p => L.clss.contains p.1 && L.defs.any fun D => D.f == p.1 ++ "." ++ p.2 && decide (D.at_ = (sOf p.1, some (sOf p.2)))) &&
  (L.g.makes.all fun c => L.clss.contains c && L.defs.any fun D => D.f == c ++ ".__init__" && decide (D.at_ = (sOf c, some ("__init__" : PySem.Str))))
/-- what is said of each def of a list -/
def Each (p : Dd → Prop) : List Dd → Prop
  | [] => True
  | D :: r => p D ∧ Each p r
theorem Each.mem {p : Dd → Prop} : ∀ {l : List Dd}, Each p l → ∀ D ∈ l, p D
  | [], _, _, h => by cases h
  | _ :: _, ⟨h, r⟩, D, m => by
    rcases List.mem_cons.mp m with e | m
    · rw [e]; exact h
    · exact r.mem D m
def BindOk (D : Dd) : Prop := ∀ (kV doc pm : Value) (an : Option Addr) (cdv ct : Value) (us : List Value), us.length = D.ps.length → bindArgs (PySem.W.fnOf D.x D.qual (defArgs D.st) (defBody D.st) (defScope D.st) .none kV doc pm an cdv ct) ⟨us, []⟩ = pure (D.ps.zip us)
structure LawOk (L : Law) : Prop where
  df : L.defs.all (dfB L.g) = true
  link : linkB L = true
  bind : Each BindOk L.defs
  pr : Each (fun D => L.Pr D.f = some D.d) L.defs
def Law.fn (L : Law) : List He.DefD := L.defs.map Dd.dd
def Law.tabs (L : Law) : List He.Tab := L.dics.map fun n => (fun K => He.ga K (sOf n), (L.G.get n).map fun p => match p.1 with | .str z => sOf z | _ => sOf "")
theorem fun_of {K : PySem.W.Frag} {x qual : PySem.Str} {st : Stmt} {f : Addr} {fd : FuncData} (F : FunD K x qual (defArgs st) (defBody st) (defScope st) [] [] f fd) : Fun K x qual st f fd := by
  obtain ⟨oc, od, dV, kV, doc, pm, an, cdv, ct, osl, rfl, lk, hcd, hD, hK⟩ := F.ex
  rcases hD with ⟨_, rfl⟩ | ⟨e, _⟩
  · exact ⟨⟨oc, od, kV, doc, pm, an, cdv, ct, osl, rfl, lk, hcd⟩, F.kp⟩
  · exact absurd rfl e
theorem mok_of {L : Law} {P : Program} {w : World} {K : PySem.W.Frag} {h : Heap} {mg : PySem.Str → Option Value} {base : Heap} (O : LawOk L) (X : K.In h) (G : h.Ns mainGlobals mg) (c : He.SaysX [] L.fn L.tabs [] (exB L) w h K) :
    MOk P w K mg base (L.mc K) L.g L.Pr (L.defs.map (Dd.df K)) := by
  have ex := c.more
  unfold exB at ex
  simp only [Bool.and_eq_true] at ex
  obtain ⟨⟨⟨⟨⟨⟨⟨x1, x2⟩, x3⟩, x4⟩, x5⟩, x6⟩, x7⟩, x8⟩ := ex
  have lk := O.link
  unfold linkB at lk
  simp only [Bool.and_eq_true] at lk
  obtain ⟨⟨l1, l2⟩, l3⟩ := lk
  have clsE : ∀ z C, (L.mc K).cls z = some C → L.clss.contains z = true ∧ C = He.ga K (sOf z) := fun z C e => by
    have e : (if L.clss.contains z = true then some (He.ga K (sOf z)) else none) = some C := e
    by_cases q : L.clss.contains z = true
    · rw [if_pos q] at e; cases e; exact ⟨q, rfl⟩
    · rw [if_neg q] at e; cases e
  have clsI : ∀ z, L.clss.contains z = true → (L.mc K).cls z = some (He.ga K (sOf z)) := fun z q => by
    show (if L.clss.contains z = true then some (He.ga K (sOf z)) else none) = _
    rw [if_pos q]
  refine ⟨rfl, fun n a e => ?_, fun z C e => ?_, fun x d e => ?_, fun x hx => ?_, fun f hf z C e => ?_, fun D' hD' => ?_, fun f hf => ?_, fun p hp => ?_, fun z hz => ?_, rfl⟩
  · have e : (if L.dics.contains n = true then some (He.ga K (sOf n)) else none) = some a := e
    by_cases q : L.dics.contains n = true
    · rw [if_pos q] at e
      cases e
      have hn : n ∈ L.dics := by simpa using q
      refine ⟨?_, gdB_ok (List.all_eq_true.mp x5 n hn)⟩
      obtain ⟨i, hi, ei⟩ := List.mem_iff_getElem.mp hn
      have ht : L.tabs[i]? = some (fun K => He.ga K (sOf n), (L.G.get n).map fun p => match p.1 with | .str z => sOf z | _ => sOf "") := by
        unfold Law.tabs
        rw [List.getElem?_map, List.getElem?_eq_getElem hi, ei]
        rfl
      exact c.t.tab i ht
    · rw [if_neg q] at e; cases e
  · obtain ⟨q, rfl⟩ := clsE z C e
    exact plB_ok (List.all_eq_true.mp x3 z (by simpa using q))
  · have hm : (x, d) ∈ L.g.cst := PySem.mem_of_lookup e
    have q := List.all_eq_true.mp x1 (x, d) hm
    simp only at q
    split at q
    · rename_i u eu
      obtain ⟨v, r1, r2⟩ := relD_ok 9 d u q
      exact ⟨u, v, PySem.W.mg_of X G eu, r1, r2⟩
    · cases q
  · exact He.free_ok X G (List.all_eq_true.mp x2 x hx)
  · obtain ⟨q, rfl⟩ := clsE z C e
    exact He.noat_ok (List.all_eq_true.mp (List.all_eq_true.mp x4 f hf) z (by simpa using q))
  · obtain ⟨D, hD, rfl⟩ := List.mem_map.mp hD'
    have d1 := List.all_eq_true.mp O.df D hD
    unfold dfB at d1
    simp only [Bool.and_eq_true, decide_eq_true_eq] at d1
    obtain ⟨⟨⟨a1, a2⟩, a3⟩, a4⟩ := d1
    obtain ⟨fd, F⟩ := c.t.d.defs (d := D.dd) (List.mem_map.mpr ⟨D, hD, rfl⟩)
    have F' : FunD K D.x D.qual (defArgs D.st) (defBody D.st) (defScope D.st) [] [] (He.fAd K D.at_) fd := F
    exact ⟨⟨fd, fun_of F', F'.bindsN (O.bind.mem D hD)⟩, scB_ok a1, O.pr.mem D hD, a2, a3, a4⟩
  · obtain ⟨D, hD, q⟩ := List.any_eq_true.mp (List.all_eq_true.mp l1 f hf)
    simp only [Bool.and_eq_true, decide_eq_true_eq] at q
    refine ⟨D.df K, List.mem_map.mpr ⟨D, hD, rfl⟩, eq_of_beq q.1, ?_⟩
    have e : (D.df K).A = He.ga K (sOf f) := by show He.fAd K D.at_ = _; rw [q.2]; rfl
    rw [e]
    exact He.glo_ok X G (List.all_eq_true.mp x6 f hf)
  · have q := List.all_eq_true.mp l2 p hp
    simp only [Bool.and_eq_true] at q
    obtain ⟨D, hD, q2⟩ := List.any_eq_true.mp q.2
    simp only [Bool.and_eq_true, decide_eq_true_eq] at q2
    have e : (D.df K).A = He.ma K (He.ga K (sOf p.1)) (sOf p.2) := by show He.fAd K D.at_ = _; rw [q2.2]; rfl
    refine ⟨D.df K, List.mem_map.mpr ⟨D, hD, rfl⟩, He.ga K (sOf p.1), clsI p.1 q.1, eq_of_beq q2.1, (plB_ok (List.all_eq_true.mp x3 p.1 (by simpa using q.1))).cl, ?_⟩
    rw [e]
    exact He.meth_ok (List.all_eq_true.mp x7 p hp)
  · have q := List.all_eq_true.mp l3 z hz
    simp only [Bool.and_eq_true] at q
    obtain ⟨D, hD, q2⟩ := List.any_eq_true.mp q.2
    simp only [Bool.and_eq_true, decide_eq_true_eq] at q2
    have q3 := List.all_eq_true.mp x8 z hz
    simp only [Bool.and_eq_true] at q3
    have e : (D.df K).A = He.ma K (He.ga K (sOf z)) "__init__" := by show He.fAd K D.at_ = _; rw [q2.2]; rfl
    refine ⟨D.df K, List.mem_map.mpr ⟨D, hD, rfl⟩, He.ga K (sOf z), clsI z q.1, eq_of_beq q2.1, ?_, He.glo_ok X G q3.1⟩
    rw [e]
    exact He.mkr_ok q3.2
/-- the law by its core -/
theorem law_of {L : Law} (O : LawOk L) {n : Nat} {D : Dd} {p : PySem.Str} (hD : D ∈ L.defs) (hf : D.f = "law") (hx : D.at_ = (sOf "law", none)) (hps : D.ps = [p])
    (hcore : ∀ ns : List Int, ns.length ≤ 63 → ∃ st, MG.callN L.G L.U L.Pr n "law" [.scr ns] [] = .ok (.bl true) st)
    {P : Program} {w : World} {K : PySem.W.Frag} {h : Heap} {mg : PySem.Str → Option Value} {fa : Addr} (X : K.In h) (G : h.Ns mainGlobals mg) (hfa : mg ("law" : PySem.Str) = some (.ref fa)) (c : He.SaysX [] L.fn L.tabs [] (exB L) w h K) (hfn : "law" ∈ L.g.fns) :
    ∃ (fd : FuncData) (sp : Sp), (∀ (s : Shared) (u : Value), BindsTo s fd ⟨[u], []⟩ [(p, u)]) ∧
      (∀ (H : Hp) (a : Addr) (ns : List Int), ns.length ≤ 63 → Only H → SqL K H a (ns.map V.int) → sp [.ref a] H (fun v _ => v = .bl true) fun _ _ _ => False) ∧
      ∀ base : Heap, K.In base → base.Ns mainGlobals mg → FnOk P w K mg base (L2.CX P w) (2 * n) fa fd [p] sp := by
  have hg : (He.Fa.glo (sOf "law")).ok K = true := by
    have ex := c.more
    unfold exB at ex
    simp only [Bool.and_eq_true] at ex
    exact List.all_eq_true.mp ex.1.1.2 "law" hfn
  obtain ⟨fd, F⟩ := c.t.d.defs (d := D.dd) (List.mem_map.mpr ⟨D, hD, rfl⟩)
  have F' : FunD K D.x D.qual (defArgs D.st) (defBody D.st) (defScope D.st) [] [] (He.fAd K D.at_) fd := F
  have eA : He.fAd K D.at_ = fa := by
    rw [hx]
    have := hfa.symm.trans (He.glo_ok X G hg)
    cases this
    rfl
  refine ⟨fd, spOf (L.mc K) (MG.callN L.G L.U L.Pr n) "law", fun s u => ?_, fun H a ns hl _ hS => ?_, fun base hb1 hb2 => ?_⟩
  · have q := FunD.bindsA F' (O.bind.mem D hD) s [u] (by rw [hps]; rfl)
    rw [hps] at q
    exact q
  · obtain ⟨st, e⟩ := hcore ns hl
    refine ⟨[], [], [.scr ns], ⟨rfl, List.nodup_nil, fun _ h => (nomatch h), fun r a o h => (by rw [show (([] : List Addr)[r]? = none) from rfl] at h; cases h)⟩, .cons ?_ .nil, ?_⟩
    · rcases hS with hS | hS
      · exact .scr hS fun ⟨r, o, h1, _⟩ => by simp at h1
      · exact .scrK fun H => .inr hS
    · rw [e]
      intro m' H' v _ _ r
      cases r
      rfl
  · have O2 : MOk P w K mg base (L.mc K) L.g L.Pr (L.defs.map (Dd.df K)) := mok_of O hb1 hb2 ⟨c.t, c.more, c.hd, c.out, fun p hp => (nomatch hp)⟩
    obtain ⟨fd', q1, q2, q3⟩ := all_ok (U := L.U) O2 n (D.df K) (List.mem_map.mpr ⟨D, hD, rfl⟩)
    have q1 : FnOk P w K mg base (L2.CX P w) (2 * n) (He.fAd K D.at_) fd' D.ps (spOf (L.mc K) (MG.callN L.G L.U L.Pr n) D.f) := q1
    rw [eA, hps, hf] at q1
    have : fd' = fd := by
      have q3 : Fun K D.x D.qual D.st (He.fAd K D.at_) fd' := q3
      obtain ⟨_, _, _, _, _, _, _, _, _, _, lk1, _⟩ := q3.ex
      obtain ⟨_, _, _, _, _, _, _, _, _, _, _, lk2, _⟩ := F'.ex
      rw [lk1] at lk2
      injection lk2 with e1
      injection e1 with _ _ e2 _
      injection e2
    rw [this] at q1
    exact q1
/-- an exception in whatever world -/
def CXA (P : Program) : CXT := fun outer H s E e s' => ∃ w, L2.CX P w outer H s E e s'
theorem fn_any {P : Program} {w : World} {K : PySem.W.Frag} {mg : PySem.Str → Option Value} {base : Heap} {k : Nat} {f : Addr} {fd : FuncData} {ps : List PySem.Str} {sp : Sp} (F : FnOk P w K mg base (L2.CX P w) k f fd ps sp) : FnOk P w K mg base (CXA P) k f fd ps sp :=
  ⟨F.len, fun A outer s H args us vs Q E hr he hb hv hs => codeAny_mono (F.run A outer s H args us vs Q E hr he hb hv hs) fun r s' hq => by
    cases r with
    | error e => exact ⟨w, hq⟩
    | ok fl => cases fl <;> exact hq⟩
end MGS

set_option linter.all false
set_option maxRecDepth 100000
set_option maxHeartbeats 4000000
/-! Two tables of defs that agree on some names, closed under calls, tell the same. -/
namespace MG
def clC (F : String → Bool) : C → Bool
  | .var _ => true
  | .k _ => true
  | .nil => true
  | .cons a b => clC F a && clC F b
  | .lst _ a => clC F a
  | .op1 _ a => clC F a
  | .op2 _ _ a b => clC F a && clC F b
  | .and a b => clC F a && clC F b
  | .or a b => clC F a && clC F b
  | .ite a b c => clC F a && clC F b && clC F c
  | .chain _ _ a b c => clC F a && clC F b && clC F c
  | .slc _ a b c => clC F a && clC F b && clC F c
  | .rev _ a => clC F a
  | .bi _ _ a => clC F a
  | .bm _ _ a b => clC F a && clC F b
  | .call f a => F f && clC F a
  | .meth c m a b => F (c ++ "." ++ m) && clC F a && clC F b
  | .make c a => F (c ++ ".__init__") && clC F a
  | .fld a _ => clC F a
  | .comp _ _ _ a b c => clC F a && clC F b && clC F c
  | .rng a b => clC F a && clC F b
  | .enum a => clC F a
  | .zip a b => clC F a && clC F b
  | .rrng a b => clC F a && clC F b
  | .dict _ a => clC F a
  | .frz a => clC F a
def clS (F : String → Bool) : S → Bool
  | .skip => true
  | .seq a b => clS F a && clS F b
  | .ex e => clC F e
  | .asg t e => clC F t && clC F e
  | .ret e => clC F e
  | .ife c a b => clC F c && clS F a && clS F b
  | .for_ _ it b => clC F it && clS F b
  | .while_ c b => clC F c && clS F b
  | .raise c ini es => (!ini || F (c ++ ".__init__")) && clC F es
  | .try_ b _ _ h => clS F b && clS F h
  | .cont => true
section
variable {G : GD} {U : Up} {F : String → Bool} {c1 c2 : Call}
theorem evE_agree (h : ∀ f, F f = true → c1 f = c2 f) : ∀ (c : C), clC F c = true → ∀ ρ st, evE G c1 c ρ st = evE G c2 c ρ st := by
  intro c
  induction c with
  | var i => intro _ ρ st; rfl
  | k d => intro _ ρ st; rfl
  | nil => intro _ ρ st; rfl
  | cons a b ih1 ih2 => intro hc ρ st; simp only [clC, Bool.and_eq_true] at hc; simp only [evE, ih1 hc.1, ih2 hc.2]
  | lst own a ih => intro hc ρ st; simp only [evE, ih hc]
  | op1 o a ih => intro hc ρ st; simp only [evE, ih hc]
  | op2 o own a b ih1 ih2 => intro hc ρ st; simp only [clC, Bool.and_eq_true] at hc; simp only [evE, ih1 hc.1, ih2 hc.2]
  | and a b ih1 ih2 => intro hc ρ st; simp only [clC, Bool.and_eq_true] at hc; simp only [evE, ih1 hc.1, ih2 hc.2]
  | or a b ih1 ih2 => intro hc ρ st; simp only [clC, Bool.and_eq_true] at hc; simp only [evE, ih1 hc.1, ih2 hc.2]
  | ite a b c ih1 ih2 ih3 => intro hc ρ st; simp only [clC, Bool.and_eq_true] at hc; simp only [evE, ih1 hc.1.1, ih2 hc.1.2, ih3 hc.2]
  | chain o1 o2 a b c ih1 ih2 ih3 => intro hc ρ st; simp only [clC, Bool.and_eq_true] at hc; simp only [evE, ih1 hc.1.1, ih2 hc.1.2, ih3 hc.2]
  | slc own a b c ih1 ih2 ih3 => intro hc ρ st; simp only [clC, Bool.and_eq_true] at hc; simp only [evE, ih1 hc.1.1, ih2 hc.1.2, ih3 hc.2]
  | rev own a ih => intro hc ρ st; simp only [evE, ih hc]
  | bi f own a ih => intro hc ρ st; simp only [evE, ih hc]
  | bm f own a b ih1 ih2 => intro hc ρ st; simp only [clC, Bool.and_eq_true] at hc; simp only [evE, ih1 hc.1, ih2 hc.2]
  | call f a ih => intro hc ρ st; simp only [clC, Bool.and_eq_true] at hc; simp only [evE, ih hc.2, h f hc.1]
  | meth c m a b ih1 ih2 => intro hc ρ st; simp only [clC, Bool.and_eq_true] at hc; simp only [evE, ih1 hc.1.2, ih2 hc.2, h _ hc.1.1]
  | make c a ih => intro hc ρ st; simp only [clC, Bool.and_eq_true] at hc; simp only [evE, ih hc.2, h _ hc.1]
  | fld a f ih => intro hc ρ st; simp only [evE, ih hc]
  | comp own vs t a b c iht ih1 ih2 ih3 => intro hc ρ st; simp only [clC, Bool.and_eq_true] at hc; simp only [evE, ih1 hc.1.1, ih2 hc.1.2, ih3 hc.2]
  | rng a b ih1 ih2 => intro hc ρ st; simp only [clC, Bool.and_eq_true] at hc; simp only [evE, ih1 hc.1, ih2 hc.2]
  | enum a ih => intro hc ρ st; simp only [evE, ih hc]
  | zip a b ih1 ih2 => intro hc ρ st; simp only [clC, Bool.and_eq_true] at hc; simp only [evE, ih1 hc.1, ih2 hc.2]
  | rrng a b ih1 ih2 => intro hc ρ st; simp only [clC, Bool.and_eq_true] at hc; simp only [evE, ih1 hc.1, ih2 hc.2]
  | dict tk a ih => intro hc ρ st; simp only [evE, ih hc]
  | frz a ih => intro hc ρ st; simp only [evE, ih hc]
theorem asgT_agree (h : ∀ f, F f = true → c1 f = c2 f) : ∀ (t : C), clC F t = true → ∀ d ρ st, asgT G c1 t d ρ st = asgT G c2 t d ρ st := by
  intro t
  induction t with
  | var i => intro _ d ρ st; rfl
  | nil => intro _ d ρ st; cases d <;> first | rfl | (rename_i l; cases l <;> rfl)
  | cons a b ih1 ih2 =>
    intro hc d ρ st
    simp only [clC, Bool.and_eq_true] at hc
    cases d <;> first | rfl | skip
    rename_i l
    cases l
    · rfl
    · simp only [asgT, ih1 hc.1, ih2 hc.2]
  | fld a f ih => intro hc d ρ st; simp only [asgT, evE_agree h a hc]
  | op2 o own a b ih1 ih2 =>
    intro hc d ρ st
    simp only [clC, Bool.and_eq_true] at hc
    cases o <;> first | rfl | simp only [asgT, evE_agree h a hc.1, evE_agree h b hc.2]
  | _ => intro _ d ρ st; rfl
theorem evS_agree (h : ∀ f, F f = true → c1 f = c2 f) : ∀ (s : S), clS F s = true → ∀ ρ st, evS G U c1 s ρ st = evS G U c2 s ρ st := by
  intro s
  induction s with
  | skip => intro _ ρ st; rfl
  | seq a b ih1 ih2 => intro hc ρ st; simp only [clS, Bool.and_eq_true] at hc; simp only [evS, ih1 hc.1, ih2 hc.2]
  | ex e => intro hc ρ st; simp only [evS, evE_agree h e hc]
  | asg t e => intro hc ρ st; simp only [clS, Bool.and_eq_true] at hc; simp only [evS, evE_agree h e hc.2, asgT_agree h t hc.1]
  | ret e => intro hc ρ st; simp only [evS, evE_agree h e hc]
  | ife c a b ih1 ih2 => intro hc ρ st; simp only [clS, Bool.and_eq_true] at hc; simp only [evS, evE_agree h c hc.1.1, ih1 hc.1.2, ih2 hc.2]
  | for_ t it b ih => intro hc ρ st; simp only [clS, Bool.and_eq_true] at hc; simp only [evS, evE_agree h it hc.1, ih hc.2]
  | while_ c b ih => intro hc ρ st; simp only [clS, Bool.and_eq_true] at hc; simp only [evS, evE_agree h c hc.1, ih hc.2]
  | raise c ini es =>
    intro hc ρ st
    simp only [clS, Bool.and_eq_true] at hc
    cases ini with
    | false => simp only [evS, evE_agree h es hc.2, if_true]
    | true =>
      have h1 : F (c ++ ".__init__") = true := by simpa using hc.1
      simp only [evS, evE_agree h es hc.2, h _ h1]
  | try_ b cs v hh ih1 ih2 => intro hc ρ st; simp only [clS, Bool.and_eq_true] at hc; simp only [evS, ih1 hc.1, ih2 hc.2]
  | cont => intro _ ρ st; rfl
/-- the names F of P and of P', closed under calls -/
def closedB (F : List String) (P : Prog) : Bool := F.all fun f => match P f with
  | some d => clS (fun g => F.contains g) d.body
  | none => false
theorem callN_agree {P P' : Prog} {F : List String} (hF : ∀ f ∈ F, P f = P' f) (hc : closedB F P' = true) : ∀ (n : Nat) (f : String), F.contains f = true → callN G U P n f = callN G U P' n f := by
  intro n
  induction n with
  | zero => intro f hf; funext args st; rw [callN_zero, callN_zero]
  | succ n ih =>
    intro f hf
    have hm : f ∈ F := by simpa using hf
    have hd := List.all_eq_true.mp hc f hm
    funext args st
    rw [callN_succ, callN_succ, hF f hm]
    cases e : P' f with
    | none => rfl
    | some d =>
      rw [e] at hd
      simp only at hd ⊢
      rw [evS_agree (F := fun g => F.contains g) (c1 := callN G U P n) (c2 := callN G U P' n) ih d.body hd]
end
end MG

set_option linter.all false
set_option maxRecDepth 100000
namespace MP
open MG
/- BadProgram.__init__: 0 self 1 part 2 number -/
def f_BadProgram___init__ : Fn := ⟨3, 3,
  (.seq .skip
  (.seq (.asg (.fld (.var 0) "part") (.var 1))
  (.seq (.asg (.fld (.var 0) "number") (.var 2))
  .skip)))⟩
/- is_whole: 0 number 1 low 2 high -/
def f_is_whole : Fn := ⟨3, 3,
  (.seq (.ret (.and (.bi .isInt false (.cons (.var 0) .nil)) (.and (.op1 .not (.bi .isBool false (.cons (.var 0) .nil))) (.chain .le .le (.var 1) (.var 0) (.var 2)))))
  .skip)⟩
/- is_field: 0 field 1 many -/
def f_is_field : Fn := ⟨2, 2,
  (.seq (.ret (.or (.call "is_whole" (.cons (.var 0) (.cons (.k (.int 0)) (.cons (.op2 .sub false (.var 1) (.k (.int 1))) .nil)))) (.and (.bi .isStr false (.cons (.var 0) .nil)) (.op2 .eq false (.var 0) (.k (.str "n"))))))
  .skip)⟩
/- is_class: 0 one 1 number 2 many 3 field -/
def f_is_class : Fn := ⟨3, 4,
  (.seq (.ife (.or (.op1 .not (.bi .isTup false (.cons (.var 0) .nil))) (.or (.op2 .ne false (.bi .len false (.cons (.var 0) .nil)) (.k (.int 2))) (.or (.op1 .not (.bi .isTup false (.cons (.op2 .idx false (.var 0) (.k (.int 1))) .nil))) (.op2 .gt false (.bi .len false (.cons (.op2 .idx false (.var 0) (.k (.int 1))) .nil)) (.k (.int 3))))))
  (.seq (.ret (.k (.bl false)))
  .skip)
  .skip)
  (.seq (.ife (.ite (.op2 .eq false (.var 1) (.k (.int 0))) (.op1 .notN (.op2 .idx false (.var 0) (.k (.int 0)))) (.op1 .not (.call "is_whole" (.cons (.op2 .idx false (.var 0) (.k (.int 0))) (.cons (.k (.int 0)) (.cons (.op2 .sub false (.var 1) (.k (.int 1))) .nil))))))
  (.seq (.ret (.k (.bl false)))
  .skip)
  .skip)
  (.seq (.ret (.op2 .eq false (.comp false [3] (.var 3) (.op2 .idx false (.var 0) (.k (.int 1))) (.op1 .not (.call "is_field" (.cons (.var 3) (.cons (.var 2) .nil)))) (.var 3)) (.lst false .nil)))
  .skip)))⟩
/- Looker.__init__: 0 self 1 program -/
def f_Looker___init__ : Fn := ⟨2, 2,
  (.seq (.asg (.cons (.fld (.var 0) "classes") (.cons (.fld (.var 0) "params") (.cons (.fld (.var 0) "boxes") (.cons (.fld (.var 0) "room") (.cons (.fld (.var 0) "rows") (.cons (.fld (.var 0) "handlers") .nil)))))) (.var 1))
  .skip)⟩
/- Looker.need_classes: 0 self 1 number 2 one -/
def f_Looker_need_classes : Fn := ⟨1, 3,
  (.seq (.ife (.or (.op1 .not (.bi .isTup false (.cons (.fld (.var 0) "classes") .nil))) (.op2 .eq false (.fld (.var 0) "classes") .nil))
  (.seq (.raise "BadProgram" true (.cons (.k (.str "class")) (.cons (.k (.int 0)) .nil)))
  .skip)
  .skip)
  (.seq (.for_ (.cons (.var 1) (.cons (.var 2) .nil)) (.enum (.fld (.var 0) "classes"))
  (.seq (.ife (.or (.op2 .ge false (.var 1) (.k (.int 6))) (.op1 .not (.call "is_class" (.cons (.var 2) (.cons (.var 1) (.cons (.bi .len false (.cons (.fld (.var 0) "classes") .nil)) .nil))))))
  (.seq (.raise "BadProgram" true (.cons (.k (.str "class")) (.cons (.var 1) .nil)))
  .skip)
  .skip)
  .skip))
  .skip))⟩
/- Looker.need_sizes: 0 self 1 one -/
def f_Looker_need_sizes : Fn := ⟨1, 2,
  (.seq (.ife (.or (.op1 .not (.bi .isTup false (.cons (.fld (.var 0) "params") .nil))) (.op2 .gt false (.bi .len false (.cons (.fld (.var 0) "params") .nil)) (.k (.int 4))))
  (.seq (.raise "BadProgram" true (.cons (.k (.str "params")) (.cons (.k (.int 0)) .nil)))
  .skip)
  .skip)
  (.seq (.ife (.op2 .ne false (.comp false [1] (.var 1) (.fld (.var 0) "params") (.op1 .not (.call "is_field" (.cons (.var 1) (.cons (.bi .len false (.cons (.fld (.var 0) "classes") .nil)) .nil)))) (.var 1)) (.lst false .nil))
  (.seq (.raise "BadProgram" true (.cons (.k (.str "params")) (.cons (.k (.int 0)) .nil)))
  .skip)
  .skip)
  (.seq (.ife (.op1 .not (.call "is_whole" (.cons (.fld (.var 0) "boxes") (.cons (.bi .len false (.cons (.fld (.var 0) "params") .nil)) (.cons (.k (.int 6)) .nil)))))
  (.seq (.raise "BadProgram" true (.cons (.k (.str "boxes")) (.cons (.k (.int 0)) .nil)))
  .skip)
  .skip)
  (.seq (.ife (.op1 .not (.call "is_whole" (.cons (.fld (.var 0) "room") (.cons (.k (.int 0)) (.cons (.k (.int 8)) .nil)))))
  (.seq (.raise "BadProgram" true (.cons (.k (.str "room")) (.cons (.k (.int 0)) .nil)))
  .skip)
  .skip)
  .skip))))⟩
/- Looker.is_part: 0 self 1 part 2 sort 3 row 4 most -/
def f_Looker_is_part : Fn := ⟨4, 5,
  (.seq (.ife (.op2 .eq false (.var 2) (.k (.str "f")))
  (.seq (.ret (.call "is_whole" (.cons (.var 1) (.cons (.k (.int 0)) (.cons (.op2 .sub false (.bi .len false (.cons (.op2 .idx false (.op2 .idx false (.fld (.var 0) "classes") (.op2 .idx false (.var 3) (.k (.int 1)))) (.k (.int 1))) .nil)) (.k (.int 1))) .nil)))))
  .skip)
  .skip)
  (.seq (.ife (.op2 .eq false (.var 2) (.k (.str "w")))
  (.seq (.ret (.and (.call "is_whole" (.cons (.var 1) (.cons (.k (.int 0)) (.cons (.op2 .sub false (.bi .len false (.cons (.fld (.var 0) "rows") .nil)) (.k (.int 1))) .nil)))) (.call "is_new" (.cons (.op2 .idx false (.fld (.var 0) "rows") (.var 1)) .nil))))
  .skip)
  .skip)
  (.seq (.asg (.var 4) (.op2 .idx false (.dict false (.cons (.k (.str "v")) (.cons (.k (.int 999)) (.cons (.k (.str "k")) (.cons (.op2 .sub false (.bi .len false (.cons (.fld (.var 0) "classes") .nil)) (.k (.int 1))) (.cons (.k (.str "b")) (.cons (.op2 .sub true (.fld (.var 0) "boxes") (.k (.int 1))) (.cons (.k (.str "r")) (.cons (.op2 .sub false (.bi .len false (.cons (.fld (.var 0) "rows") .nil)) (.k (.int 1))) .nil))))))))) (.var 2)))
  (.seq (.ret (.call "is_whole" (.cons (.var 1) (.cons (.k (.int 0)) (.cons (.var 4) .nil)))))
  .skip))))⟩
/- Looker.is_row: 0 self 1 row 2 form 3 k -/
def f_Looker_is_row : Fn := ⟨2, 4,
  (.seq (.ife (.or (.op1 .not (.bi .isTup false (.cons (.var 1) .nil))) (.or (.op2 .eq false (.var 1) .nil) (.op1 .not (.bi .isStr false (.cons (.op2 .idx false (.var 1) (.k (.int 0))) .nil)))))
  (.seq (.ret (.k (.bl false)))
  .skip)
  .skip)
  (.seq (.asg (.var 2) (.bm .get1 false (.k (.gd "FORMS")) (.cons (.op2 .idx false (.var 1) (.k (.int 0))) .nil)))
  (.seq (.ife (.or (.op1 .isN (.var 2)) (.op2 .ne false (.bi .len false (.cons (.var 1) .nil)) (.op2 .add false (.k (.int 1)) (.bi .len false (.cons (.var 2) .nil)))))
  (.seq (.ret (.k (.bl false)))
  .skip)
  .skip)
  (.seq (.for_ (.var 3) (.rng (.k (.int 0)) (.bi .len false (.cons (.var 2) .nil)))
  (.seq (.ife (.op1 .not (.meth "Looker" "is_part" (.var 0) (.cons (.op2 .idx false (.var 1) (.op2 .add false (.k (.int 1)) (.var 3))) (.cons (.op2 .idx false (.var 2) (.var 3)) (.cons (.var 1) .nil)))))
  (.seq (.ret (.k (.bl false)))
  .skip)
  .skip)
  .skip))
  (.seq (.ret (.k (.bl true)))
  .skip)))))⟩
/- Looker.is_handler: 0 self 1 one -/
def f_Looker_is_handler : Fn := ⟨2, 2,
  (.seq (.ife (.or (.op1 .not (.bi .isTup false (.cons (.var 1) .nil))) (.or (.op2 .ne false (.bi .len false (.cons (.var 1) .nil)) (.k (.int 4))) (.op1 .not (.call "is_whole" (.cons (.op2 .idx false (.var 1) (.k (.int 0))) (.cons (.k (.int 0)) (.cons (.op2 .sub false (.bi .len false (.cons (.fld (.var 0) "rows") .nil)) (.k (.int 1))) .nil)))))))
  (.seq (.ret (.k (.bl false)))
  .skip)
  .skip)
  (.seq (.ife (.or (.op1 .not (.call "is_whole" (.cons (.op2 .idx false (.var 1) (.k (.int 1))) (.cons (.op2 .add false (.op2 .idx false (.var 1) (.k (.int 0))) (.k (.int 1))) (.cons (.bi .len false (.cons (.fld (.var 0) "rows") .nil)) .nil))))) (.op1 .not (.call "is_whole" (.cons (.op2 .idx false (.var 1) (.k (.int 2))) (.cons (.k (.int 0)) (.cons (.op2 .sub false (.bi .len false (.cons (.fld (.var 0) "rows") .nil)) (.k (.int 1))) .nil))))))
  (.seq (.ret (.k (.bl false)))
  .skip)
  .skip)
  (.seq (.ret (.call "is_whole" (.cons (.op2 .idx false (.var 1) (.k (.int 3))) (.cons (.k (.int 0)) (.cons (.op2 .sub false (.bi .len false (.cons (.fld (.var 0) "classes") .nil)) (.k (.int 1))) .nil)))))
  .skip)))⟩
/- Looker.need_rows: 0 self 1 number 2 row 3 one -/
def f_Looker_need_rows : Fn := ⟨1, 4,
  (.seq (.ife (.or (.op1 .not (.bi .isTup false (.cons (.fld (.var 0) "rows") .nil))) (.op2 .eq false (.fld (.var 0) "rows") .nil))
  (.seq (.raise "BadProgram" true (.cons (.k (.str "row")) (.cons (.k (.int 0)) .nil)))
  .skip)
  .skip)
  (.seq (.for_ (.cons (.var 1) (.cons (.var 2) .nil)) (.enum (.fld (.var 0) "rows"))
  (.seq (.ife (.or (.op2 .ge false (.var 1) (.k (.int 40))) (.op1 .not (.meth "Looker" "is_row" (.var 0) (.cons (.var 2) .nil))))
  (.seq (.raise "BadProgram" true (.cons (.k (.str "row")) (.cons (.var 1) .nil)))
  .skip)
  .skip)
  .skip))
  (.seq (.ife (.op1 .not (.bi .isTup false (.cons (.fld (.var 0) "handlers") .nil)))
  (.seq (.raise "BadProgram" true (.cons (.k (.str "handler")) (.cons (.k (.int 0)) .nil)))
  .skip)
  .skip)
  (.seq (.for_ (.cons (.var 1) (.cons (.var 3) .nil)) (.enum (.fld (.var 0) "handlers"))
  (.seq (.ife (.or (.op2 .ge false (.var 1) (.k (.int 4))) (.op1 .not (.meth "Looker" "is_handler" (.var 0) (.cons (.var 3) .nil))))
  (.seq (.raise "BadProgram" true (.cons (.k (.str "handler")) (.cons (.var 1) .nil)))
  .skip)
  .skip)
  .skip))
  .skip))))⟩
/- is_new: 0 row -/
def f_is_new : Fn := ⟨1, 1,
  (.seq (.ret (.and (.bi .isTup false (.cons (.var 0) .nil)) (.and (.op2 .eq false (.bi .len false (.cons (.var 0) .nil)) (.k (.int 2))) (.and (.bi .isStr false (.cons (.op2 .idx false (.var 0) (.k (.int 0))) .nil)) (.op2 .eq false (.op2 .idx false (.var 0) (.k (.int 0))) (.k (.str "new")))))))
  .skip)⟩
/- need_program: 0 program 1 looker -/
def f_need_program : Fn := ⟨1, 2,
  (.seq (.ife (.or (.op1 .not (.bi .isTup false (.cons (.var 0) .nil))) (.op2 .ne false (.bi .len false (.cons (.var 0) .nil)) (.k (.int 6))))
  (.seq (.raise "BadProgram" true (.cons (.k (.str "class")) (.cons (.k (.int 0)) .nil)))
  .skip)
  .skip)
  (.seq (.asg (.var 1) (.make "Looker" (.cons (.var 0) .nil)))
  (.seq (.ex (.meth "Looker" "need_classes" (.var 1) .nil))
  (.seq (.ex (.meth "Looker" "need_sizes" (.var 1) .nil))
  (.seq (.ex (.meth "Looker" "need_rows" (.var 1) .nil))
  .skip)))))⟩
/- is_sort: 0 program 1 sort -/
def f_is_sort : Fn := ⟨2, 2,
  (.seq (.ife (.bi .isStr false (.cons (.var 1) .nil))
  (.seq (.ret (.op2 .in_ false (.var 1) (.cons (.k (.str "n")) (.cons (.k (.str "none")) (.cons (.k (.str "any")) (.cons (.k (.str "unset")) .nil))))))
  .skip)
  .skip)
  (.seq (.ife (.or (.op1 .not (.bi .isTup false (.cons (.var 1) .nil))) (.or (.op2 .ne false (.bi .len false (.cons (.var 1) .nil)) (.k (.int 2))) (.op1 .not (.bi .isStr false (.cons (.op2 .idx false (.var 1) (.k (.int 0))) .nil)))))
  (.seq (.ret (.k (.bl false)))
  .skip)
  .skip)
  (.seq (.ife (.op2 .eq false (.op2 .idx false (.var 1) (.k (.int 0))) (.k (.str "of")))
  (.seq (.ret (.call "is_whole" (.cons (.op2 .idx false (.var 1) (.k (.int 1))) (.cons (.k (.int 0)) (.cons (.op2 .sub false (.bi .len false (.cons (.op2 .idx false (.var 0) (.k (.int 0))) .nil)) (.k (.int 1))) .nil)))))
  .skip)
  .skip)
  (.seq (.ret (.and (.op2 .eq false (.op2 .idx false (.var 1) (.k (.int 0))) (.k (.str "unborn"))) (.and (.call "is_whole" (.cons (.op2 .idx false (.var 1) (.k (.int 1))) (.cons (.k (.int 0)) (.cons (.op2 .sub false (.bi .len false (.cons (.op2 .idx false (.var 0) (.k (.int 4))) .nil)) (.k (.int 1))) .nil)))) (.call "is_new" (.cons (.op2 .idx false (.op2 .idx false (.var 0) (.k (.int 4))) (.op2 .idx false (.var 1) (.k (.int 1)))) .nil)))))
  .skip))))⟩
/- is_stand: 0 program 1 stand 2 sort -/
def f_is_stand : Fn := ⟨2, 3,
  (.seq (.ife (.or (.op1 .not (.bi .isTup false (.cons (.var 1) .nil))) (.op2 .ne false (.bi .len false (.cons (.var 1) .nil)) (.k (.int 2))))
  (.seq (.ret (.k (.bl false)))
  .skip)
  .skip)
  (.seq (.ife (.or (.op1 .not (.bi .isTup false (.cons (.op2 .idx false (.var 1) (.k (.int 0))) .nil))) (.op1 .not (.bi .isTup false (.cons (.op2 .idx false (.var 1) (.k (.int 1))) .nil))))
  (.seq (.ret (.k (.bl false)))
  .skip)
  .skip)
  (.seq (.ife (.or (.op2 .ne false (.bi .len false (.cons (.op2 .idx false (.var 1) (.k (.int 0))) .nil)) (.op2 .idx false (.var 0) (.k (.int 2)))) (.op2 .gt false (.bi .len false (.cons (.op2 .idx false (.var 1) (.k (.int 1))) .nil)) (.op2 .idx false (.var 0) (.k (.int 3)))))
  (.seq (.ret (.k (.bl false)))
  .skip)
  .skip)
  (.seq (.ret (.op2 .eq false (.comp false [2] (.var 2) (.op2 .add false (.op2 .idx false (.var 1) (.k (.int 0))) (.op2 .idx false (.var 1) (.k (.int 1)))) (.op1 .not (.call "is_sort" (.cons (.var 0) (.cons (.var 2) .nil)))) (.var 2)) (.lst false .nil)))
  .skip))))⟩
/- is_thing: 0 sort -/
def f_is_thing : Fn := ⟨1, 1,
  (.seq (.ret (.or (.op2 .eq false (.var 0) (.k (.str "none"))) (.and (.bi .isTup false (.cons (.var 0) .nil)) (.op2 .eq false (.op2 .idx false (.var 0) (.k (.int 0))) (.k (.str "of"))))))
  .skip)⟩
/- is_below: 0 classes 1 one 2 other -/
def f_is_below : Fn := ⟨3, 3,
  (.seq (.while_ (.and (.op1 .notN (.var 1)) (.op2 .ne false (.var 1) (.var 2)))
  (.seq (.asg (.var 1) (.op2 .idx false (.op2 .idx false (.var 0) (.var 1)) (.k (.int 0))))
  .skip))
  (.seq (.ret (.op1 .notN (.var 1)))
  .skip))⟩
/- common: 0 classes 1 one 2 other -/
def f_common : Fn := ⟨3, 3,
  (.seq (.while_ (.op1 .not (.call "is_below" (.cons (.var 0) (.cons (.var 2) (.cons (.var 1) .nil)))))
  (.seq (.asg (.var 1) (.op2 .idx false (.op2 .idx false (.var 0) (.var 1)) (.k (.int 0))))
  .skip))
  (.seq (.ret (.var 1))
  .skip))⟩
/- is_fit: 0 classes 1 one 2 other -/
def f_is_fit : Fn := ⟨3, 3,
  (.seq (.ife (.or (.op2 .eq false (.var 2) (.k (.str "unset"))) (.op2 .eq false (.var 1) (.var 2)))
  (.seq (.ret (.k (.bl true)))
  .skip)
  .skip)
  (.seq (.ife (.op2 .eq false (.var 2) (.k (.str "any")))
  (.seq (.ret (.or (.op2 .eq false (.var 1) (.k (.str "n"))) (.call "is_thing" (.cons (.var 1) .nil))))
  .skip)
  .skip)
  (.seq (.ife (.or (.op1 .not (.call "is_thing" (.cons (.var 1) .nil))) (.or (.op1 .not (.call "is_thing" (.cons (.var 2) .nil))) (.op2 .eq false (.var 2) (.k (.str "none")))))
  (.seq (.ret (.k (.bl false)))
  .skip)
  .skip)
  (.seq (.ret (.or (.op2 .eq false (.var 1) (.k (.str "none"))) (.call "is_below" (.cons (.var 0) (.cons (.op2 .idx false (.var 1) (.k (.int 1))) (.cons (.op2 .idx false (.var 2) (.k (.int 1))) .nil))))))
  .skip))))⟩
/- joined: 0 classes 1 one 2 other -/
def f_joined : Fn := ⟨3, 3,
  (.seq (.ife (.call "is_fit" (.cons (.var 0) (.cons (.var 1) (.cons (.var 2) .nil))))
  (.seq (.ret (.var 2))
  .skip)
  .skip)
  (.seq (.ife (.call "is_fit" (.cons (.var 0) (.cons (.var 2) (.cons (.var 1) .nil))))
  (.seq (.ret (.var 1))
  .skip)
  .skip)
  (.seq (.ife (.and (.call "is_thing" (.cons (.var 1) .nil)) (.call "is_thing" (.cons (.var 2) .nil)))
  (.seq (.ret (.cons (.k (.str "of")) (.cons (.call "common" (.cons (.var 0) (.cons (.op2 .idx false (.var 1) (.k (.int 1))) (.cons (.op2 .idx false (.var 2) (.k (.int 1))) .nil)))) .nil)))
  .skip)
  .skip)
  (.seq (.ret (.ite (.and (.call "is_fit" (.cons (.var 0) (.cons (.var 1) (.cons (.k (.str "any")) .nil)))) (.call "is_fit" (.cons (.var 0) (.cons (.var 2) (.cons (.k (.str "any")) .nil))))) (.k (.str "any")) (.k (.str "unset"))))
  .skip))))⟩
/- stand_fits: 0 classes 1 one 2 other 3 pairs 4 pair -/
def f_stand_fits : Fn := ⟨3, 5,
  (.seq (.ife (.op2 .ne false (.bi .len false (.cons (.op2 .idx false (.var 1) (.k (.int 1))) .nil)) (.bi .len false (.cons (.op2 .idx false (.var 2) (.k (.int 1))) .nil)))
  (.seq (.ret (.k (.bl false)))
  .skip)
  .skip)
  (.seq (.asg (.var 3) (.bi .zip false (.cons (.op2 .add false (.op2 .idx false (.var 1) (.k (.int 0))) (.op2 .idx false (.var 1) (.k (.int 1)))) (.cons (.op2 .add false (.op2 .idx false (.var 2) (.k (.int 0))) (.op2 .idx false (.var 2) (.k (.int 1)))) .nil))))
  (.seq (.ret (.op2 .eq false (.comp false [4] (.var 4) (.var 3) (.op1 .not (.call "is_fit" (.cons (.var 0) (.cons (.op2 .idx false (.var 4) (.k (.int 0))) (.cons (.op2 .idx false (.var 4) (.k (.int 1))) .nil))))) (.var 4)) (.lst false .nil)))
  .skip)))⟩
/- stands_joined: 0 classes 1 one 2 other 3 k 4 a 5 b -/
def f_stands_joined : Fn := ⟨3, 6,
  (.seq (.ife (.op2 .ne false (.bi .len false (.cons (.op2 .idx false (.var 1) (.k (.int 1))) .nil)) (.bi .len false (.cons (.op2 .idx false (.var 2) (.k (.int 1))) .nil)))
  (.seq (.ret (.k (.non)))
  .skip)
  .skip)
  (.seq (.ret (.bi .tuple false (.cons (.comp false [3] (.var 3) (.rng (.k (.int 0)) (.k (.int 2))) (.k (.bl true)) (.bi .tuple false (.cons (.comp false [4, 5] (.cons (.var 4) (.cons (.var 5) .nil)) (.zip (.op2 .idx false (.var 1) (.var 3)) (.op2 .idx false (.var 2) (.var 3))) (.k (.bl true)) (.call "joined" (.cons (.var 0) (.cons (.var 4) (.cons (.var 5) .nil))))) .nil))) .nil)))
  .skip))⟩
/- need_stands: 0 program 1 one 2 other -/
def f_need_stands : Fn := ⟨3, 3,
  (.seq (.ex (.call "need_program" (.cons (.var 0) .nil)))
  (.seq (.ife (.or (.op1 .not (.call "is_stand" (.cons (.var 0) (.cons (.var 1) .nil)))) (.op1 .not (.call "is_stand" (.cons (.var 0) (.cons (.var 2) .nil)))))
  (.seq (.raise "BadStand" false (.cons (.k (.str "no stand")) .nil))
  .skip)
  .skip)
  .skip))⟩
/- fits: 0 program 1 one 2 other -/
def f_fits : Fn := ⟨3, 3,
  (.seq (.ex (.call "need_stands" (.cons (.var 0) (.cons (.var 1) (.cons (.var 2) .nil)))))
  (.seq (.ret (.call "stand_fits" (.cons (.op2 .idx false (.var 0) (.k (.int 0))) (.cons (.var 1) (.cons (.var 2) .nil)))))
  .skip))⟩
/- met: 0 program 1 one 2 other -/
def f_met : Fn := ⟨3, 3,
  (.seq (.ex (.call "need_stands" (.cons (.var 0) (.cons (.var 1) (.cons (.var 2) .nil)))))
  (.seq (.ret (.call "stands_joined" (.cons (.op2 .idx false (.var 0) (.k (.int 0))) (.cons (.var 1) (.cons (.var 2) .nil)))))
  .skip))⟩
/- _law_taken: 0 _law_row 1 _law_many 2 _law_cell 3 _law_found -/
def f__law_taken : Fn := ⟨2, 4,
  (.seq (.ife (.op2 .gt false (.op2 .idx false (.var 0) (.k (.int 3))) (.k (.int 0)))
  (.seq (.asg (.var 3) (.op2 .md false (.op2 .idx false (.var 0) (.k (.int 3))) (.var 1)))
  (.seq (.asg (.op2 .idx false (.var 0) (.k (.int 3))) (.op2 .fdiv false (.op2 .idx false (.var 0) (.k (.int 3))) (.var 1)))
  (.seq (.ret (.var 3))
  .skip)))
  .skip)
  (.seq (.asg (.op2 .idx false (.var 0) (.k (.int 1))) (.op2 .add false (.op2 .idx false (.var 0) (.k (.int 1))) (.k (.int 1))))
  (.seq (.ife (.op2 .gt false (.op2 .idx false (.var 0) (.k (.int 1))) (.bi .len false (.cons (.op2 .idx false (.var 0) (.k (.int 0))) .nil)))
  (.seq (.asg (.op2 .idx false (.var 0) (.k (.int 2))) (.op2 .md false (.op2 .add false (.op2 .mul false (.op2 .idx false (.var 0) (.k (.int 2))) (.k (.int 48271))) (.k (.int 11))) (.k (.int 2147483647))))
  (.seq (.ret (.op2 .md false (.op2 .fdiv false (.op2 .idx false (.var 0) (.k (.int 2))) (.k (.int 7))) (.var 1)))
  .skip))
  .skip)
  (.seq (.asg (.var 2) (.op2 .idx false (.op2 .idx false (.var 0) (.k (.int 0))) (.op2 .sub false (.op2 .idx false (.var 0) (.k (.int 1))) (.k (.int 1)))))
  (.seq (.asg (.op2 .idx false (.var 0) (.k (.int 2))) (.op2 .md false (.op2 .add false (.op2 .add false (.op2 .mul false (.op2 .idx false (.var 0) (.k (.int 2))) (.k (.int 48271))) (.var 2)) (.k (.int 11))) (.k (.int 2147483647))))
  (.seq (.ife (.op2 .ge false (.var 2) (.op2 .pow false (.k (.int 10)) (.k (.int 18))))
  (.seq (.asg (.op2 .idx false (.var 0) (.k (.int 3))) (.op2 .fdiv false (.var 2) (.var 1)))
  .skip)
  .skip)
  (.seq (.ret (.op2 .md false (.var 2) (.var 1)))
  .skip)))))))⟩
/- _law_below: 0 _law_classes_here 1 _law_one 2 _law_found 3 _law_k -/
def f__law_below : Fn := ⟨2, 4,
  (.seq (.asg (.var 2) (.lst true (.cons (.var 1) .nil)))
  (.seq (.for_ (.var 3) (.rng (.op2 .add false (.var 1) (.k (.int 1))) (.bi .len false (.cons (.var 0) .nil)))
  (.seq (.ife (.op2 .in_ false (.op2 .idx false (.op2 .idx false (.var 0) (.var 3)) (.k (.int 0))) (.var 2))
  (.seq (.ex (.bm .append false (.var 2) (.cons (.var 3) .nil)))
  .skip)
  .skip)
  .skip))
  (.seq (.ret (.frz (.var 2)))
  .skip)))⟩
/- _law_news: 0 _law_program_here 1 _law_k -/
def f__law_news : Fn := ⟨1, 2,
  (.seq (.ret (.comp false [1] (.var 1) (.rng (.k (.int 0)) (.bi .len false (.cons (.op2 .idx false (.var 0) (.k (.int 4))) .nil))) (.op2 .eq false (.op2 .idx false (.op2 .idx false (.op2 .idx false (.var 0) (.k (.int 4))) (.var 1)) (.k (.int 0))) (.k (.str "new"))) (.var 1)))
  .skip)⟩
/- _law_atoms: 0 _law_program_here 1 _law_sort 2 _law_things 3 _law_k -/
def f__law_atoms : Fn := ⟨2, 4,
  (.seq (.asg (.var 2) (.comp false [3] (.var 3) (.rng (.k (.int 0)) (.bi .len false (.cons (.op2 .idx false (.var 0) (.k (.int 0))) .nil))) (.k (.bl true)) (.cons (.k (.str "c")) (.cons (.var 3) .nil))))
  (.seq (.ife (.op2 .eq false (.var 1) (.k (.str "n")))
  (.seq (.ret (.lst false (.cons (.k (.str "n")) .nil)))
  .skip)
  .skip)
  (.seq (.ife (.op2 .eq false (.var 1) (.k (.str "none")))
  (.seq (.ret (.lst false (.cons (.k (.str "0")) .nil)))
  .skip)
  .skip)
  (.seq (.ife (.op2 .eq false (.var 1) (.k (.str "any")))
  (.seq (.ret (.op2 .add false (.lst false (.cons (.k (.str "n")) (.cons (.k (.str "0")) .nil))) (.var 2)))
  .skip)
  .skip)
  (.seq (.ife (.op2 .eq false (.var 1) (.k (.str "unset")))
  (.seq (.ret (.op2 .add false (.op2 .add false (.lst false (.cons (.k (.str "n")) (.cons (.k (.str "0")) (.cons (.k (.str "e")) .nil)))) (.var 2)) (.comp false [3] (.var 3) (.call "_law_news" (.cons (.var 0) .nil)) (.k (.bl true)) (.cons (.k (.str "u")) (.cons (.var 3) .nil)))))
  .skip)
  .skip)
  (.seq (.ife (.op2 .eq false (.op2 .idx false (.var 1) (.k (.int 0))) (.k (.str "of")))
  (.seq (.ret (.op2 .add false (.lst false (.cons (.k (.str "0")) .nil)) (.comp false [3] (.var 3) (.call "_law_below" (.cons (.op2 .idx false (.var 0) (.k (.int 0))) (.cons (.op2 .idx false (.var 1) (.k (.int 1))) .nil))) (.k (.bl true)) (.cons (.k (.str "c")) (.cons (.var 3) .nil)))))
  .skip)
  .skip)
  (.seq (.ret (.lst false (.cons (.cons (.k (.str "u")) (.cons (.op2 .idx false (.var 1) (.k (.int 1))) .nil)) .nil)))
  .skip)))))))⟩
/- _law_sorts: 0 _law_program_here 1 _law_found 2 _law_one 3 _law_k 4 _law_s -/
def f__law_sorts : Fn := ⟨1, 5,
  (.seq (.asg (.var 1) (.op2 .add false (.lst false (.cons (.k (.str "n")) (.cons (.k (.str "none")) .nil))) (.comp false [3] (.var 3) (.call "_law_news" (.cons (.var 0) .nil)) (.k (.bl true)) (.cons (.k (.str "unborn")) (.cons (.var 3) .nil)))))
  (.seq (.asg (.var 1) (.op2 .add false (.op2 .add false (.var 1) (.rev false (.comp false [3] (.var 3) (.rng (.k (.int 0)) (.bi .len false (.cons (.op2 .idx false (.var 0) (.k (.int 0))) .nil))) (.k (.bl true)) (.cons (.k (.str "of")) (.cons (.var 3) .nil))))) (.lst false (.cons (.k (.str "any")) (.cons (.k (.str "unset")) .nil)))))
  (.seq (.ret (.comp false [2] (.var 2) (.bi .sorted false (.cons (.comp false [3, 4] (.cons (.var 3) (.cons (.var 4) .nil)) (.enum (.var 1)) (.k (.bl true)) (.cons (.bi .len false (.cons (.call "_law_atoms" (.cons (.var 0) (.cons (.var 4) .nil))) .nil)) (.cons (.var 3) (.cons (.var 4) .nil)))) .nil)) (.k (.bl true)) (.op2 .idx false (.var 2) (.k (.int 2)))))
  .skip)))⟩
/- _law_fits: 0 _law_program_here 1 _law_one 2 _law_other 3 _law_every 4 _law_atom -/
def f__law_fits : Fn := ⟨3, 5,
  (.seq (.ife (.or (.op2 .eq false (.var 1) (.var 2)) (.op2 .eq false (.var 2) (.k (.str "unset"))))
  (.seq (.ret (.k (.bl true)))
  .skip)
  .skip)
  (.seq (.asg (.var 3) (.call "_law_atoms" (.cons (.var 0) (.cons (.var 2) .nil))))
  (.seq (.ret (.op2 .eq false (.comp false [4] (.var 4) (.call "_law_atoms" (.cons (.var 0) (.cons (.var 1) .nil))) (.op2 .nin false (.var 4) (.var 3)) (.var 4)) (.lst false .nil)))
  .skip)))⟩
/- _law_classes: 0 _law_row 1 _law_many 2 _law_found 3 _law_k 4 _law_sizes 5 _law_fields 6 _law_n -/
def f__law_classes : Fn := ⟨1, 7,
  (.seq (.asg (.var 1) (.op2 .idx false (.lst false (.cons (.k (.int 1)) (.cons (.k (.int 2)) (.cons (.k (.int 3)) (.cons (.op2 .add false (.k (.int 1)) (.call "_law_taken" (.cons (.var 0) (.cons (.k (.int 6)) .nil)))) .nil))))) (.call "_law_taken" (.cons (.var 0) (.cons (.k (.int 4)) .nil)))))
  (.seq (.asg (.var 2) (.lst true .nil))
  (.seq (.for_ (.var 3) (.rng (.k (.int 0)) (.var 1))
  (.seq (.asg (.var 4) (.call "_law_taken" (.cons (.var 0) (.cons (.op2 .idx false (.lst false (.cons (.k (.int 2)) (.cons (.k (.int 4)) .nil))) (.call "_law_taken" (.cons (.var 0) (.cons (.k (.int 2)) .nil)))) .nil))))
  (.seq (.asg (.var 5) (.comp false [6] (.var 6) (.rng (.k (.int 0)) (.var 4)) (.k (.bl true)) (.op2 .idx false (.lst false (.cons (.k (.str "n")) (.cons (.call "_law_taken" (.cons (.var 0) (.cons (.var 1) .nil))) .nil))) (.call "_law_taken" (.cons (.var 0) (.cons (.k (.int 2)) .nil))))))
  (.seq (.ex (.bm .append false (.var 2) (.cons (.cons (.ite (.op2 .gt false (.var 3) (.k (.int 0))) (.call "_law_taken" (.cons (.var 0) (.cons (.var 3) .nil))) (.k (.non))) (.cons (.bi .tuple false (.cons (.var 5) .nil)) .nil)) .nil)))
  .skip))))
  (.seq (.ret (.bi .tuple false (.cons (.var 2) .nil)))
  .skip))))⟩
/- _law_worth: 0 _law_row 1 _law_p 2 _law_at 3 _law_kind 4 _law_some 5 _law_way 6 _law_classes_here 7 _law_below_here 8 _law_number 9 _law_two 10 _law_k -/
def f__law_worth : Fn := ⟨4, 11,
  (.seq (.asg (.cons (.var 6) (.cons (.var 7) .nil)) (.cons (.op2 .idx false (.var 1) (.k (.str "classes"))) (.cons (.lst false (.cons (.k (.str "n")) .nil)) .nil)))
  (.seq (.ife (.op2 .ne false (.var 3) (.k (.str "n")))
  (.seq (.asg (.var 7) (.comp false [10] (.var 10) (.rng (.k (.int 0)) (.bi .len false (.cons (.var 6) .nil))) (.op2 .in_ false (.var 3) (.cons (.var 10) (.cons (.op2 .idx false (.op2 .idx false (.var 6) (.var 10)) (.k (.int 0))) .nil))) (.var 10)))
  .skip)
  .skip)
  (.seq (.asg (.var 4) (.comp false [10] (.var 10) (.rng (.k (.int 0)) (.bi .len false (.cons (.op2 .idx false (.var 1) (.k (.str "b"))) .nil))) (.op2 .in_ false (.op2 .idx false (.op2 .idx false (.var 1) (.k (.str "b"))) (.var 10)) (.var 7)) (.var 10)))
  (.seq (.asg (.var 5) (.call "_law_taken" (.cons (.var 0) (.cons (.k (.int 5)) .nil))))
  (.seq (.ife (.and (.op2 .lt false (.var 5) (.k (.int 2))) (.op2 .ne false (.var 4) (.lst false .nil)))
  (.seq (.ret (.lst false (.cons (.cons (.k (.str "load")) (.cons (.op2 .idx false (.var 4) (.call "_law_taken" (.cons (.var 0) (.cons (.bi .len false (.cons (.var 4) .nil)) .nil)))) .nil)) .nil)))
  .skip)
  .skip)
  (.seq (.ife (.op2 .eq false (.var 3) (.k (.str "n")))
  (.seq (.asg (.var 8) (.call "_law_taken" (.cons (.var 0) (.cons (.k (.int 1000)) .nil))))
  (.seq (.asg (.var 9) (.lst false (.cons (.cons (.k (.str "num")) (.cons (.var 8) .nil)) (.cons (.cons (.k (.str "ask")) .nil) (.cons (.cons (.op2 .idx false (.lst false (.cons (.k (.str "add")) (.cons (.k (.str "take")) .nil))) (.op2 .md false (.var 5) (.k (.int 2)))) .nil) .nil)))))
  (.seq (.ret (.op2 .idx false (.lst false (.cons (.lst false (.cons (.cons (.k (.str "ask")) .nil) .nil)) (.cons (.lst false (.cons (.cons (.k (.str "num")) (.cons (.op2 .idx false (.lst false (.cons (.var 8) (.cons (.var 5) .nil))) (.op2 .md false (.var 8) (.k (.int 2)))) .nil)) .nil)) (.cons (.var 9) (.cons (.var 9) .nil))))) (.op2 .md false (.var 5) (.k (.int 4)))))
  .skip)))
  .skip)
  (.seq (.ife (.op2 .eq false (.var 5) (.k (.int 2)))
  (.seq (.ret (.lst false (.cons (.cons (.k (.str "none")) .nil) .nil)))
  .skip)
  .skip)
  (.seq (.ret (.lst false (.cons (.cons (.k (.str "new")) (.cons (.op2 .idx false (.var 7) (.call "_law_taken" (.cons (.var 0) (.cons (.bi .len false (.cons (.var 7) .nil)) .nil)))) .nil)) (.cons (.cons (.k (.str "dup")) .nil) (.cons (.cons (.k (.str "birth")) (.cons (.var 2) .nil)) .nil)))))
  .skip))))))))⟩
/- _law_assign: 0 _law_row 1 _law_p 2 _law_at 3 _law_kind 4 _law_fields 5 _law_found 6 _law_way 7 _law_box 8 _law_k 9 _law_many 10 _law_other -/
def f__law_assign : Fn := ⟨3, 11,
  (.seq (.asg (.cons (.var 6) (.cons (.var 7) .nil)) (.cons (.call "_law_taken" (.cons (.var 0) (.cons (.k (.int 4)) .nil))) (.cons (.call "_law_taken" (.cons (.var 0) (.cons (.bi .len false (.cons (.op2 .idx false (.var 1) (.k (.str "b"))) .nil)) .nil))) .nil)))
  (.seq (.asg (.var 3) (.op2 .idx false (.lst false (.cons (.k (.str "n")) (.cons (.call "_law_taken" (.cons (.var 0) (.cons (.bi .len false (.cons (.op2 .idx false (.var 1) (.k (.str "classes"))) .nil)) .nil))) .nil))) (.call "_law_taken" (.cons (.var 0) (.cons (.k (.int 2)) .nil)))))
  (.seq (.asg (.var 4) (.ite (.op2 .ne false (.var 3) (.k (.str "n"))) (.op2 .idx false (.op2 .idx false (.op2 .idx false (.var 1) (.k (.str "classes"))) (.var 3)) (.k (.int 1))) .nil))
  (.seq (.asg (.var 5) (.call "_law_worth" (.cons (.var 0) (.cons (.var 1) (.cons (.var 2) (.cons (.var 3) .nil))))))
  (.seq (.ife (.and (.op2 .gt false (.var 6) (.k (.int 1))) (.op2 .ne false (.var 4) .nil))
  (.seq (.asg (.var 8) (.call "_law_taken" (.cons (.var 0) (.cons (.bi .len false (.cons (.var 4) .nil)) .nil))))
  (.seq (.ife (.op2 .eq false (.var 6) (.k (.int 2)))
  (.seq (.ret (.op2 .add false (.op2 .add false (.var 5) (.call "_law_worth" (.cons (.var 0) (.cons (.var 1) (.cons (.op2 .add false (.var 2) (.bi .len false (.cons (.var 5) .nil))) (.cons (.op2 .idx false (.var 4) (.var 8)) .nil)))))) (.lst false (.cons (.cons (.k (.str "put")) (.cons (.var 3) (.cons (.var 8) .nil))) .nil))))
  .skip)
  .skip)
  (.seq (.asg (.cons (.var 5) (.cons (.var 3) .nil)) (.cons (.op2 .add false (.var 5) (.lst false (.cons (.cons (.k (.str "get")) (.cons (.var 3) (.cons (.var 8) .nil))) .nil))) (.cons (.op2 .idx false (.var 4) (.var 8)) .nil)))
  .skip)))
  (.seq (.ife (.and (.op2 .eq false (.var 6) (.k (.int 3))) (.op2 .eq false (.var 3) (.k (.str "n"))))
  (.seq (.asg (.var 9) (.call "_law_taken" (.cons (.var 0) (.cons (.k (.int 9)) .nil))))
  (.seq (.ret (.op2 .add false (.op2 .add false (.var 5) (.op2 .mul false (.lst false (.cons (.cons (.k (.str "dup")) .nil) .nil)) (.var 9))) (.op2 .mul false (.lst false (.cons (.cons (.k (.str "drop")) .nil) .nil)) (.op2 .add false (.var 9) (.k (.int 1))))))
  .skip))
  (.seq (.ife (.and (.op2 .gt false (.var 6) (.k (.int 1))) (.op2 .ne false (.var 3) (.k (.str "n"))))
  (.seq (.asg (.var 10) (.call "_law_taken" (.cons (.var 0) (.cons (.bi .len false (.cons (.op2 .idx false (.var 1) (.k (.str "classes"))) .nil)) .nil))))
  (.seq (.asg (.cons (.var 5) (.cons (.var 3) .nil)) (.cons (.op2 .add false (.var 5) (.lst false (.cons (.cons (.op2 .idx false (.lst false (.cons (.k (.str "is")) (.cons (.k (.str "cast")) .nil))) (.op2 .sub false (.var 6) (.k (.int 2)))) (.cons (.var 10) .nil)) .nil))) (.cons (.op2 .idx false (.lst false (.cons (.k (.str "n")) (.cons (.var 10) .nil))) (.op2 .sub false (.var 6) (.k (.int 2)))) .nil)))
  .skip))
  .skip)
  .skip))
  .skip))
  (.seq (.asg (.op2 .idx false (.op2 .idx false (.var 1) (.k (.str "b"))) (.var 7)) (.var 3))
  (.seq (.ret (.op2 .add false (.var 5) (.lst false (.cons (.cons (.k (.str "store")) (.cons (.var 7) .nil)) .nil))))
  .skip)))))))⟩
/- _law_branch: 0 _law_row 1 _law_p 2 _law_at 3 _law_deep 4 _law_head 5 _law_first 6 _law_there 7 _law_second 8 _law_way 9 _law_other 10 _law_last 11 _law_box 12 _law_kinds 13 _law_k -/
def f__law_branch : Fn := ⟨4, 14,
  (.seq (.asg (.cons (.var 8) (.cons (.var 9) .nil)) (.cons (.call "_law_taken" (.cons (.var 0) (.cons (.k (.int 4)) .nil))) (.cons (.call "_law_taken" (.cons (.var 0) (.cons (.bi .len false (.cons (.op2 .idx false (.var 1) (.k (.str "classes"))) .nil)) .nil))) .nil)))
  (.seq (.asg (.var 4) (.ite (.op2 .eq false (.var 8) (.k (.int 3))) (.lst false .nil) (.call "_law_worth" (.cons (.var 0) (.cons (.var 1) (.cons (.var 2) (.cons (.op2 .idx false (.lst false (.cons (.k (.int 0)) (.cons (.k (.str "n")) .nil))) (.bi .int false (.cons (.op2 .lt false (.var 8) (.k (.int 2))) .nil))) .nil)))))))
  (.seq (.ife (.and (.op2 .eq false (.var 8) (.k (.int 0))) (.op2 .eq false (.call "_law_taken" (.cons (.var 0) (.cons (.k (.int 2)) .nil))) (.k (.int 0))))
  (.seq (.asg (.cons (.var 11) (.cons (.var 12) .nil)) (.cons (.call "_law_taken" (.cons (.var 0) (.cons (.bi .len false (.cons (.op2 .idx false (.var 1) (.k (.str "b"))) .nil)) .nil))) (.cons (.comp false [13] (.var 13) (.rng (.k (.int 0)) (.k (.int 2))) (.k (.bl true)) (.op2 .idx false (.lst false (.cons (.k (.str "n")) (.cons (.k (.int 0)) (.cons (.var 9) .nil)))) (.call "_law_taken" (.cons (.var 0) (.cons (.k (.int 3)) .nil))))) .nil)))
  (.seq (.asg (.var 5) (.op2 .add false (.call "_law_worth" (.cons (.var 0) (.cons (.var 1) (.cons (.op2 .add false (.op2 .add false (.var 2) (.bi .len false (.cons (.var 4) .nil))) (.k (.int 1))) (.cons (.op2 .idx false (.var 12) (.k (.int 0))) .nil))))) (.lst false (.cons (.cons (.k (.str "store")) (.cons (.var 11) .nil)) .nil))))
  (.seq (.asg (.var 6) (.op2 .add false (.op2 .add false (.op2 .add false (.var 2) (.bi .len false (.cons (.var 4) .nil))) (.bi .len false (.cons (.var 5) .nil))) (.k (.int 2))))
  (.seq (.asg (.var 7) (.op2 .add false (.call "_law_worth" (.cons (.var 0) (.cons (.var 1) (.cons (.var 6) (.cons (.op2 .idx false (.var 12) (.k (.int 1))) .nil))))) (.lst false (.cons (.cons (.k (.str "store")) (.cons (.var 11) .nil)) .nil))))
  (.seq (.asg (.var 10) (.ite (.and (.op2 .ne false (.op2 .idx false (.op2 .idx false (.op2 .idx false (.var 1) (.k (.str "classes"))) (.k (.int 0))) (.k (.int 1))) .nil) (.op2 .eq false (.call "_law_taken" (.cons (.var 0) (.cons (.k (.int 2)) .nil))) (.k (.int 0)))) (.lst false (.cons (.cons (.k (.str "get")) (.cons (.k (.int 0)) (.cons (.k (.int 0)) .nil))) .nil)) (.lst false (.cons (.cons (.k (.str "is")) (.cons (.var 9) .nil)) .nil))))
  (.seq (.asg (.var 10) (.op2 .add false (.op2 .add false (.lst false (.cons (.cons (.k (.str "load")) (.cons (.var 11) .nil)) .nil)) (.op2 .mul false (.var 10) (.bi .int false (.cons (.op2 .nin false (.k (.str "n")) (.var 12)) .nil)))) (.lst false (.cons (.cons (.k (.str "drop")) .nil) .nil))))
  (.seq (.ret (.op2 .add false (.op2 .add false (.op2 .add false (.op2 .add false (.op2 .add false (.var 4) (.lst false (.cons (.cons (.k (.str "if")) (.cons (.var 6) .nil)) .nil))) (.var 5)) (.lst false (.cons (.cons (.k (.str "go")) (.cons (.op2 .add false (.var 6) (.bi .len false (.cons (.var 7) .nil))) .nil)) .nil))) (.var 7)) (.var 10)))
  .skip)))))))
  .skip)
  (.seq (.asg (.var 5) (.call "_law_block" (.cons (.var 0) (.cons (.var 1) (.cons (.op2 .add false (.op2 .add false (.var 2) (.bi .len false (.cons (.var 4) .nil))) (.bi .int false (.cons (.op2 .lt false (.var 8) (.k (.int 3))) .nil))) (.cons (.op2 .add false (.k (.int 1)) (.call "_law_taken" (.cons (.var 0) (.cons (.k (.int 2)) .nil)))) (.cons (.var 3) .nil)))))))
  (.seq (.asg (.var 6) (.op2 .add false (.op2 .add false (.op2 .add false (.op2 .add false (.var 2) (.bi .len false (.cons (.var 4) .nil))) (.bi .int false (.cons (.op2 .lt false (.var 8) (.k (.int 3))) .nil))) (.bi .len false (.cons (.var 5) .nil))) (.k (.int 1))))
  (.seq (.ife (.op2 .eq false (.var 8) (.k (.int 1)))
  (.seq (.ret (.op2 .add false (.op2 .add false (.op2 .add false (.var 4) (.lst false (.cons (.cons (.k (.str "if")) (.cons (.var 6) .nil)) .nil))) (.var 5)) (.lst false (.cons (.cons (.k (.str "go")) (.cons (.var 2) .nil)) .nil))))
  .skip)
  .skip)
  (.seq (.ife (.op2 .eq false (.var 8) (.k (.int 3)))
  (.seq (.ex (.bm .append false (.op2 .idx false (.var 1) (.k (.str "handlers"))) (.cons (.cons (.var 2) (.cons (.bi .max false (.cons (.op2 .add false (.var 2) (.k (.int 1))) (.cons (.op2 .sub false (.var 6) (.k (.int 1))) .nil))) (.cons (.var 6) (.cons (.op2 .idx false (.lst false (.cons (.k (.int 0)) (.cons (.var 9) .nil))) (.call "_law_taken" (.cons (.var 0) (.cons (.k (.int 2)) .nil)))) .nil)))) .nil)))
  (.seq (.asg (.var 10) (.op2 .idx false (.lst false (.cons (.lst false (.cons (.cons (.k (.str "drop")) .nil) .nil)) (.cons (.lst false (.cons (.cons (.k (.str "store")) (.cons (.call "_law_taken" (.cons (.var 0) (.cons (.bi .len false (.cons (.op2 .idx false (.var 1) (.k (.str "b"))) .nil)) .nil))) .nil)) .nil)) (.cons (.lst false (.cons (.cons (.k (.str "is")) (.cons (.var 9) .nil)) (.cons (.cons (.k (.str "drop")) .nil) .nil))) .nil)))) (.call "_law_taken" (.cons (.var 0) (.cons (.k (.int 3)) .nil)))))
  (.seq (.ret (.op2 .add false (.op2 .add false (.var 5) (.lst false (.cons (.cons (.k (.str "go")) (.cons (.op2 .add false (.var 6) (.bi .len false (.cons (.var 10) .nil))) .nil)) .nil))) (.var 10)))
  .skip)))
  .skip)
  (.seq (.asg (.var 7) (.call "_law_block" (.cons (.var 0) (.cons (.var 1) (.cons (.var 6) (.cons (.call "_law_taken" (.cons (.var 0) (.cons (.k (.int 2)) .nil))) (.cons (.var 3) .nil)))))))
  (.seq (.ret (.op2 .add false (.op2 .add false (.op2 .add false (.op2 .add false (.var 4) (.lst false (.cons (.cons (.op2 .idx false (.lst false (.cons (.k (.str "if")) (.cons (.k (.str "")) (.cons (.k (.str "bare")) .nil)))) (.var 8)) (.cons (.var 6) .nil)) .nil))) (.var 5)) (.lst false (.cons (.cons (.k (.str "go")) (.cons (.op2 .add false (.var 6) (.bi .len false (.cons (.var 7) .nil))) .nil)) .nil))) (.var 7)))
  .skip)))))))))⟩
/- _law_block: 0 _law_row 1 _law_p 2 _law_at 3 _law_many 4 _law_deep 5 _law_found 6 _law_turn 7 _law_way 8 _law_new -/
def f__law_block : Fn := ⟨5, 9,
  (.seq (.asg (.var 5) (.lst true .nil))
  (.seq (.for_ (.var 6) (.rng (.k (.int 0)) (.var 3))
  (.seq (.asg (.var 7) (.call "_law_taken" (.cons (.var 0) (.cons (.k (.int 8)) .nil))))
  (.seq (.ife (.op2 .gt false (.op2 .idx false (.var 1) (.k (.str "left"))) (.k (.int 0)))
  (.seq (.ife (.or (.op2 .lt false (.var 7) (.k (.int 5))) (.or (.op2 .eq false (.var 4) (.k (.int 0))) (.op2 .lt false (.op2 .idx false (.var 1) (.k (.str "left"))) (.k (.int 8)))))
  (.seq (.asg (.var 8) (.call "_law_assign" (.cons (.var 0) (.cons (.var 1) (.cons (.op2 .add false (.var 2) (.bi .len false (.cons (.var 5) .nil))) .nil)))))
  .skip)
  (.seq (.ife (.op2 .eq false (.var 7) (.k (.int 5)))
  (.seq (.asg (.var 8) (.op2 .add false (.call "_law_worth" (.cons (.var 0) (.cons (.var 1) (.cons (.op2 .add false (.var 2) (.bi .len false (.cons (.var 5) .nil))) (.cons (.k (.int 0)) .nil))))) (.lst false (.cons (.cons (.k (.str "throw")) .nil) .nil))))
  .skip)
  (.seq (.asg (.var 8) (.call "_law_branch" (.cons (.var 0) (.cons (.var 1) (.cons (.op2 .add false (.var 2) (.bi .len false (.cons (.var 5) .nil))) (.cons (.op2 .sub false (.var 4) (.k (.int 1))) .nil))))))
  .skip))
  .skip))
  (.seq (.asg (.op2 .idx false (.var 1) (.k (.str "left"))) (.op2 .sub false (.op2 .idx false (.var 1) (.k (.str "left"))) (.bi .len false (.cons (.var 8) .nil))))
  (.seq (.ex (.bm .extend false (.var 5) (.cons (.var 8) .nil)))
  .skip)))
  .skip)
  .skip)))
  (.seq (.ret (.frz (.var 5)))
  .skip)))⟩
/- _law_program: 0 _law_row 1 _law_many 2 _law_params 3 _law_boxes 4 _law_p 5 _law_rows 6 _law_k 7 _law_handlers 8 _law_odd 9 _law_few 10 _law_classes_here 11 _law_some 12 _law_at 13 _law_goal 14 _law_one -/
def f__law_program : Fn := ⟨1, 15,
  (.seq (.ife (.op2 .eq false (.call "_law_taken" (.cons (.var 0) (.cons (.k (.int 6)) .nil))) (.k (.int 5)))
  (.seq (.ret (.call "_law_any_program" (.cons (.var 0) .nil)))
  .skip)
  .skip)
  (.seq (.asg (.cons (.var 8) (.cons (.var 9) (.cons (.var 10) .nil))) (.cons (.op2 .fdiv false (.call "_law_taken" (.cons (.var 0) (.cons (.k (.int 4)) .nil))) (.k (.int 3))) (.cons (.call "_law_taken" (.cons (.var 0) (.cons (.k (.int 3)) .nil))) (.cons (.call "_law_classes" (.cons (.var 0) .nil)) .nil))))
  (.seq (.asg (.var 1) (.call "_law_taken" (.cons (.var 0) (.cons (.op2 .idx false (.lst false (.cons (.k (.int 3)) (.cons (.k (.int 3)) (.cons (.k (.int 5)) .nil)))) (.call "_law_taken" (.cons (.var 0) (.cons (.k (.int 3)) .nil)))) .nil))))
  (.seq (.asg (.var 2) (.bi .tuple false (.cons (.comp false [6] (.var 6) (.rng (.k (.int 0)) (.var 1)) (.k (.bl true)) (.op2 .idx false (.lst false (.cons (.k (.str "n")) (.cons (.call "_law_taken" (.cons (.var 0) (.cons (.bi .len false (.cons (.var 10) .nil)) .nil))) .nil))) (.call "_law_taken" (.cons (.var 0) (.cons (.k (.int 2)) .nil))))) .nil)))
  (.seq (.asg (.var 3) (.bi .min false (.cons (.k (.int 6)) (.cons (.op2 .add false (.bi .max false (.cons (.k (.int 1)) (.cons (.bi .len false (.cons (.var 2) .nil)) .nil))) (.call "_law_taken" (.cons (.var 0) (.cons (.op2 .idx false (.lst false (.cons (.k (.int 4)) (.cons (.k (.int 6)) .nil))) (.call "_law_taken" (.cons (.var 0) (.cons (.k (.int 2)) .nil)))) .nil)))) .nil))))
  (.seq (.asg (.var 4) (.dict false (.cons (.k (.str "classes")) (.cons (.var 10) (.cons (.k (.str "b")) (.cons (.op2 .add true (.bi .list false (.cons (.var 2) .nil)) (.op2 .mul false (.lst false (.cons (.k (.non)) .nil)) (.op2 .sub false (.var 3) (.bi .len false (.cons (.var 2) .nil))))) (.cons (.k (.str "handlers")) (.cons (.lst true .nil) .nil))))))))
  (.seq (.asg (.op2 .idx false (.var 4) (.k (.str "left"))) (.op2 .idx false (.lst false (.cons (.k (.int 8)) (.cons (.k (.int 16)) (.cons (.k (.int 26)) .nil)))) (.var 9)))
  (.seq (.asg (.var 5) (.slc true (.call "_law_block" (.cons (.var 0) (.cons (.var 4) (.cons (.k (.int 0)) (.cons (.op2 .idx false (.lst false (.cons (.k (.int 2)) (.cons (.k (.int 4)) (.cons (.k (.int 7)) .nil)))) (.var 9)) (.cons (.k (.int 2)) .nil)))))) (.k .non) (.k (.int 36))))
  (.seq (.asg (.var 5) (.op2 .add true (.var 5) (.op2 .idx false (.lst false (.cons (.lst false (.cons (.cons (.k (.str "end")) .nil) .nil)) (.cons (.op2 .add false (.call "_law_worth" (.cons (.var 0) (.cons (.var 4) (.cons (.bi .len false (.cons (.var 5) .nil)) (.cons (.k (.str "n")) .nil))))) (.lst false (.cons (.cons (.k (.str "give")) .nil) .nil))) .nil))) (.call "_law_taken" (.cons (.var 0) (.cons (.k (.int 2)) .nil))))))
  (.seq (.for_ (.var 6) (.rng (.k (.int 0)) (.op2 .mul false (.var 8) (.op2 .add false (.k (.int 1)) (.call "_law_taken" (.cons (.var 0) (.cons (.k (.int 2)) .nil))))))
  (.seq (.asg (.cons (.var 12) (.cons (.var 13) .nil)) (.cons (.call "_law_taken" (.cons (.var 0) (.cons (.bi .len false (.cons (.var 5) .nil)) .nil))) (.cons (.call "_law_taken" (.cons (.var 0) (.cons (.bi .len false (.cons (.var 5) .nil)) .nil))) .nil)))
  (.seq (.asg (.var 11) (.lst false (.cons (.cons (.k (.str "none")) .nil) (.cons (.cons (.k (.str "load")) (.cons (.call "_law_taken" (.cons (.var 0) (.cons (.var 3) .nil))) .nil)) (.cons (.cons (.k (.str "dup")) .nil) (.cons (.cons (.k (.str "drop")) .nil) (.cons (.cons (.k (.str "swap")) .nil) (.cons (.cons (.k (.str "add")) .nil) (.cons (.cons (.k (.str "throw")) .nil) .nil)))))))))
  (.seq (.asg (.var 11) (.op2 .add false (.var 11) (.lst false (.cons (.cons (.k (.str "store")) (.cons (.call "_law_taken" (.cons (.var 0) (.cons (.var 3) .nil))) .nil)) (.cons (.cons (.k (.str "is")) (.cons (.k (.int 0)) .nil)) (.cons (.cons (.k (.str "cast")) (.cons (.k (.int 0)) .nil)) (.cons (.cons (.k (.str "go")) (.cons (.var 13) .nil)) (.cons (.cons (.k (.str "if")) (.cons (.var 13) .nil)) .nil))))))))
  (.seq (.asg (.var 11) (.op2 .add false (.var 11) (.lst false (.cons (.cons (.k (.str "end")) .nil) (.cons (.cons (.k (.str "bare")) (.cons (.var 13) .nil)) .nil)))))
  (.seq (.ife (.op2 .ne false (.op2 .idx false (.op2 .idx false (.var 5) (.var 12)) (.k (.int 0))) (.k (.str "new")))
  (.seq (.asg (.op2 .idx false (.var 5) (.var 12)) (.op2 .idx false (.var 11) (.call "_law_taken" (.cons (.var 0) (.cons (.k (.int 14)) .nil)))))
  .skip)
  .skip)
  .skip))))))
  (.seq (.for_ (.var 6) (.rng (.k (.int 0)) (.bi .len false (.cons (.var 5) .nil)))
  (.seq (.ife (.and (.op2 .in_ false (.op2 .idx false (.op2 .idx false (.var 5) (.var 6)) (.k (.int 0))) (.cons (.k (.str "go")) (.cons (.k (.str "if")) (.cons (.k (.str "bare")) .nil)))) (.op2 .ge false (.op2 .idx false (.op2 .idx false (.var 5) (.var 6)) (.k (.int 1))) (.bi .len false (.cons (.var 5) .nil))))
  (.seq (.asg (.op2 .idx false (.var 5) (.var 6)) (.cons (.k (.str "end")) .nil))
  .skip)
  .skip)
  .skip))
  (.seq (.asg (.var 7) (.slc false (.comp false [14] (.var 14) (.op2 .idx false (.var 4) (.k (.str "handlers"))) (.and (.op2 .lt false (.op2 .idx false (.var 14) (.k (.int 2))) (.bi .len false (.cons (.var 5) .nil))) (.op2 .le false (.op2 .idx false (.var 14) (.k (.int 1))) (.bi .len false (.cons (.var 5) .nil)))) (.var 14)) (.k .non) (.k (.int 4))))
  (.seq (.ret (.cons (.var 10) (.cons (.var 2) (.cons (.var 3) (.cons (.op2 .idx false (.lst false (.cons (.k (.int 8)) (.cons (.k (.int 3)) (.cons (.call "_law_taken" (.cons (.var 0) (.cons (.k (.int 9)) .nil))) .nil)))) (.call "_law_taken" (.cons (.var 0) (.cons (.k (.int 3)) .nil)))) (.cons (.bi .tuple false (.cons (.var 5) .nil)) (.cons (.bi .tuple false (.cons (.var 7) .nil)) .nil)))))))
  .skip)))))))))))))⟩
/- _law_any_stand: 0 _law_row 1 _law_program_here 2 _law_sorts_here 3 _law_boxes 4 _law_high 5 _law_k -/
def f__law_any_stand : Fn := ⟨2, 6,
  (.seq (.asg (.var 2) (.op2 .add false (.lst false (.cons (.k (.str "n")) (.cons (.k (.str "none")) (.cons (.k (.str "any")) (.cons (.k (.str "unset")) .nil))))) (.comp false [5] (.var 5) (.rng (.k (.int 0)) (.bi .len false (.cons (.op2 .idx false (.var 1) (.k (.int 0))) .nil))) (.k (.bl true)) (.cons (.k (.str "of")) (.cons (.var 5) .nil)))))
  (.seq (.asg (.var 2) (.op2 .add false (.var 2) (.comp false [5] (.var 5) (.rng (.k (.int 0)) (.bi .len false (.cons (.op2 .idx false (.var 1) (.k (.int 4))) .nil))) (.op2 .eq false (.op2 .idx false (.op2 .idx false (.op2 .idx false (.var 1) (.k (.int 4))) (.var 5)) (.k (.int 0))) (.k (.str "new"))) (.cons (.k (.str "unborn")) (.cons (.var 5) .nil)))))
  (.seq (.asg (.var 3) (.bi .tuple false (.cons (.comp false [5] (.var 5) (.rng (.k (.int 0)) (.op2 .idx false (.var 1) (.k (.int 2)))) (.k (.bl true)) (.op2 .idx false (.var 2) (.call "_law_taken" (.cons (.var 0) (.cons (.bi .len false (.cons (.var 2) .nil)) .nil))))) .nil)))
  (.seq (.asg (.var 4) (.call "_law_taken" (.cons (.var 0) (.cons (.op2 .idx false (.lst false (.cons (.k (.int 1)) (.cons (.k (.int 3)) (.cons (.op2 .add false (.op2 .idx false (.var 1) (.k (.int 3))) (.k (.int 1))) .nil)))) (.call "_law_taken" (.cons (.var 0) (.cons (.k (.int 3)) .nil)))) .nil))))
  (.seq (.ret (.cons (.var 3) (.cons (.bi .tuple false (.cons (.comp false [5] (.var 5) (.rng (.k (.int 0)) (.bi .min false (.cons (.var 4) (.cons (.op2 .idx false (.var 1) (.k (.int 3))) .nil)))) (.k (.bl true)) (.op2 .idx false (.var 2) (.call "_law_taken" (.cons (.var 0) (.cons (.bi .len false (.cons (.var 2) .nil)) .nil))))) .nil)) .nil)))
  .skip)))))⟩
/- _law_raised: 0 _law_row 1 _law_program_here 2 _law_stand 3 _law_sorts_here 4 _law_at 5 _law_some 6 _law_new 7 _law_sort -/
def f__law_raised : Fn := ⟨3, 8,
  (.seq (.asg (.var 3) (.op2 .add false (.op2 .idx false (.var 2) (.k (.int 0))) (.op2 .idx false (.var 2) (.k (.int 1)))))
  (.seq (.ife (.op2 .eq false (.var 3) .nil)
  (.seq (.ret (.var 2))
  .skip)
  .skip)
  (.seq (.asg (.var 4) (.call "_law_taken" (.cons (.var 0) (.cons (.bi .len false (.cons (.var 3) .nil)) .nil))))
  (.seq (.asg (.var 5) (.comp false [7] (.var 7) (.call "_law_sorts" (.cons (.var 1) .nil)) (.or (.op2 .eq false (.call "_law_taken" (.cons (.var 0) (.cons (.k (.int 6)) .nil))) (.k (.int 5))) (.call "_law_fits" (.cons (.var 1) (.cons (.op2 .idx false (.var 3) (.var 4)) (.cons (.var 7) .nil))))) (.var 7)))
  (.seq (.asg (.var 6) (.op2 .add false (.op2 .add false (.slc false (.var 3) (.k .non) (.var 4)) (.cons (.op2 .idx false (.op2 .add false (.var 5) (.lst false (.cons (.k (.str "unset")) .nil))) (.call "_law_taken" (.cons (.var 0) (.cons (.op2 .add false (.bi .len false (.cons (.var 5) .nil)) (.k (.int 1))) .nil)))) .nil)) (.slc false (.var 3) (.op2 .add false (.var 4) (.k (.int 1))) (.k .non))))
  (.seq (.ret (.cons (.slc false (.var 6) (.k .non) (.op2 .idx false (.var 1) (.k (.int 2)))) (.cons (.slc false (.var 6) (.op2 .idx false (.var 1) (.k (.int 2))) (.k .non)) .nil)))
  .skip))))))⟩
/- _law_any_program: 0 _law_row 1 _law_k 2 _law_params 3 _law_words 4 _law_p 5 _law_rows 6 _law_handlers 7 _law_kinds 8 _law_classes_here 9 _law_pairs 10 _law_some 11 _law_boxes 12 _law_room 13 _law_word 14 _law_at 15 _law_goal 16 _law_n -/
def f__law_any_program : Fn := ⟨1, 17,
  (.seq (.asg (.cons (.var 7) (.cons (.var 8) (.cons (.var 9) .nil))) (.cons (.op2 .add false (.k (.int 1)) (.call "_law_taken" (.cons (.var 0) (.cons (.k (.int 6)) .nil)))) (.cons (.lst true .nil) (.cons (.lst true .nil) .nil))))
  (.seq (.for_ (.var 1) (.rng (.k (.int 0)) (.var 7))
  (.seq (.asg (.var 10) (.comp false [16] (.var 16) (.rng (.k (.int 0)) (.call "_law_taken" (.cons (.var 0) (.cons (.k (.int 4)) .nil)))) (.k (.bl true)) (.op2 .idx false (.op2 .add false (.lst false (.cons (.k (.str "n")) .nil)) (.bi .range false (.cons (.var 7) .nil))) (.call "_law_taken" (.cons (.var 0) (.cons (.op2 .add false (.var 7) (.k (.int 1))) .nil))))))
  (.seq (.ex (.bm .append false (.var 8) (.cons (.cons (.ite (.op2 .gt false (.var 1) (.k (.int 0))) (.call "_law_taken" (.cons (.var 0) (.cons (.var 1) .nil))) (.k (.non))) (.cons (.bi .tuple false (.cons (.var 10) .nil)) .nil)) .nil)))
  (.seq (.ex (.bm .extend false (.var 9) (.cons (.comp false [16] (.var 16) (.rng (.k (.int 0)) (.bi .len false (.cons (.var 10) .nil))) (.k (.bl true)) (.cons (.var 1) (.cons (.var 16) .nil))) .nil)))
  .skip))))
  (.seq (.asg (.var 2) (.comp false [1] (.var 1) (.rng (.k (.int 0)) (.call "_law_taken" (.cons (.var 0) (.cons (.k (.int 5)) .nil)))) (.k (.bl true)) (.op2 .idx false (.op2 .add false (.lst false (.cons (.k (.str "n")) .nil)) (.bi .range false (.cons (.var 7) .nil))) (.call "_law_taken" (.cons (.var 0) (.cons (.op2 .add false (.var 7) (.k (.int 1))) .nil))))))
  (.seq (.asg (.cons (.var 11) (.cons (.var 12) .nil)) (.cons (.op2 .add false (.bi .len false (.cons (.var 2) .nil)) (.call "_law_taken" (.cons (.var 0) (.cons (.op2 .sub false (.k (.int 7)) (.bi .len false (.cons (.var 2) .nil))) .nil)))) (.cons (.call "_law_taken" (.cons (.var 0) (.cons (.k (.int 9)) .nil))) .nil)))
  (.seq (.asg (.var 3) (.lst false (.cons (.k (.str "num")) (.cons (.k (.str "none")) (.cons (.k (.str "ask")) (.cons (.k (.str "new")) (.cons (.k (.str "birth")) (.cons (.k (.str "load")) (.cons (.k (.str "store")) (.cons (.k (.str "dup")) (.cons (.k (.str "drop")) (.cons (.k (.str "swap")) (.cons (.k (.str "add")) (.cons (.k (.str "take")) (.cons (.k (.str "get")) (.cons (.k (.str "put")) .nil))))))))))))))))
  (.seq (.asg (.var 3) (.op2 .add false (.var 3) (.lst false (.cons (.k (.str "cast")) (.cons (.k (.str "is")) (.cons (.k (.str "go")) (.cons (.k (.str "if")) (.cons (.k (.str "bare")) (.cons (.k (.str "throw")) (.cons (.k (.str "give")) (.cons (.k (.str "end")) .nil)))))))))))
  (.seq (.asg (.var 3) (.comp false [1] (.var 1) (.rng (.k (.int 0)) (.op2 .add false (.k (.int 1)) (.call "_law_taken" (.cons (.var 0) (.cons (.k (.int 40)) .nil))))) (.k (.bl true)) (.op2 .idx false (.var 3) (.call "_law_taken" (.cons (.var 0) (.cons (.k (.int 22)) .nil))))))
  (.seq (.asg (.var 4) (.dict false (.cons (.k (.str "boxes")) (.cons (.var 11) (.cons (.k (.str "kinds")) (.cons (.var 7) (.cons (.k (.str "pairs")) (.cons (.var 9) (.cons (.k (.str "many")) (.cons (.bi .len false (.cons (.var 3) .nil)) .nil))))))))))
  (.seq (.asg (.op2 .idx false (.var 4) (.k (.str "news"))) (.comp false [1] (.var 1) (.rng (.k (.int 0)) (.bi .len false (.cons (.var 3) .nil))) (.op2 .eq false (.op2 .idx false (.var 3) (.var 1)) (.k (.str "new"))) (.var 1)))
  (.seq (.asg (.var 5) (.comp false [13] (.var 13) (.var 3) (.k (.bl true)) (.call "_law_any_row" (.cons (.var 0) (.cons (.var 4) (.cons (.var 13) .nil))))))
  (.seq (.asg (.var 6) (.lst true .nil))
  (.seq (.for_ (.var 1) (.rng (.k (.int 0)) (.call "_law_taken" (.cons (.var 0) (.cons (.k (.int 5)) .nil))))
  (.seq (.asg (.cons (.var 14) (.cons (.var 15) .nil)) (.cons (.call "_law_taken" (.cons (.var 0) (.cons (.bi .len false (.cons (.var 5) .nil)) .nil))) (.cons (.call "_law_taken" (.cons (.var 0) (.cons (.bi .len false (.cons (.var 5) .nil)) .nil))) .nil)))
  (.seq (.ex (.bm .append false (.var 6) (.cons (.cons (.var 14) (.cons (.op2 .add false (.op2 .add false (.var 14) (.k (.int 1))) (.call "_law_taken" (.cons (.var 0) (.cons (.op2 .sub false (.bi .len false (.cons (.var 5) .nil)) (.var 14)) .nil)))) (.cons (.var 15) (.cons (.call "_law_taken" (.cons (.var 0) (.cons (.var 7) .nil))) .nil)))) .nil)))
  .skip)))
  (.seq (.ret (.cons (.bi .tuple false (.cons (.var 8) .nil)) (.cons (.bi .tuple false (.cons (.var 2) .nil)) (.cons (.var 11) (.cons (.var 12) (.cons (.bi .tuple false (.cons (.var 5) .nil)) (.cons (.bi .tuple false (.cons (.var 6) .nil)) .nil)))))))
  .skip)))))))))))))⟩
/- _law_any_row: 0 _law_row 1 _law_p 2 _law_word 3 _law_sizes 4 _law_k -/
def f__law_any_row : Fn := ⟨3, 5,
  (.seq (.asg (.var 3) (.dict false (.cons (.k (.str "num")) (.cons (.k (.int 1000)) (.cons (.k (.str "load")) (.cons (.op2 .idx false (.var 1) (.k (.str "boxes"))) (.cons (.k (.str "store")) (.cons (.op2 .idx false (.var 1) (.k (.str "boxes"))) (.cons (.k (.str "birth")) (.cons (.bi .len false (.cons (.op2 .idx false (.var 1) (.k (.str "news"))) .nil)) (.cons (.k (.str "go")) (.cons (.op2 .idx false (.var 1) (.k (.str "many"))) .nil))))))))))))
  (.seq (.ex (.bm .upd false (.var 3) (.cons (.dict false (.cons (.k (.str "if")) (.cons (.op2 .idx false (.var 1) (.k (.str "many"))) (.cons (.k (.str "bare")) (.cons (.op2 .idx false (.var 1) (.k (.str "many"))) (.cons (.k (.str "new")) (.cons (.op2 .idx false (.var 1) (.k (.str "kinds"))) (.cons (.k (.str "cast")) (.cons (.op2 .idx false (.var 1) (.k (.str "kinds"))) (.cons (.k (.str "is")) (.cons (.op2 .idx false (.var 1) (.k (.str "kinds"))) .nil))))))))))) .nil)))
  (.seq (.ex (.bm .upd false (.var 3) (.cons (.dict false (.cons (.k (.str "get")) (.cons (.bi .len false (.cons (.op2 .idx false (.var 1) (.k (.str "pairs"))) .nil)) (.cons (.k (.str "put")) (.cons (.bi .len false (.cons (.op2 .idx false (.var 1) (.k (.str "pairs"))) .nil)) .nil))))) .nil)))
  (.seq (.ife (.op2 .eq false (.bm .get2 false (.var 3) (.cons (.var 2) (.cons (.k (.int 1)) .nil))) (.k (.int 0)))
  (.seq (.ret (.cons (.k (.str "end")) .nil))
  .skip)
  .skip)
  (.seq (.asg (.var 4) (.ite (.op2 .in_ false (.var 2) (.var 3)) (.call "_law_taken" (.cons (.var 0) (.cons (.op2 .idx false (.var 3) (.var 2)) .nil))) (.k (.int 0))))
  (.seq (.ife (.op2 .in_ false (.var 2) (.cons (.k (.str "get")) (.cons (.k (.str "put")) .nil)))
  (.seq (.ret (.op2 .add false (.cons (.var 2) .nil) (.op2 .idx false (.op2 .idx false (.var 1) (.k (.str "pairs"))) (.var 4))))
  .skip)
  .skip)
  (.seq (.ret (.ite (.op2 .in_ false (.var 2) (.var 3)) (.cons (.var 2) (.cons (.ite (.op2 .eq false (.var 2) (.k (.str "birth"))) (.op2 .idx false (.op2 .idx false (.var 1) (.k (.str "news"))) (.var 4)) (.var 4)) .nil)) (.cons (.var 2) .nil)))
  .skip)))))))⟩
/- law: 0 _law_script 1 _law_row 2 _law_turn 3 _law_program_here 4 _law_again 5 _law_one 6 _law_some 7 _law_k 8 _law_both 9 _law_more 10 _law_near 11 _law_a 12 _law_b 13 _law_c -/
def f_law : Fn := ⟨1, 14,
  (.seq (.asg (.var 1) (.lst true (.cons (.var 0) (.cons (.k (.int 0)) (.cons (.k (.int 0)) (.cons (.k (.int 0)) .nil))))))
  (.seq (.for_ (.var 2) (.rng (.k (.int 0)) (.k (.int 3)))
  (.seq (.asg (.var 3) (.call "_law_program" (.cons (.var 1) .nil)))
  (.seq (.for_ (.var 4) (.rng (.k (.int 0)) (.k (.int 5)))
  (.seq (.asg (.var 5) (.call "_law_any_stand" (.cons (.var 1) (.cons (.var 3) .nil))))
  (.seq (.asg (.var 6) (.lst true (.cons (.var 5) .nil)))
  (.seq (.for_ (.var 7) (.rng (.k (.int 0)) (.k (.int 2)))
  (.seq (.asg (.var 10) (.op2 .idx false (.var 6) (.call "_law_taken" (.cons (.var 1) (.cons (.bi .len false (.cons (.var 6) .nil)) .nil)))))
  (.seq (.ex (.bm .append false (.var 6) (.cons (.ite (.op2 .gt false (.call "_law_taken" (.cons (.var 1) (.cons (.k (.int 3)) .nil))) (.k (.int 0))) (.call "_law_raised" (.cons (.var 1) (.cons (.var 3) (.cons (.var 10) .nil)))) (.call "_law_any_stand" (.cons (.var 1) (.cons (.var 3) .nil)))) .nil)))
  .skip)))
  (.seq (.asg (.cons (.var 11) (.cons (.var 12) (.cons (.var 13) .nil))) (.var 6))
  (.seq (.asg (.var 8) (.call "met" (.cons (.var 3) (.cons (.var 11) (.cons (.var 12) .nil)))))
  (.seq (.ife (.or (.op1 .not (.call "fits" (.cons (.var 3) (.cons (.var 11) (.cons (.var 11) .nil))))) (.or (.op2 .ne false (.call "met" (.cons (.var 3) (.cons (.var 12) (.cons (.var 11) .nil)))) (.var 8)) (.op2 .ne false (.call "met" (.cons (.var 3) (.cons (.var 11) (.cons (.var 11) .nil)))) (.var 11))))
  (.seq (.ret (.k (.bl false)))
  .skip)
  .skip)
  (.seq (.ife (.and (.op1 .notN (.var 8)) (.op1 .not (.call "fits" (.cons (.var 3) (.cons (.var 11) (.cons (.var 8) .nil))))))
  (.seq (.ret (.k (.bl false)))
  .skip)
  .skip)
  (.seq (.ife (.and (.op1 .notN (.var 8)) (.op1 .not (.call "fits" (.cons (.var 3) (.cons (.var 12) (.cons (.var 8) .nil))))))
  (.seq (.ret (.k (.bl false)))
  .skip)
  .skip)
  (.seq (.ife (.and (.call "fits" (.cons (.var 3) (.cons (.var 11) (.cons (.var 13) .nil)))) (.and (.call "fits" (.cons (.var 3) (.cons (.var 12) (.cons (.var 13) .nil)))) (.op1 .not (.call "fits" (.cons (.var 3) (.cons (.var 8) (.cons (.var 13) .nil)))))))
  (.seq (.ret (.k (.bl false)))
  .skip)
  .skip)
  (.seq (.ife (.and (.call "fits" (.cons (.var 3) (.cons (.var 11) (.cons (.var 12) .nil)))) (.and (.call "fits" (.cons (.var 3) (.cons (.var 12) (.cons (.var 13) .nil)))) (.op1 .not (.call "fits" (.cons (.var 3) (.cons (.var 11) (.cons (.var 13) .nil)))))))
  (.seq (.ret (.k (.bl false)))
  .skip)
  .skip)
  (.seq (.asg (.var 9) (.call "met" (.cons (.var 3) (.cons (.var 12) (.cons (.var 13) .nil)))))
  (.seq (.ife (.and (.op1 .notN (.var 8)) (.and (.op1 .notN (.var 9)) (.op2 .ne false (.call "met" (.cons (.var 3) (.cons (.var 8) (.cons (.var 13) .nil)))) (.call "met" (.cons (.var 3) (.cons (.var 11) (.cons (.var 9) .nil)))))))
  (.seq (.ret (.k (.bl false)))
  .skip)
  .skip)
  (.seq (.ife (.or (.op2 .ne false (.op1 .isN (.var 8)) (.op2 .ne false (.bi .len false (.cons (.op2 .idx false (.var 11) (.k (.int 1))) .nil)) (.bi .len false (.cons (.op2 .idx false (.var 12) (.k (.int 1))) .nil)))) (.and (.call "fits" (.cons (.var 3) (.cons (.var 11) (.cons (.var 12) .nil)))) (.op2 .ne false (.var 8) (.var 12))))
  (.seq (.ret (.k (.bl false)))
  .skip)
  .skip)
  .skip))))))))))))))
  .skip)))
  (.seq (.ret (.k (.bl true)))
  .skip)))⟩
end MP

set_option linter.all false
set_option maxRecDepth 100000
set_option maxHeartbeats 4000000
/-! What is wanted behind a piece of the core language. -/
namespace MG
abbrev QD := D → Store → Prop
abbrev QE := Exc → Store → Prop
abbrev QN := Env → Store → Prop
abbrev QX := Exc → Env → Store → Prop
/-- what stands in a term of this type is left alone by simp -/
inductive Tok {α : Sort u} (a : α) : Type
  | mk
inductive Tok2 {α : Sort u} {β : Sort v} (a : α) (b : β) : Type
  | mk
inductive Tok3 {α : Sort u} {β : Sort v} {γ : Sort w} (a : α) (b : β) (c : γ) : Type
  | mk
inductive Tok4 {α : Sort u} {β : Sort v} {γ : Sort w} {δ : Sort x} (a : α) (b : β) (c : γ) (d : δ) : Type
  | mk
inductive Tok5 {α : Sort u} {β : Sort v} {γ : Sort w} {δ : Sort x} {ε : Sort y} (a : α) (b : β) (c : γ) (d : δ) (e : ε) : Type
  | mk
def WP (r : Res D) (Q : QD) (E : QE) (_ : Tok2 Q E := .mk) : Prop := match r with
  | .ok d st => Q d st
  | .err x st => E x st
  | .bad => False
def WS (r : SR) (N C : QN) (R : QD) (E : QX) (_ : Tok4 N C R E := .mk) : Prop := match r with
  | .nx ρ st => N ρ st
  | .ct ρ st => C ρ st
  | .ret d st => R d st
  | .err x ρ st => E x ρ st
  | .bad => False
theorem WP.mono {r : Res D} {Q Q' : QD} {E E' : QE} (h : WP r Q E) (q : ∀ d st, Q d st → Q' d st) (e : ∀ x st, E x st → E' x st) : WP r Q' E' := by
  cases r with
  | ok d st => exact q d st h
  | err x st => exact e x st h
  | bad => exact h
theorem WS.mono {r : SR} {N C N' C' : QN} {R R' : QD} {E E' : QX} (h : WS r N C R E) (n : ∀ ρ st, N ρ st → N' ρ st) (c : ∀ ρ st, C ρ st → C' ρ st) (q : ∀ d st, R d st → R' d st) (e : ∀ x ρ st, E x ρ st → E' x ρ st) : WS r N' C' R' E' := by
  cases r with
  | nx ρ st => exact n ρ st h
  | ct ρ st => exact c ρ st h
  | ret d st => exact q d st h
  | err x ρ st => exact e x ρ st h
  | bad => exact h
theorem WP.bind {r : Res D} {f : D → Store → Res D} {Q : QD} {E : QE} (h : WP r (fun d st => WP (f d st) Q E) E) : WP (r.bind f) Q E := by
  cases r <;> exact h
theorem WP.go {r : Res D} {ρ : Env} {f : D → Store → SR} {N C : QN} {R : QD} {E : QX} (h : WP r (fun d st => WS (f d st) N C R E) (fun x st => E x ρ st)) : WS (r.go ρ f) N C R E := by
  cases r <;> exact h
theorem WP.eq {r : Res D} {v : D} {st : Store} (h : WP r (fun d s => d = v ∧ s = st) fun _ _ => False) : r = .ok v st := by
  cases r with
  | ok d s => obtain ⟨rfl, rfl⟩ := h; rfl
  | err x s => exact h.elim
  | bad => exact h.elim

/-! ### environments -/
def getE : Env → Nat → Option D
  | [], _ => none
  | x :: _, 0 => x
  | _ :: ρ, i + 1 => getE ρ i
def getW (o : Option D) (k : D → Prop) (_ : Tok k := .mk) : Prop := match o with
  | some d => k d
  | none => False
def putW : Nat → D → Env → (k : Env → Prop) → (_ : Tok k := .mk) → Prop
  | _, _, [], _, _ => False
  | 0, d, _ :: ρ, k, _ => k (some d :: ρ)
  | i + 1, d, x :: ρ, k, _ => putW i d ρ fun ρ' => k (x :: ρ')
theorem getE_ok : ∀ (ρ : Env) (i : Nat) (d : D), getE ρ i = some d → ρ[i]? = some (some d)
  | [], i, d, h => by simp [getE] at h
  | x :: ρ, 0, d, h => by simp only [getE] at h; simp [h]
  | x :: ρ, i + 1, d, h => by simpa using getE_ok ρ i d (by simpa [getE] using h)
theorem putW_ok : ∀ (i : Nat) (d : D) (ρ : Env) (k : Env → Prop), putW i d ρ k → i < ρ.length ∧ k (ρ.set i (some d))
  | _, _, [], _, h => by cases ‹Nat› <;> exact h.elim
  | 0, d, x :: ρ, k, h => ⟨by simp, by simpa [putW] using h⟩
  | i + 1, d, x :: ρ, k, h => by
    have := putW_ok i d ρ _ (by simpa only [putW] using h)
    exact ⟨by simp; omega, by simpa using this.2⟩

/-! ### values -/
def tupW (d : D) (k : List D → Prop) (_ : Tok k := .mk) : Prop := match d with
  | .tup l => k l
  | _ => False
def blW (d : D) (t f : Prop) (_ : Tok2 t f := .mk) : Prop := match d with
  | .bl true => t
  | .bl false => f
  | _ => False
def nonW (d : D) (k : Prop) (_ : Tok k := .mk) : Prop := match d with
  | .non => k
  | _ => False
def lstW (o : Option (List D)) (k : List D → Prop) (_ : Tok k := .mk) : Prop := match o with
  | some l => k l
  | none => False
def iterW (o : Option (List D × Option (Nat × List D))) (k : List D → Option (Nat × List D) → Prop) (_ : Tok k := .mk) : Prop := match o with
  | some p => k p.1 p.2
  | none => False
def partW (o : Option (Option Int)) (k : Option Int → Prop) (_ : Tok k := .mk) : Prop := match o with
  | some p => k p
  | none => False
def insW (o : Option O) (k : String → List (String × D) → Prop) (_ : Tok k := .mk) : Prop := match o with
  | some (.ins c fs) => k c fs
  | _ => False
def refW (d : D) (k : Nat → Prop) (_ : Tok k := .mk) : Prop := match d with
  | .ref r => k r
  | _ => False
def ints2W (x y : D) (k : Int → Int → Prop) (_ : Tok k := .mk) : Prop := match x, y with
  | .int i, .int j => k i j
  | _, _ => False
def stoW (o : Option Store) (k : Store → Prop) (_ : Tok k := .mk) : Prop := match o with
  | some s => k s
  | none => False
def envW (o : Option Env) (k : Env → Prop) (_ : Tok k := .mk) : Prop := match o with
  | some s => k s
  | none => False
def prsW (o : Option (List (D × D))) (k : List (D × D) → Prop) (_ : Tok k := .mk) : Prop := match o with
  | some s => k s
  | none => False
def okW (b : Bool) (k : Prop) (_ : Tok k := .mk) : Prop := match b with
  | true => k
  | false => False
theorem tupW_of {d : D} {k : List D → Prop} (h : tupW d k) : ∃ l, d = .tup l ∧ k l := by
  cases d <;> first | exact ⟨_, rfl, h⟩ | exact h.elim
theorem blW_of {d : D} {t f : Prop} (h : blW d t f) : d = .bl true ∧ t ∨ d = .bl false ∧ f := by
  cases d <;> first | exact h.elim | skip
  rename_i b; cases b
  · exact .inr ⟨rfl, h⟩
  · exact .inl ⟨rfl, h⟩
theorem nonW_of {d : D} {k : Prop} (h : nonW d k) : d = .non ∧ k := by
  cases d <;> first | exact ⟨rfl, h⟩ | exact h.elim
theorem lstW_of {d : Option (List D)} {k : List D → Prop} (h : lstW d k) : ∃ l, d = some l ∧ k l := by
  cases d <;> first | exact ⟨_, rfl, h⟩ | exact h.elim
theorem iterW_of {d : Option (List D × Option (Nat × List D))} {k : List D → Option (Nat × List D) → Prop} (h : iterW d k) : ∃ l c, d = some (l, c) ∧ k l c := by
  cases d <;> first | exact ⟨_, _, rfl, h⟩ | exact h.elim
theorem partW_of {d : Option (Option Int)} {k : Option Int → Prop} (h : partW d k) : ∃ l, d = some l ∧ k l := by
  cases d <;> first | exact ⟨_, rfl, h⟩ | exact h.elim
theorem insW_of {d : Option O} {k : String → List (String × D) → Prop} (h : insW d k) : ∃ c fs, d = some (.ins c fs) ∧ k c fs := by
  unfold insW at h
  split at h
  · exact ⟨_, _, rfl, h⟩
  · exact h.elim
theorem refW_of {d : D} {k : Nat → Prop} (h : refW d k) : ∃ l, d = .ref l ∧ k l := by
  cases d <;> first | exact ⟨_, rfl, h⟩ | exact h.elim
theorem ints2W_of {d e : D} {k : Int → Int → Prop} (h : ints2W d e k) : ∃ i j, d = .int i ∧ e = .int j ∧ k i j := by
  cases d <;> cases e <;> first | exact ⟨_, _, rfl, rfl, h⟩ | exact h.elim
theorem stoW_of {d : Option Store} {k : Store → Prop} (h : stoW d k) : ∃ l, d = some l ∧ k l := by
  cases d <;> first | exact ⟨_, rfl, h⟩ | exact h.elim
theorem envW_of {d : Option Env} {k : Env → Prop} (h : envW d k) : ∃ l, d = some l ∧ k l := by
  cases d <;> first | exact ⟨_, rfl, h⟩ | exact h.elim
theorem prsW_of {d : Option (List (D × D))} {k : List (D × D) → Prop} (h : prsW d k) : ∃ l, d = some l ∧ k l := by
  cases d <;> first | exact ⟨_, rfl, h⟩ | exact h.elim
theorem okW_of {b : Bool} {k : Prop} (h : okW b k) : b = true ∧ k := by
  cases b
  · exact h.elim
  · exact ⟨rfl, h⟩
theorem getW_of {d : Option D} {k : D → Prop} (h : getW d k) : ∃ l, d = some l ∧ k l := by
  cases d <;> first | exact ⟨_, rfl, h⟩ | exact h.elim

/-! ### loops, left closed -/
/-- a comprehension's wish -/
def WComp (G : GD) (call : Call) (own : Bool) (vs : List Nat) (t cond elt : C) (ρ : Env) (items : List D) (chk : Option (Nat × List D)) (st1 : Store) (Q : QD) (E : QE) (_ : Tok5 t cond elt Q E := .mk) : Prop :=
  WP ((compL st1.length (fun d => bindT t d (wipe ρ vs)) (fun ρ' st' => evE G call cond ρ' st') (fun ρ' st' => evE G call elt ρ' st') chk items (st1 ++ [.lst []])).bind fun _ st2 =>
          if own then .ok (.ref st1.length) st2 else freezeC st1 st2) Q E
def WFor (G : GD) (U : Up) (call : Call) (t : C) (b : S) (items : List D) (chk : Option (Nat × List D)) (ρ : Env) (st1 : Store) (N C : QN) (R : QD) (E : QX) (_ : Tok5 b N C R E := .mk) : Prop :=
  WS (forL (fun d ρ' => bindT t d ρ') (fun ρ' st' => evS G U call b ρ' st') chk items ρ st1) N C R E
def WWhile (G : GD) (U : Up) (call : Call) (c : C) (b : S) (ρ : Env) (st1 : Store) (N C : QN) (R : QD) (E : QX) (_ : Tok5 b N C R E := .mk) (_ : Tok c := .mk) : Prop :=
  WS (whileL (fun ρ' st' => evE G call c ρ' st') (fun ρ' st' => evS G U call b ρ' st') TURNS ρ st1) N C R E

/-- numbers that a range takes -/
def RgOk (i j : Int) : Prop := -4611686018427387904 ≤ i ∧ i < 4611686018427387904 ∧ -4611686018427387904 ≤ j ∧ j < 4611686018427387904
/-! ### expressions -/
def wpE (G : GD) (call : Call) : (c : C) → Env → Store → (Q : QD) → (E : QE) → (_ : Tok3 c Q E := .mk) → Prop
  | .var i, ρ, st, Q, _, _ => getW (getE ρ i) fun d => Q d st
  | .k d, _, st, Q, _, _ => Q d st
  | .nil, _, st, Q, _, _ => Q (.tup []) st
  | .cons e es, ρ, st, Q, E, _ => wpE G call e ρ st (fun d st1 => wpE G call es ρ st1 (fun ds st2 => tupW ds fun l => Q (.tup (d :: l)) st2) E) E
  | .lst own es, ρ, st, Q, E, _ => wpE G call es ρ st (fun ds st1 => tupW ds fun l => WP (give own l st1) Q E) E
  | .op1 o a, ρ, st, Q, E, _ => wpE G call a ρ st (fun x st1 => WP (op1V o x st1) Q E) E
  | .op2 o own a b, ρ, st, Q, E, _ => wpE G call a ρ st (fun x st1 => wpE G call b ρ st1 (fun y st2 => WP (op2V G own o x y st2) Q E) E) E
  | .and a b, ρ, st, Q, E, _ => wpE G call a ρ st (fun x st1 => blW x (wpE G call b ρ st1 Q E) (Q (.bl false) st1)) E
  | .or a b, ρ, st, Q, E, _ => wpE G call a ρ st (fun x st1 => blW x (Q (.bl true) st1) (wpE G call b ρ st1 Q E)) E
  | .ite c a b, ρ, st, Q, E, _ => wpE G call c ρ st (fun x st1 => blW x (wpE G call a ρ st1 Q E) (wpE G call b ρ st1 Q E)) E
  | .chain o1 o2 a b c, ρ, st, Q, E, _ => wpE G call a ρ st (fun x st1 => wpE G call b ρ st1 (fun y st2 => WP (op2V G false o1 x y st2) (fun z st3 =>
      blW z (wpE G call c ρ st3 (fun w st4 => WP (op2V G false o2 y w st4) Q E) E) (Q (.bl false) st3)) E) E) E
  | .slc own e lo hi, ρ, st, Q, E, _ => wpE G call e ρ st (fun x st1 => wpE G call lo ρ st1 (fun l st2 => partW (partOf lo l) fun a =>
      wpE G call hi ρ st2 (fun h st3 => partW (partOf hi h) fun b => WP (slV own x a b st3) Q E) E) E) E
  | .rev own e, ρ, st, Q, E, _ => wpE G call e ρ st (fun x st1 => lstW (lstOf st1 x) fun ds => WP (give own ds.reverse st1) Q E) E
  | .bi f own es, ρ, st, Q, E, _ => wpE G call es ρ st (fun ds st1 => tupW ds fun l => WP (biV G own f l st1) Q E) E
  | .bm f own o es, ρ, st, Q, E, _ => wpE G call o ρ st (fun x st1 => okW (recv f st1 x) (wpE G call es ρ st1 (fun ds st2 => tupW ds fun l => WP (biV G own f (x :: l) st2) Q E) E)) E
  | .call f es, ρ, st, Q, E, _ => wpE G call es ρ st (fun ds st1 => tupW ds fun l => WP (call f l st1) Q E) E
  | .meth c m o es, ρ, st, Q, E, _ => wpE G call o ρ st (fun x st1 => refW x fun r => insW st1[r]? fun c' fs => okW (decide (c = c') && (fget fs m).isNone) (wpE G call es ρ st1 (fun ds st2 => tupW ds fun l => WP (call (c ++ "." ++ m) (x :: l) st2) Q E) E)) E
  | .make c es, ρ, st, Q, E, _ => wpE G call es ρ st (fun ds st1 => tupW ds fun l => WP (call (c ++ ".__init__") (.ref st1.length :: l) (st1 ++ [.ins c []])) (fun d st2 => nonW d (Q (.ref st1.length) st2)) E) E
  | .fld o f, ρ, st, Q, E, _ => wpE G call o ρ st (fun x st1 => refW x fun r => insW st1[r]? fun _ fs => getW (fget fs f) fun d => Q d st1) E
  | .comp own vs t it cond elt, ρ, st, Q, E, _ => wpE G call it ρ st (fun x st1 => iterW (iterOf st1 x) fun items chk => WComp G call own vs t cond elt ρ items chk st1 Q E) E
  | .rng a b, ρ, st, Q, E, _ => wpE G call a ρ st (fun x st1 => wpE G call b ρ st1 (fun y st2 => ints2W x y fun i j => RgOk i j ∧ Q (.tup (rangeD i (j - i).toNat)) st2) E) E
  | .rrng a b, ρ, st, Q, E, _ => wpE G call a ρ st (fun x st1 => wpE G call b ρ st1 (fun y st2 => ints2W x y fun i j => RgOk i j ∧ Q (.tup (rangeD i (j - i).toNat).reverse) st2) E) E
  | .enum e, ρ, st, Q, E, _ => wpE G call e ρ st (fun x st1 => match x with
    | .tup ds => Q (.tup (enumD 0 ds)) st1
    | .lst ds => Q (.tup (enumD 0 ds)) st1
    | _ => False) E
  | .zip a b, ρ, st, Q, E, _ => wpE G call a ρ st (fun x st1 => wpE G call b ρ st1 (fun y st2 => match x, y with
    | .tup i, .tup j => Q (.tup (zipD i j)) st2
    | .lst i, .lst j => Q (.tup (zipD i j)) st2
    | _, _ => False) E) E
  | .dict tk es, ρ, st, Q, E, _ => if tk then Q (.ref st.length) (st ++ [.dT []]) else
      wpE G call es ρ (st ++ [.dK []]) (fun ds st1 => tupW ds fun l => prsW (flatPairs l) fun ps => okW (ps.all (fun p => keyK p.1) && decide (ps.length ≤ 15)) (st1[st.length]? = some (.dK []) ∧ Q (.ref st.length) (st1.set st.length (.dK (dputAll [] ps))))) E
  | .frz e, ρ, st, Q, E, _ => wpE G call e ρ st (fun x st1 => refW x fun r => WP (freeze r st1) Q E) E
theorem wpE_ok (G : GD) (call : Call) : ∀ (c : C) (ρ : Env) (st : Store) (Q : QD) (E : QE), wpE G call c ρ st Q E → WP (evE G call c ρ st) Q E := by
  have refl : ∀ {E : QE} (x : Exc) (st : Store), E x st → E x st := fun _ _ h => h
  intro c
  induction c with
  | var i =>
    intro ρ st Q E h
    obtain ⟨d, e, q⟩ := getW_of h
    unfold evE
    rw [getE_ok _ _ _ e]
    exact q
  | k d => intro ρ st Q E h; unfold evE; exact h
  | nil => intro ρ st Q E h; unfold evE; exact h
  | cons e es ih1 ih2 =>
    intro ρ st Q E h
    unfold wpE at h; unfold evE
    refine WP.bind ((ih1 _ _ _ _ h).mono (fun d st1 h1 => WP.bind ((ih2 _ _ _ _ h1).mono (fun ds st2 h2 => ?_) refl)) refl)
    obtain ⟨l, rfl, q⟩ := tupW_of h2
    exact q
  | lst own es ih =>
    intro ρ st Q E h
    unfold wpE at h; unfold evE
    refine WP.bind ((ih _ _ _ _ h).mono (fun ds st1 h1 => ?_) refl)
    obtain ⟨l, rfl, q⟩ := tupW_of h1
    exact q
  | op1 o a ih =>
    intro ρ st Q E h
    unfold wpE at h; unfold evE
    exact WP.bind ((ih _ _ _ _ h).mono (fun x st1 h1 => h1) refl)
  | op2 o own a b ih1 ih2 =>
    intro ρ st Q E h
    unfold wpE at h; unfold evE
    exact WP.bind ((ih1 _ _ _ _ h).mono (fun x st1 h1 => WP.bind ((ih2 _ _ _ _ h1).mono (fun y st2 h2 => h2) refl)) refl)
  | and a b ih1 ih2 =>
    intro ρ st Q E h
    unfold wpE at h; unfold evE
    refine WP.bind ((ih1 _ _ _ _ h).mono (fun x st1 h1 => ?_) refl)
    rcases blW_of h1 with ⟨rfl, q⟩ | ⟨rfl, q⟩
    · exact ih2 _ _ _ _ q
    · exact q
  | or a b ih1 ih2 =>
    intro ρ st Q E h
    unfold wpE at h; unfold evE
    refine WP.bind ((ih1 _ _ _ _ h).mono (fun x st1 h1 => ?_) refl)
    rcases blW_of h1 with ⟨rfl, q⟩ | ⟨rfl, q⟩
    · exact q
    · exact ih2 _ _ _ _ q
  | ite c a b ih0 ih1 ih2 =>
    intro ρ st Q E h
    unfold wpE at h; unfold evE
    refine WP.bind ((ih0 _ _ _ _ h).mono (fun x st1 h1 => ?_) refl)
    rcases blW_of h1 with ⟨rfl, q⟩ | ⟨rfl, q⟩
    · exact ih1 _ _ _ _ q
    · exact ih2 _ _ _ _ q
  | chain o1 o2 a b c ih1 ih2 ih3 =>
    intro ρ st Q E h
    unfold wpE at h; unfold evE
    refine WP.bind ((ih1 _ _ _ _ h).mono (fun x st1 h1 => WP.bind ((ih2 _ _ _ _ h1).mono (fun y st2 h2 => WP.bind (h2.mono (fun z st3 h3 => ?_) refl)) refl)) refl)
    rcases blW_of h3 with ⟨rfl, q⟩ | ⟨rfl, q⟩
    · exact WP.bind ((ih3 _ _ _ _ q).mono (fun w st4 h4 => h4) refl)
    · exact q
  | slc own e lo hi ih1 ih2 ih3 =>
    intro ρ st Q E h
    unfold wpE at h; unfold evE
    refine WP.bind ((ih1 _ _ _ _ h).mono (fun x st1 h1 => WP.bind ((ih2 _ _ _ _ h1).mono (fun l st2 h2 => ?_) refl)) refl)
    obtain ⟨a, ea, h2⟩ := partW_of h2
    rw [ea]
    refine WP.bind ((ih3 _ _ _ _ h2).mono (fun hh st3 h3 => ?_) refl)
    obtain ⟨b, eb, h3⟩ := partW_of h3
    simp only [eb]
    exact h3
  | rev own e ih =>
    intro ρ st Q E h
    unfold wpE at h; unfold evE
    refine WP.bind ((ih _ _ _ _ h).mono (fun x st1 h1 => ?_) refl)
    obtain ⟨l, e, q⟩ := lstW_of h1
    rw [e]; exact q
  | bi f own es ih =>
    intro ρ st Q E h
    unfold wpE at h; unfold evE
    refine WP.bind ((ih _ _ _ _ h).mono (fun ds st1 h1 => ?_) refl)
    obtain ⟨l, rfl, q⟩ := tupW_of h1
    exact q
  | bm f own o es ih1 ih2 =>
    intro ρ st Q E h
    unfold wpE at h; unfold evE
    refine WP.bind ((ih1 _ _ _ _ h).mono (fun x st1 h1 => ?_) refl)
    obtain ⟨e, h1⟩ := okW_of h1
    rw [if_pos e]
    refine WP.bind ((ih2 _ _ _ _ h1).mono (fun ds st2 h2 => ?_) refl)
    obtain ⟨l, rfl, q⟩ := tupW_of h2
    exact q
  | call f es ih =>
    intro ρ st Q E h
    unfold wpE at h; unfold evE
    refine WP.bind ((ih _ _ _ _ h).mono (fun ds st1 h1 => ?_) refl)
    obtain ⟨l, rfl, q⟩ := tupW_of h1
    exact q
  | meth c m o es ih1 ih2 =>
    intro ρ st Q E h
    unfold wpE at h; unfold evE
    refine WP.bind ((ih1 _ _ _ _ h).mono (fun x st1 h1 => ?_) refl)
    obtain ⟨r, rfl, h1⟩ := refW_of h1
    obtain ⟨c', fs, e, h1⟩ := insW_of h1
    obtain ⟨e2, h1⟩ := okW_of h1
    simp only [Bool.and_eq_true, decide_eq_true_eq, Option.isNone_iff_eq_none] at e2
    simp only [e]
    rw [if_pos e2]
    refine WP.bind ((ih2 _ _ _ _ h1).mono (fun ds st2 h2 => ?_) refl)
    obtain ⟨l, rfl, q⟩ := tupW_of h2
    exact q
  | make c es ih =>
    intro ρ st Q E h
    unfold wpE at h; unfold evE
    refine WP.bind ((ih _ _ _ _ h).mono (fun ds st1 h1 => ?_) refl)
    obtain ⟨l, rfl, q⟩ := tupW_of h1
    refine WP.bind (q.mono (fun d st2 h2 => ?_) refl)
    obtain ⟨rfl, h2⟩ := nonW_of h2
    exact h2
  | fld o f ih =>
    intro ρ st Q E h
    unfold wpE at h; unfold evE
    refine WP.bind ((ih _ _ _ _ h).mono (fun x st1 h1 => ?_) refl)
    obtain ⟨r, rfl, h1⟩ := refW_of h1
    obtain ⟨c', fs, e, h1⟩ := insW_of h1
    obtain ⟨d, e2, h1⟩ := getW_of h1
    simp only [e, e2]
    exact h1
  | comp own vs t it cond elt ih1 ih2 ih3 ih4 =>
    intro ρ st Q E h
    unfold wpE at h; unfold evE
    refine WP.bind ((ih2 _ _ _ _ h).mono (fun x st1 h1 => ?_) refl)
    obtain ⟨l, c, e, h1⟩ := iterW_of h1
    rw [e]
    exact h1
  | rng a b ih1 ih2 =>
    intro ρ st Q E h
    unfold wpE at h; unfold evE
    refine WP.bind ((ih1 _ _ _ _ h).mono (fun x st1 h1 => WP.bind ((ih2 _ _ _ _ h1).mono (fun y st2 h2 => ?_) refl)) refl)
    obtain ⟨i, j, rfl, rfl, h2⟩ := ints2W_of h2
    simp only
    rw [if_pos (show -4611686018427387904 ≤ i ∧ i < 4611686018427387904 ∧ -4611686018427387904 ≤ j ∧ j < 4611686018427387904 from h2.1)]
    exact h2.2
  | rrng a b ih1 ih2 =>
    intro ρ st Q E h
    unfold wpE at h; unfold evE
    refine WP.bind ((ih1 _ _ _ _ h).mono (fun x st1 h1 => WP.bind ((ih2 _ _ _ _ h1).mono (fun y st2 h2 => ?_) refl)) refl)
    obtain ⟨i, j, rfl, rfl, h2⟩ := ints2W_of h2
    simp only
    rw [if_pos (show -4611686018427387904 ≤ i ∧ i < 4611686018427387904 ∧ -4611686018427387904 ≤ j ∧ j < 4611686018427387904 from h2.1)]
    exact h2.2
  | enum e ih =>
    intro ρ st Q E h
    unfold wpE at h; unfold evE
    refine WP.bind ((ih _ _ _ _ h).mono (fun x st1 h1 => ?_) refl)
    cases x <;> first | exact h1 | exact h1.elim
  | zip a b ih1 ih2 =>
    intro ρ st Q E h
    unfold wpE at h; unfold evE
    refine WP.bind ((ih1 _ _ _ _ h).mono (fun x st1 h1 => WP.bind ((ih2 _ _ _ _ h1).mono (fun y st2 h2 => ?_) refl)) refl)
    cases x <;> cases y <;> first | exact h2 | exact h2.elim
  | dict tk es ih =>
    intro ρ st Q E h
    unfold wpE at h; unfold evE
    cases tk with
    | true => exact h
    | false =>
      simp only [Bool.false_eq_true, if_false] at h ⊢
      refine WP.bind ((ih _ _ _ _ h).mono (fun ds st1 h1 => ?_) refl)
      obtain ⟨l, rfl, h1⟩ := tupW_of h1
      obtain ⟨ps, e, h1⟩ := prsW_of h1
      obtain ⟨e2, e3, h1⟩ := okW_of h1
      simp only [e]
      rw [if_pos e2, e3]
      exact h1
  | frz e ih =>
    intro ρ st Q E h
    unfold wpE at h; unfold evE
    refine WP.bind ((ih _ _ _ _ h).mono (fun x st1 h1 => ?_) refl)
    obtain ⟨r, rfl, h1⟩ := refW_of h1
    exact h1

/-! ### statements -/
/-- an assignment's wish -/
def asgW (G : GD) (call : Call) : (c : C) → D → Env → Store → (N : QN) → (E : QX) → (_ : Tok3 c N E := .mk) → Prop
  | .var i, d, ρ, st, N, _, _ => putW i d ρ fun ρ' => N ρ' st
  | .fld o f, d, ρ, st, N, E, _ => wpE G call o ρ st (fun x st1 => stoW (setFld st1 x f d) fun st2 => N ρ st2) fun x s => E x ρ s
  | .op2 .idx _ o i, d, ρ, st, N, E, _ => wpE G call o ρ st (fun x st1 => wpE G call i ρ st1 (fun y st2 => stoW (setIdx G st2 x y d) fun st3 => N ρ st3) fun x s => E x ρ s) fun x s => E x ρ s
  | .nil, .tup [], ρ, st, N, _, _ => N ρ st
  | .cons t ts, .tup (d :: ds), ρ, st, N, E, _ => asgW G call t d ρ st (fun ρ1 st1 => asgW G call ts (.tup ds) ρ1 st1 N E) E
  | _, _, _, _, _, _, _ => False
theorem asgW_ok (G : GD) (call : Call) : ∀ (t : C) (d : D) (ρ : Env) (st : Store) (N C : QN) (R : QD) (E : QX), asgW G call t d ρ st N E → WS (asgT G call t d ρ st) N C R E := by
  intro t
  induction t with
  | var i =>
    intro d ρ st N C R E h
    have := putW_ok _ _ _ _ (by simpa only [asgW] using h)
    unfold asgT
    rw [if_pos this.1]
    exact this.2
  | fld o f _ =>
    intro d ρ st N C R E h
    unfold asgW at h; unfold asgT
    refine WP.go ((wpE_ok G call _ _ _ _ _ h).mono (fun x st1 h1 => ?_) fun _ _ h => h)
    obtain ⟨s, e, q⟩ := stoW_of h1
    rw [e]; exact q
  | op2 o own a b _ _ =>
    intro d ρ st N C R E h
    cases o <;> first | (simp only [asgW] at h; done) | skip
    unfold asgW at h; unfold asgT
    refine WP.go ((wpE_ok G call _ _ _ _ _ h).mono (fun x st1 h1 => WP.go ((wpE_ok G call _ _ _ _ _ h1).mono (fun y st2 h2 => ?_) fun _ _ h => h)) fun _ _ h => h)
    obtain ⟨s, e, q⟩ := stoW_of h2
    rw [e]; exact q
  | nil =>
    intro d ρ st N C R E h
    cases d <;> first | (simp only [asgW] at h; done) | skip
    rename_i ds; cases ds
    · simp only [asgW] at h; simp only [asgT]; exact h
    · simp only [asgW] at h
  | cons t ts ih1 ih2 =>
    intro d ρ st N C R E h
    cases d <;> first | (simp only [asgW] at h; done) | skip
    rename_i ds; cases ds
    · simp only [asgW] at h
    · rename_i d ds
      simp only [asgW] at h
      simp only [asgT]
      have := ih1 d ρ st _ C R E h
      cases e : asgT G call t d ρ st with
      | nx ρ1 st1 => rw [e] at this; exact ih2 _ _ _ _ C R E this
      | ct ρ1 st1 => rw [e] at this; exact this
      | ret v st1 => rw [e] at this; exact this
      | err x ρ1 st1 => rw [e] at this; exact this
      | bad => rw [e] at this; exact this
  | _ => intro d ρ st N C R E h; simp only [asgW] at h
/-- a statement's wish -/
def wsS (G : GD) (U : Up) (call : Call) : (s : S) → Env → Store → (N : QN) → (C : QN) → (R : QD) → (E : QX) → (_ : Tok5 s N C R E := .mk) → Prop
  | .skip, ρ, st, N, _, _, _, _ => N ρ st
  | .seq a b, ρ, st, N, C, R, E, _ => wsS G U call a ρ st (fun ρ1 st1 => wsS G U call b ρ1 st1 N C R E) C R E
  | .ex e, ρ, st, N, _, _, E, _ => wpE G call e ρ st (fun _ st1 => N ρ st1) fun x s => E x ρ s
  | .asg t e, ρ, st, N, _, _, E, _ => wpE G call e ρ st (fun d st1 => okW (fitsT t (unp st1 d t)) (asgW G call t (unp st1 d t) ρ st1 N E)) fun x s => E x ρ s
  | .ret e, ρ, st, _, _, R, E, _ => wpE G call e ρ st R fun x s => E x ρ s
  | .ife c a b, ρ, st, N, C, R, E, _ => wpE G call c ρ st (fun x st1 => blW x (wsS G U call a ρ st1 N C R E) (wsS G U call b ρ st1 N C R E)) fun x s => E x ρ s
  | .for_ t it b, ρ, st, N, C, R, E, _ => wpE G call it ρ st (fun x st1 => iterW (iterOf st1 x) fun items chk => WFor G U call t b items chk ρ st1 N C R E) fun x s => E x ρ s
  | .while_ c b, ρ, st, N, C, R, E, _ => WWhile G U call c b ρ st N C R E
  | .raise c ini es, ρ, st, _, _, _, E, _ => wpE G call es ρ st (fun ds st1 => tupW ds fun l => if ini = false then E ⟨c, []⟩ ρ st1 else
      WP (call (c ++ ".__init__") (.ref st1.length :: l) (st1 ++ [.ins c []])) (fun d st2 => nonW d (insW st2[st1.length]? fun c' fs => okW (decide (c = c')) (E ⟨c, fs⟩ ρ (st2.set st1.length .dead)))) fun _ _ => False) fun x s => E x ρ s
  | .try_ b cs v h, ρ, st, N, C, R, E, _ => wsS G U call b ρ st N C R fun x ρ1 st1 => if cs.any (fun c => (U x.cls).contains c) then
        match v with
        | none => wsS G U call h ρ1 st1 N C R E
        | some i => putW i (.ref st1.length) ρ1 fun ρ2 => wsS G U call h ρ2 (st1 ++ [.ins x.cls x.fs]) N C R E
      else E x ρ1 st1
  | .cont, ρ, st, _, C, _, _, _ => C ρ st
theorem wsS_ok (G : GD) (U : Up) (call : Call) : ∀ (s : S) (ρ : Env) (st : Store) (N C : QN) (R : QD) (E : QX), wsS G U call s ρ st N C R E → WS (evS G U call s ρ st) N C R E := by
  intro s
  induction s with
  | skip => intro ρ st N C R E h; unfold evS; exact h
  | seq a b ih1 ih2 =>
    intro ρ st N C R E h
    unfold wsS at h; unfold evS
    have := ih1 _ _ _ _ _ _ h
    cases e : evS G U call a ρ st with
    | nx ρ1 st1 => rw [e] at this; exact ih2 _ _ _ _ _ _ this
    | ct ρ1 st1 => rw [e] at this; exact this
    | ret v st1 => rw [e] at this; exact this
    | err x ρ1 st1 => rw [e] at this; exact this
    | bad => rw [e] at this; exact this
  | ex e =>
    intro ρ st N C R E h
    unfold wsS at h; unfold evS
    exact WP.go ((wpE_ok G call _ _ _ _ _ h).mono (fun x st1 h1 => h1) fun _ _ h => h)
  | asg t e =>
    intro ρ st N C R E h
    unfold wsS at h; unfold evS
    refine WP.go ((wpE_ok G call _ _ _ _ _ h).mono (fun x st1 h1 => ?_) fun _ _ h => h)
    obtain ⟨e, h1⟩ := okW_of h1
    rw [if_pos e]
    exact asgW_ok G call _ _ _ _ _ _ _ _ h1
  | ret e =>
    intro ρ st N C R E h
    unfold wsS at h; unfold evS
    exact WP.go ((wpE_ok G call _ _ _ _ _ h).mono (fun x st1 h1 => h1) fun _ _ h => h)
  | ife c a b ih1 ih2 =>
    intro ρ st N C R E h
    unfold wsS at h; unfold evS
    refine WP.go ((wpE_ok G call _ _ _ _ _ h).mono (fun x st1 h1 => ?_) fun _ _ h => h)
    rcases blW_of h1 with ⟨rfl, q⟩ | ⟨rfl, q⟩
    · exact ih1 _ _ _ _ _ _ q
    · exact ih2 _ _ _ _ _ _ q
  | for_ t it b ih =>
    intro ρ st N C R E h
    unfold wsS at h; unfold evS
    refine WP.go ((wpE_ok G call _ _ _ _ _ h).mono (fun x st1 h1 => ?_) fun _ _ h => h)
    obtain ⟨l, c, e, h1⟩ := iterW_of h1
    rw [e]
    exact h1
  | while_ c b ih =>
    intro ρ st N C R E h
    unfold wsS at h; unfold evS
    exact h
  | raise c ini es =>
    intro ρ st N C R E h
    unfold wsS at h; unfold evS
    refine WP.go ((wpE_ok G call _ _ _ _ _ h).mono (fun x st1 h1 => ?_) fun _ _ h => h)
    obtain ⟨l, rfl, h2⟩ := tupW_of h1
    clear h1
    have h1 := h2
    by_cases hi : ini = false
    · rw [if_pos hi] at h1
      simp only
      rw [if_pos hi]
      exact h1
    · rw [if_neg hi] at h1
      simp only
      rw [if_neg hi]
      cases e : call (c ++ ".__init__") (.ref st1.length :: l) (st1 ++ [.ins c []]) with
      | ok d st2 =>
        rw [e] at h1
        obtain ⟨rfl, h1⟩ := nonW_of h1
        obtain ⟨c', fs, e2, h1⟩ := insW_of h1
        obtain ⟨e3, h1⟩ := okW_of h1
        simp only [e2]
        rw [if_pos (of_decide_eq_true e3)]
        exact h1
      | err x st2 => rw [e] at h1; exact h1.elim
      | bad => rw [e] at h1; exact h1.elim
  | try_ b cs v h' ih1 ih2 =>
    intro ρ st N C R E h
    unfold wsS at h; unfold evS
    have := ih1 _ _ _ _ _ _ h
    cases e : evS G U call b ρ st with
    | nx ρ1 st1 => rw [e] at this; exact this
    | ct ρ1 st1 => rw [e] at this; exact this
    | ret v st1 => rw [e] at this; exact this
    | err x ρ1 st1 =>
      rw [e] at this
      have this : if cs.any (fun c => (U x.cls).contains c) then _ else _ := this
      simp only
      by_cases hc : cs.any (fun c => (U x.cls).contains c) = true
      · rw [if_pos hc] at this ⊢
        cases v with
        | none => exact ih2 _ _ _ _ _ _ this
        | some i =>
          have q := putW_ok _ _ _ _ this
          simp only
          rw [if_pos q.1]
          exact ih2 _ _ _ _ _ _ q.2
      · rw [if_neg hc] at this ⊢
        exact this
    | bad => rw [e] at this; exact this
  | cont => intro ρ st N C R E h; unfold evS; exact h
end MG

set_option linter.all false
set_option maxRecDepth 100000
set_option maxHeartbeats 4000000
/-! Calls, loops, comprehensions. -/
namespace MG
/-! ### the same -/
mutual
theorem same_refl : ∀ d : D, same d d = true
  | .non => rfl
  | .bl b => by simp [same]
  | .int i => by simp [same]
  | .str s => by simp [same]
  | .tup ds => by simp only [same]; exact sameAll_refl ds
  | .lst ds => by simp only [same]; exact sameAll_refl ds
  | .scr ns => by simp [same]
  | .ref r => by simp [same]
  | .gd n => by simp [same]
theorem sameAll_refl : ∀ ds : List D, sameAll ds ds = true
  | [] => rfl
  | d :: ds => by simp only [sameAll, same_refl d, sameAll_refl ds, Bool.and_self]
end
theorem sameKV_refl : ∀ l : List (D × D), sameKV l l = true
  | [] => rfl
  | (k, v) :: r => by simp only [sameKV, same_refl, sameKV_refl r, Bool.and_self]
theorem sameF_refl : ∀ l : List (String × D), sameF l l = true
  | [] => rfl
  | (k, v) :: r => by simp [sameF, same_refl, sameF_refl r]
theorem sameO_refl : ∀ o : O, sameO o o = true
  | .lst ds => sameAll_refl ds
  | .dK l => sameKV_refl l
  | .dT l => sameKV_refl l
  | .ins c fs => by simp [sameO, sameF_refl]
  | .dead => rfl
theorem kept_ext (n : Nat) : ∀ st g : Store, keptB n st (st ++ g) = true
  | [], g => by simp [keptB]
  | o :: st, g => by
    rw [List.cons_append]
    simp only [keptB, sameO_refl, Bool.true_or, Bool.true_and]
    exact kept_ext n st g
theorem kept_refl (n : Nat) (st : Store) : keptB n st st = true := by
  have := kept_ext n st []
  rwa [List.append_nil] at this
/-- the first object is another, which names nothing new -/
theorem kept_hd {n : Nat} {o p : O} {tl : Store} (g : Store) (h : belowO n p = true) : keptB n (o :: tl) (p :: (tl ++ g)) = true := by
  simp only [keptB, h, Bool.or_true, Bool.true_and]
  exact kept_ext n tl g
/-- st1 is st with more behind -/
def Ext (st st1 : Store) : Prop := ∃ g, st1 = st ++ g
theorem Ext.rfl' {st : Store} : Ext st st := ⟨[], by simp⟩
theorem ext_rfl {st : Store} : Ext st st = True := eq_true Ext.rfl'
theorem ext_app {st g : Store} : Ext st (st ++ g) = True := eq_true ⟨g, rfl⟩
theorem ext_app2 {st g g' : Store} : Ext st (st ++ g ++ g') = True := eq_true ⟨g ++ g', by simp⟩

/-! ### calls -/
section
variable {G : GD} {U : Up} {P : Prog} {n : Nat} {st : Store} {f : String} {d : Fn} {args : List D} {Q : QD} {E : QE}
theorem wp_call (hP : P f = some d) (hl : args.length = d.np)
    (h : wsS G U (callN G U P n) d.body (args.map some ++ List.replicate (d.ns - d.np) none) st (fun _ st1 => WP (cutR st (.ok .non st1)) Q E) (fun _ _ => False) (fun v st1 => WP (cutR st (.ok v st1)) Q E) (fun x _ st1 => WP (cutR st (.err x st1)) Q E)) : WP (callN G U P (n + 1) f args st) Q E := by
  rw [callN_succ, hP]
  simp only
  rw [if_pos hl]
  have h := wsS_ok _ _ _ _ _ _ _ _ _ _ h
  cases e : evS G U (callN G U P n) d.body (args.map some ++ List.replicate (d.ns - d.np) none) st with
  | nx ρ1 st1 => rw [e] at h; exact h
  | ct ρ1 st1 => rw [e] at h; exact h.elim
  | ret v st1 => rw [e] at h; exact h
  | err _ _ _ => rw [e] at h; exact h
  | bad => rw [e] at h; exact h.elim
/-- a call's end, of a def that changes nothing -/
def resOf (p : Except Exc D) (st : Store) : Res D := match p with
  | .ok v => .ok v st
  | .error x => .err x st
def blwP (n : Nat) : Except Exc D → Bool
  | .ok v => below n v
  | .error x => belowF n x.fs
theorem cut_ext {v : D} {st1 : Store} (hv : below st.length v = true) (e : Ext st st1) : cutR st (.ok v st1) = .ok v st := by
  obtain ⟨g, rfl⟩ := e
  simp only [cutR, hv, kept_ext, Bool.and_self, if_true, List.take_left']
theorem cut_extE {x : Exc} {st1 : Store} (hv : belowF st.length x.fs = true) (e : Ext st st1) : cutR st (.err x st1) = .err x st := by
  obtain ⟨g, rfl⟩ := e
  simp only [cutR, hv, kept_ext, Bool.and_self, if_true, List.take_left']
theorem pure_res (hP : P f = some d) (hl : args.length = d.np) (p : Except Exc D) (hb : blwP st.length p = true)
    (h : wsS G U (callN G U P n) d.body (args.map some ++ List.replicate (d.ns - d.np) none) st (fun _ st1 => p = .ok .non ∧ Ext st st1) (fun _ _ => False) (fun v st1 => p = .ok v ∧ Ext st st1) (fun x _ st1 => p = .error x ∧ Ext st st1)) : callN G U P (n + 1) f args st = resOf p st := by
  have z := wsS_ok _ _ _ _ _ _ _ _ _ _ h
  clear h
  rw [callN_succ, hP]
  simp only
  rw [if_pos hl]
  cases e : evS G U (callN G U P n) d.body (args.map some ++ List.replicate (d.ns - d.np) none) st with
  | nx ρ1 st1 => rw [e] at z; obtain ⟨rfl, z'⟩ := z; exact cut_ext rfl z'
  | ct ρ1 st1 => rw [e] at z; exact z.elim
  | ret v st1 => rw [e] at z; obtain ⟨rfl, z'⟩ := z; exact cut_ext hb z'
  | err x ρ1 st1 => rw [e] at z; obtain ⟨rfl, z'⟩ := z; exact cut_extE hb z'
  | bad => rw [e] at z; exact z.elim
theorem pure_ok (hP : P f = some d) (hl : args.length = d.np) {v : D} (hb : below st.length v = true)
    (h : wsS G U (callN G U P n) d.body (args.map some ++ List.replicate (d.ns - d.np) none) st (fun _ st1 => D.non = v ∧ Ext st st1) (fun _ _ => False) (fun w st1 => w = v ∧ Ext st st1) (fun _ _ _ => False)) : callN G U P (n + 1) f args st = .ok v st := by
  have z := wsS_ok _ _ _ _ _ _ _ _ _ _ h
  clear h
  rw [callN_succ, hP]
  simp only
  rw [if_pos hl]
  cases e : evS G U (callN G U P n) d.body (args.map some ++ List.replicate (d.ns - d.np) none) st with
  | nx ρ1 st1 => rw [e] at z; obtain ⟨rfl, z'⟩ := z; exact cut_ext rfl z'
  | ct ρ1 st1 => rw [e] at z; exact z.elim
  | ret v st1 => rw [e] at z; obtain ⟨rfl, z'⟩ := z; exact cut_ext hb z'
  | err x ρ1 st1 => rw [e] at z; exact z.elim
  | bad => rw [e] at z; exact z.elim
end

/-! ### loops -/
section
variable {G : GD} {U : Up} {call : Call} {ρ : Env} {st : Store} {N C : QN} {R : QD} {E : QX}
/-- a loop: I of how many turns are done -/
theorem wfor {t : MG.C} {b : S} {chk : Option (Nat × List D)} {items : List D} (I : Nat → Env → Store → Prop) (h0 : I 0 ρ st)
    (step : ∀ i d ρ st, items[i]? = some d → I i ρ st → stays st chk = true ∧ envW (bindT t d ρ) fun ρ1 => wsS G U call b ρ1 st (I (i + 1)) (I (i + 1)) R E)
    (done : ∀ ρ st, I items.length ρ st → stays st chk = true ∧ N ρ st) : WFor G U call t b items chk ρ st N C R E := by
  have all : ∀ (k : Nat) (l : List D), l = items.drop k → k ≤ items.length → ∀ ρ st, I k ρ st → WS (forL (fun d ρ' => bindT t d ρ') (fun ρ' st' => evS G U call b ρ' st') chk l ρ st) N C R E := by
    intro k l
    induction l generalizing k with
    | nil =>
      intro hl hk ρ st hI
      have : items.length ≤ k := List.drop_eq_nil_iff.mp hl.symm
      have : k = items.length := by omega
      subst this
      unfold forL
      obtain ⟨h1, h2⟩ := done ρ st hI
      rw [if_pos h1]
      exact h2
    | cons d l ih =>
      intro hl hk ρ st hI
      have hlt : k < items.length := by
        by_cases c : k < items.length
        · exact c
        · rw [List.drop_eq_nil_of_le (by omega)] at hl; cases hl
      have hd : items[k]? = some d := by
        rw [List.drop_eq_getElem_cons hlt] at hl
        cases hl
        exact List.getElem?_eq_getElem hlt
      have hl' : l = items.drop (k + 1) := by
        rw [List.drop_eq_getElem_cons hlt] at hl
        cases hl
        rfl
      obtain ⟨h1, h2⟩ := step k d ρ st hd hI
      obtain ⟨ρ1, h2, h3⟩ := envW_of h2
      have h3 := wsS_ok _ _ _ _ _ _ _ _ _ _ h3
      unfold forL
      rw [if_pos h1, h2]
      simp only
      cases e : evS G U call b ρ1 st with
      | nx ρ2 st2 => rw [e] at h3; exact ih (k + 1) hl' hlt ρ2 st2 h3
      | ct ρ2 st2 => rw [e] at h3; exact ih (k + 1) hl' hlt ρ2 st2 h3
      | ret v st2 => rw [e] at h3; exact h3
      | err _ _ _ => rw [e] at h3; exact h3
      | bad => rw [e] at h3; exact h3
  exact all 0 items rfl (Nat.zero_le _) ρ st h0
/-- a loop over data: I of what is left -/
theorem wforl {α : Type} {t : MG.C} {b : S} (enc : α → D) (xs : List α) (I : List α → Env → Store → Prop) (h0 : I xs ρ st)
    (step : ∀ x l ρ st, (∃ k, xs.drop k = x :: l) → I (x :: l) ρ st → envW (bindT t (enc x) ρ) fun ρ1 => wsS G U call b ρ1 st (I l) (I l) R E)
    (done : ∀ ρ st, I [] ρ st → N ρ st) : WFor G U call t b (xs.map enc) none ρ st N C R E := by
  refine wfor (fun i ρ st => I (xs.drop i) ρ st) h0 ?_ ?_
  · intro i d ρ st hd hI
    rw [List.getElem?_map] at hd
    cases e : xs[i]? with
    | none => rw [e] at hd; cases hd
    | some x =>
      rw [e] at hd
      cases hd
      have hi := (List.getElem?_eq_some_iff.mp e).1
      have e2 : xs.drop i = x :: xs.drop (i + 1) := by
        rw [List.drop_eq_getElem_cons hi]
        have := (List.getElem?_eq_some_iff.mp e).2
        rw [this]
      rw [e2] at hI
      exact ⟨rfl, step x (xs.drop (i + 1)) ρ st ⟨i, e2⟩ hI⟩
  · intro ρ st hI
    rw [List.length_map, List.drop_length] at hI
    exact ⟨rfl, done ρ st hI⟩
/-- while: I by a measure below the turns -/
theorem wwhile {c : MG.C} {b : S} (I : Nat → Env → Store → Prop) {m : Nat} (hm : m < TURNS) (h0 : I m ρ st)
    (step : ∀ m ρ st, I m ρ st → wpE G call c ρ st (fun x st1 => blW x (wsS G U call b ρ st1 (fun ρ' st' => ∃ m', m' < m ∧ I m' ρ' st') (fun ρ' st' => ∃ m', m' < m ∧ I m' ρ' st') R E) (N ρ st1)) fun x s => E x ρ s) :
    WWhile G U call c b ρ st N C R E := by
  have all : ∀ (n m : Nat) (ρ : Env) (st : Store), m < n → I m ρ st → WS (whileL (fun ρ' st' => evE G call c ρ' st') (fun ρ' st' => evS G U call b ρ' st') n ρ st) N C R E := by
    intro n
    induction n with
    | zero => intro m ρ st h; omega
    | succ n ih =>
      intro m ρ st h hI
      unfold whileL
      refine WP.go ((wpE_ok _ _ _ _ _ _ _ (step m ρ st hI)).mono (fun x st1 q => ?_) fun _ _ h => h)
      rcases blW_of q with ⟨rfl, q⟩ | ⟨rfl, q⟩
      · simp only
        have q := wsS_ok _ _ _ _ _ _ _ _ _ _ q
        cases e : evS G U call b ρ st1 with
        | nx ρ2 st2 =>
          rw [e] at q
          obtain ⟨m', hm, q⟩ := q
          exact ih m' ρ2 st2 (by omega) q
        | ct ρ2 st2 =>
          rw [e] at q
          obtain ⟨m', hm, q⟩ := q
          exact ih m' ρ2 st2 (by omega) q
        | ret v st2 => rw [e] at q; exact q
        | err _ _ _ => rw [e] at q; exact q
        | bad => rw [e] at q; exact q
      · exact q
  exact all TURNS m ρ st hm h0
end

/-! ### comprehensions -/
theorem belowAll_app (n : Nat) : ∀ a b : List D, belowAll n (a ++ b) = (belowAll n a && belowAll n b)
  | [], b => by simp [belowAll]
  | x :: a, b => by simp only [List.cons_append, belowAll, belowAll_app n a b, Bool.and_assoc]
section
variable {G : GD} {U : Up} {call : Call} {ρ : Env} {st1 : Store} {vs : List Nat} {t cond elt : C} {Q : QD} {E : QE}
theorem compL_ok {r : Nat} {bind : D → Option Env} {cond elt : Env → Store → Res D} {chk : Option (Nat × List D)} {items : List D} {Q : QD} {E : QE} (I : Nat → List D → Store → Prop)
    (step : ∀ i d acc st, items[i]? = some d → I i acc st → stays st chk = true ∧ ∃ ρ, bind d = some ρ ∧ WP (cond ρ st) (fun x st1 => blW x (WP (elt ρ st1) (fun e st2 => st2[r]? = some (.lst acc) ∧ acc.length < LIM ∧ I (i + 1) (acc ++ [e]) (st2.set r (.lst (acc ++ [e])))) fun _ _ => False) (I (i + 1) acc st1)) fun _ _ => False)
    (done : ∀ acc st, I items.length acc st → stays st chk = true ∧ Q .non st) {acc : List D} {st : Store} (h0 : I 0 acc st) : WP (compL r bind cond elt chk items st) Q E := by
  have ex : ∀ {r : Res D} {Q : QD}, WP r Q (fun _ _ => False) → ∃ d st, r = .ok d st ∧ Q d st := by
    intro r Q h
    cases r with
    | ok d st => exact ⟨d, st, rfl, h⟩
    | err _ _ => exact h.elim
    | bad => exact h.elim
  have all : ∀ (k : Nat) (l : List D), l = items.drop k → k ≤ items.length → ∀ acc st, I k acc st → WP (compL r bind cond elt chk l st) Q E := by
    intro k l
    induction l generalizing k with
    | nil =>
      intro hl hk acc st hI
      have : items.length ≤ k := List.drop_eq_nil_iff.mp hl.symm
      have : k = items.length := by omega
      subst this
      unfold compL
      obtain ⟨h1, h2⟩ := done acc st hI
      rw [if_pos h1]
      exact h2
    | cons d l ih =>
      intro hl hk acc st hI
      have hlt : k < items.length := by
        by_cases c : k < items.length
        · exact c
        · rw [List.drop_eq_nil_of_le (by omega)] at hl; cases hl
      have hd : items[k]? = some d := by
        rw [List.drop_eq_getElem_cons hlt] at hl
        cases hl
        exact List.getElem?_eq_getElem hlt
      have hl' : l = items.drop (k + 1) := by
        rw [List.drop_eq_getElem_cons hlt] at hl
        cases hl
        rfl
      obtain ⟨h1, ρ, h2, h3⟩ := step k d acc st hd hI
      unfold compL
      rw [if_pos h1, h2]
      simp only
      obtain ⟨x, st1, e1, h4⟩ := ex h3
      rw [e1]
      rcases blW_of h4 with ⟨rfl, h4⟩ | ⟨rfl, h4⟩
      · simp only
        obtain ⟨e, st2, e2, h5, h6, h7⟩ := ex h4
        rw [e2]
        simp only
        rw [h5]
        simp only
        rw [if_pos h6]
        exact ih (k + 1) hl' hlt _ _ h7
      · exact ih (k + 1) hl' hlt acc st1 h4
  exact all 0 items rfl (Nat.zero_le _) acc st h0
/-- [..] as a value: the store behind it is cut back -/
theorem wcomp {items : List D} {chk : Option (Nat × List D)} (I : Nat → List D → Store → Prop) (h0 : I 0 [] st1)
      (hlen : ∀ i acc st2, I i acc st2 → st2.length = st1.length)
      (step : ∀ i d acc st2, items[i]? = some d → I i acc st2 → stays (st2 ++ [.lst acc]) chk = true ∧ acc.length < LIM ∧ envW (bindT t d (wipe ρ vs)) fun ρ1 => wpE G call cond ρ1 (st2 ++ [.lst acc]) (fun x st3 => blW x
        (wpE G call elt ρ1 st3 (fun e st4 => ∃ st5, st4 = st5 ++ [.lst acc] ∧ I (i + 1) (acc ++ [e]) st5) fun _ _ => False) (∃ st5, st3 = st5 ++ [.lst acc] ∧ I (i + 1) acc st5)) fun _ _ => False)
      (done : ∀ acc st2, I items.length acc st2 → stays (st2 ++ [.lst acc]) chk = true ∧ keptB st1.length st1 st2 = true ∧ belowAll st1.length acc = true ∧ Q (.lst acc) st2) :
    WComp G call false vs t cond elt ρ items chk st1 Q E := by
  refine WP.bind (compL_ok (acc := []) (fun i acc st => ∃ st2, st = st2 ++ [.lst acc] ∧ I i acc st2) ?_ ?_ ⟨st1, rfl, h0⟩)
  · rintro i d acc _ hd ⟨st2, rfl, hI⟩
    obtain ⟨h1, hac, h2⟩ := step i d acc st2 hd hI
    obtain ⟨ρ1, h2, h3⟩ := envW_of h2
    have hl := hlen _ _ _ hI
    refine ⟨h1, ρ1, h2, (wpE_ok G call _ _ _ _ _ h3).mono (fun x st3 h4 => ?_) fun _ _ h => h⟩
    rcases blW_of h4 with ⟨rfl, h4⟩ | ⟨rfl, h4⟩
    · refine (wpE_ok G call _ _ _ _ _ h4).mono (fun e st4 ⟨st5, e5, h7⟩ => ?_) fun _ _ h => h
      have hlen5 := hlen _ _ _ h7
      subst e5
      refine ⟨by rw [← hlen5, List.getElem?_concat_length], hac, st5, ?_, h7⟩
      rw [← hlen5, List.set_append_right _ _ (Nat.le_refl _)]
      simp
    · exact h4
  · rintro acc _ ⟨st2, rfl, hI⟩
    obtain ⟨h1, h2, h3, h4⟩ := done acc st2 hI
    have hl := hlen _ _ _ hI
    refine ⟨h1, ?_⟩
    rw [if_neg Bool.false_ne_true]
    unfold freezeC
    rw [← hl, List.getElem?_concat_length]
    simp only
    have c2 : List.take st2.length (st2 ++ [O.lst acc]) = st2 := by simp
    have c3 : keptB st2.length st1 (st2 ++ [O.lst acc]) = true := by
      rw [hl]
      have app : ∀ (a b g : Store), keptB st1.length a b = true → keptB st1.length a (b ++ g) = true := by
        intro a
        induction a with
        | nil => intro b g _; simp [keptB]
        | cons x a ih =>
          intro b g h
          cases b with
          | nil => simp [keptB] at h
          | cons y b =>
            simp only [List.cons_append, keptB, Bool.and_eq_true] at h ⊢
            exact ⟨h.1, ih b g h.2⟩
      exact app _ _ _ h2
    rw [hl] at c2 c3 ⊢
    rw [c2, h3, c3]
    exact h4
/-- the items that pass, in turn; nothing of the store is changed -/
theorem wpure {α : Type} {chk : Option (Nat × List D)} (enc : α → D) (xs : List α) (p : α → Bool) (f : α → D) (hl : xs.length ≤ LIM)
      (hst : ∀ acc, stays (st1 ++ [.lst acc]) chk = true)
      (step : ∀ x ∈ xs, ∀ acc, envW (bindT t (enc x) (wipe ρ vs)) fun ρ1 => wpE G call cond ρ1 (st1 ++ [.lst acc]) (fun b st3 => b = .bl (p x) ∧ st3 = st1 ++ [.lst acc] ∧ (p x = true → wpE G call elt ρ1 (st1 ++ [.lst acc]) (fun e st4 => e = f x ∧ st4 = st1 ++ [.lst acc]) fun _ _ => False)) fun _ _ => False)
      (hb : ∀ x ∈ xs, p x = true → below st1.length (f x) = true)
      (hQ : Q (.lst ((xs.filter p).map f)) st1) : WComp G call false vs t cond elt ρ (xs.map enc) chk st1 Q E := by
  refine wcomp (fun i acc st2 => st2 = st1 ∧ acc = ((xs.take i).filter p).map f ∧ belowAll st1.length acc = true) ⟨rfl, rfl, rfl⟩ (fun _ _ _ h => by rw [h.1]) ?_ ?_
  · rintro i d acc st2 hd ⟨rfl, rfl, hbl⟩
    rw [List.getElem?_map] at hd
    cases e : xs[i]? with
    | none => rw [e] at hd; cases hd
    | some x =>
      rw [e] at hd
      cases hd
      have hi := (List.getElem?_eq_some_iff.mp e).1
      have ht : xs.take (i + 1) = xs.take i ++ [x] := by
        rw [List.take_succ, e]; rfl
      have hx := List.mem_of_getElem? e
      refine ⟨hst _, ?_, ?_⟩
      · have h1 : (((xs.take i).filter p).map f).length ≤ i := by
          rw [List.length_map]
          exact Nat.le_trans (List.length_filter_le _ _) (by rw [List.length_take]; omega)
        omega
      · have h2 := step x hx (((xs.take i).filter p).map f)
        obtain ⟨ρ1, e1, h2⟩ := envW_of h2
        rw [e1]
        show wpE _ _ _ _ _ _ _
        refine wpE_mono _ _ _ _ _ _ _ h2 (fun b st3 ⟨e1, e2, h3⟩ => ?_) fun _ _ h => h
        subst e1 e2
        cases hp : p x with
        | false =>
          refine ⟨st2, rfl, rfl, ?_, ?_⟩
          · rw [ht, List.filter_append]; simp [hp]
          · exact hbl
        | true =>
          refine wpE_mono _ _ _ _ _ _ _ (h3 hp) (fun e st4 ⟨e1, e2⟩ => ⟨st2, e2, rfl, ?_, ?_⟩) fun _ _ h => h
          · rw [ht, List.filter_append, e1]; simp [hp]
          · rw [belowAll_app, hbl, e1]
            simp [belowAll, hb x hx hp]
  · rintro acc st2 ⟨rfl, rfl, hbl⟩
    rw [List.length_map, List.take_length] at hbl ⊢
    exact ⟨hst _, kept_refl _ _, hbl, hQ⟩
where
  wpE_mono : ∀ (c : C) (ρ : Env) (st : Store) (Q Q' : QD) (E E' : QE), wpE G call c ρ st Q E → (∀ d st, Q d st → Q' d st) → (∀ x st, E x st → E' x st) → wpE G call c ρ st Q' E' := by
    have m1 : ∀ {d : D} {k k' : List D → Prop}, tupW d k → (∀ l, k l → k' l) → tupW d k' := fun h q => by obtain ⟨l, rfl, h⟩ := tupW_of h; exact q l h
    have m2 : ∀ {d : D} {a b a' b' : Prop}, blW d a b → (a → a') → (b → b') → blW d a' b' := fun h q1 q2 => by
      rcases blW_of h with ⟨rfl, h⟩ | ⟨rfl, h⟩
      · exact q1 h
      · exact q2 h
    have m3 : ∀ {d : Option (Option Int)} {k k' : Option Int → Prop}, partW d k → (∀ l, k l → k' l) → partW d k' := fun h q => by obtain ⟨l, rfl, h⟩ := partW_of h; exact q l h
    have m4 : ∀ {b : Bool} {k k' : Prop}, okW b k → (k → k') → okW b k' := fun h q => by obtain ⟨rfl, h⟩ := okW_of h; exact q h
    have m5 : ∀ {d : Option O} {k k' : String → List (String × D) → Prop}, insW d k → (∀ a b, k a b → k' a b) → insW d k' := fun h q => by obtain ⟨c, fs, rfl, h⟩ := insW_of h; exact q _ _ h
    have m6 : ∀ {d : D} {k k' : Nat → Prop}, refW d k → (∀ l, k l → k' l) → refW d k' := fun h q => by obtain ⟨l, rfl, h⟩ := refW_of h; exact q l h
    have m7 : ∀ {d : D} {k k' : Prop}, nonW d k → (k → k') → nonW d k' := fun h q => by obtain ⟨rfl, h⟩ := nonW_of h; exact q h
    have m8 : ∀ {o : Option D} {k k' : D → Prop}, getW o k → (∀ l, k l → k' l) → getW o k' := fun h q => by obtain ⟨l, rfl, h⟩ := getW_of h; exact q l h
    have m9 : ∀ {x y : D} {k k' : Int → Int → Prop}, ints2W x y k → (∀ i j, k i j → k' i j) → ints2W x y k' := fun h q => by obtain ⟨i, j, rfl, rfl, h⟩ := ints2W_of h; exact q i j h
    have m10 : ∀ {o : Option (List D)} {k k' : List D → Prop}, lstW o k → (∀ l, k l → k' l) → lstW o k' := fun h q => by obtain ⟨l, rfl, h⟩ := lstW_of h; exact q l h
    have m11 : ∀ {o : Option (List (D × D))} {k k' : List (D × D) → Prop}, prsW o k → (∀ l, k l → k' l) → prsW o k' := fun h q => by obtain ⟨l, rfl, h⟩ := prsW_of h; exact q l h
    intro c
    induction c with
    | var i => exact fun ρ st Q Q' E E' h q e => m8 h fun _ => q _ _
    | k d => exact fun ρ st Q Q' E E' h q e => q _ _ h
    | nil => exact fun ρ st Q Q' E E' h q e => q _ _ h
    | cons a es ih1 ih2 => intro ρ st Q Q' E E' h q e; unfold wpE at h ⊢; exact ih1 _ _ _ _ _ _ h (fun d st1 h1 => ih2 _ _ _ _ _ _ h1 (fun ds st2 h2 => m1 h2 fun l => q _ _) e) e
    | lst own es ih => intro ρ st Q Q' E E' h q e; unfold wpE at h ⊢; exact ih _ _ _ _ _ _ h (fun d st1 h1 => m1 h1 fun l h2 => h2.mono q e) e
    | op1 o a ih => intro ρ st Q Q' E E' h q e; unfold wpE at h ⊢; exact ih _ _ _ _ _ _ h (fun d st1 h1 => h1.mono q e) e
    | op2 o own a b ih1 ih2 => intro ρ st Q Q' E E' h q e; unfold wpE at h ⊢; exact ih1 _ _ _ _ _ _ h (fun d st1 h1 => ih2 _ _ _ _ _ _ h1 (fun d st2 h2 => h2.mono q e) e) e
    | and a b ih1 ih2 => intro ρ st Q Q' E E' h q e; unfold wpE at h ⊢; exact ih1 _ _ _ _ _ _ h (fun d st1 h1 => m2 h1 (fun h2 => ih2 _ _ _ _ _ _ h2 q e) (q _ _)) e
    | or a b ih1 ih2 => intro ρ st Q Q' E E' h q e; unfold wpE at h ⊢; exact ih1 _ _ _ _ _ _ h (fun d st1 h1 => m2 h1 (q _ _) (fun h2 => ih2 _ _ _ _ _ _ h2 q e)) e
    | ite c a b ih0 ih1 ih2 => intro ρ st Q Q' E E' h q e; unfold wpE at h ⊢; exact ih0 _ _ _ _ _ _ h (fun d st1 h1 => m2 h1 (fun h2 => ih1 _ _ _ _ _ _ h2 q e) (fun h2 => ih2 _ _ _ _ _ _ h2 q e)) e
    | chain o1 o2 a b c ih1 ih2 ih3 =>
      intro ρ st Q Q' E E' h q e; unfold wpE at h ⊢
      exact ih1 _ _ _ _ _ _ h (fun d st1 h1 => ih2 _ _ _ _ _ _ h1 (fun d st2 h2 => h2.mono (fun z st3 h3 => m2 h3 (fun h4 => ih3 _ _ _ _ _ _ h4 (fun w st4 h5 => h5.mono q e) e) (q _ _)) e) e) e
    | slc own a lo hi ih1 ih2 ih3 =>
      intro ρ st Q Q' E E' h q e; unfold wpE at h ⊢
      exact ih1 _ _ _ _ _ _ h (fun d st1 h1 => ih2 _ _ _ _ _ _ h1 (fun l st2 h2 => m3 h2 fun a h3 => ih3 _ _ _ _ _ _ h3 (fun hh st3 h4 => m3 h4 fun b h5 => h5.mono q e) e) e) e
    | rev own a ih => intro ρ st Q Q' E E' h q e; unfold wpE at h ⊢; exact ih _ _ _ _ _ _ h (fun x st1 h1 => m10 h1 fun l h2 => h2.mono q e) e
    | bi f own es ih => intro ρ st Q Q' E E' h q e; unfold wpE at h ⊢; exact ih _ _ _ _ _ _ h (fun d st1 h1 => m1 h1 fun l h2 => h2.mono q e) e
    | bm f own o es ih1 ih2 => intro ρ st Q Q' E E' h q e; unfold wpE at h ⊢; exact ih1 _ _ _ _ _ _ h (fun d st1 h1 => m4 h1 fun h1 => ih2 _ _ _ _ _ _ h1 (fun ds st2 h2 => m1 h2 fun l h3 => h3.mono q e) e) e
    | call f es ih => intro ρ st Q Q' E E' h q e; unfold wpE at h ⊢; exact ih _ _ _ _ _ _ h (fun d st1 h1 => m1 h1 fun l h2 => h2.mono q e) e
    | meth c m o es ih1 ih2 => intro ρ st Q Q' E E' h q e; unfold wpE at h ⊢; exact ih1 _ _ _ _ _ _ h (fun d st1 h1 => m6 h1 fun r h1 => m5 h1 fun c fs h1 => m4 h1 fun h1 => ih2 _ _ _ _ _ _ h1 (fun ds st2 h2 => m1 h2 fun l h3 => h3.mono q e) e) e
    | make c es ih => intro ρ st Q Q' E E' h q e; unfold wpE at h ⊢; exact ih _ _ _ _ _ _ h (fun d st1 h1 => m1 h1 fun l h2 => h2.mono (fun d st2 h3 => m7 h3 (q _ _)) e) e
    | fld o f ih => intro ρ st Q Q' E E' h q e; unfold wpE at h ⊢; exact ih _ _ _ _ _ _ h (fun d st1 h1 => m6 h1 fun r h1 => m5 h1 fun c fs h1 => m8 h1 fun d h1 => q _ _ h1) e
    | comp own vs t it cond elt ih1 ih2 ih3 ih4 =>
      intro ρ st Q Q' E E' h q e; unfold wpE at h ⊢
      refine ih2 _ _ _ _ _ _ h (fun x st1 h1 => ?_) e
      obtain ⟨l, c, e1, h1⟩ := iterW_of h1
      rw [e1]
      unfold WComp at h1
      exact h1.mono q e
    | rng a b ih1 ih2 => intro ρ st Q Q' E E' h q e; unfold wpE at h ⊢; exact ih1 _ _ _ _ _ _ h (fun d st1 h1 => ih2 _ _ _ _ _ _ h1 (fun d st2 h2 => m9 h2 fun i j h3 => ⟨h3.1, q _ _ h3.2⟩) e) e
    | rrng a b ih1 ih2 => intro ρ st Q Q' E E' h q e; unfold wpE at h ⊢; exact ih1 _ _ _ _ _ _ h (fun d st1 h1 => ih2 _ _ _ _ _ _ h1 (fun d st2 h2 => m9 h2 fun i j h3 => ⟨h3.1, q _ _ h3.2⟩) e) e
    | enum a ih =>
      intro ρ st Q Q' E E' h q e; unfold wpE at h ⊢
      refine ih _ _ _ _ _ _ h (fun x st1 h1 => ?_) e
      cases x <;> first | exact q _ _ h1 | exact h1.elim
    | zip a b ih1 ih2 =>
      intro ρ st Q Q' E E' h q e; unfold wpE at h ⊢
      refine ih1 _ _ _ _ _ _ h (fun x st1 h1 => ih2 _ _ _ _ _ _ h1 (fun y st2 h2 => ?_) e) e
      cases x <;> cases y <;> first | exact q _ _ h2 | exact h2.elim
    | dict tk es ih =>
      intro ρ st Q Q' E E' h q e; unfold wpE at h ⊢
      cases tk with
      | true => exact q _ _ h
      | false =>
        simp only [Bool.false_eq_true, if_false] at h ⊢
        exact ih _ _ _ _ _ _ h (fun ds st1 h1 => m1 h1 fun l h1 => m11 h1 fun ps h1 => m4 h1 fun h1 => ⟨h1.1, q _ _ h1.2⟩) e
    | frz a ih => intro ρ st Q Q' E E' h q e; unfold wpE at h ⊢; exact ih _ _ _ _ _ _ h (fun x st1 h1 => m6 h1 fun r h1 => h1.mono q e) e
end
end MG

set_option linter.all false
set_option maxRecDepth 100000
set_option maxHeartbeats 4000000
/-! The operators, as rewriting rules. -/
namespace MG
section
variable {G : GD} {own : Bool} {st : Store}
variable {U : Up} {call : Call}
theorem wpE_var : wpE G call (.var i) ρ st Q z4 = getW (getE ρ i) fun d => Q d st := id rfl
theorem wpE_k : wpE G call (.k d) z1 st Q z4 = Q d st := id rfl
theorem wpE_nil : wpE G call (.nil) z1 st Q z4 = Q (.tup []) st := id rfl
theorem wpE_cons : wpE G call (.cons e es) ρ st Q E = wpE G call e ρ st (fun d st1 => wpE G call es ρ st1 (fun ds st2 => tupW ds fun l => Q (.tup (d :: l)) st2) E) E := id rfl
theorem wpE_lst : wpE G call (.lst own es) ρ st Q E = wpE G call es ρ st (fun ds st1 => tupW ds fun l => WP (give own l st1) Q E) E := id rfl
theorem wpE_op1 : wpE G call (.op1 o a) ρ st Q E = wpE G call a ρ st (fun x st1 => WP (op1V o x st1) Q E) E := id rfl
theorem wpE_op2 : wpE G call (.op2 o own a b) ρ st Q E = wpE G call a ρ st (fun x st1 => wpE G call b ρ st1 (fun y st2 => WP (op2V G own o x y st2) Q E) E) E := id rfl
theorem wpE_and : wpE G call (.and a b) ρ st Q E = wpE G call a ρ st (fun x st1 => blW x (wpE G call b ρ st1 Q E) (Q (.bl false) st1)) E := id rfl
theorem wpE_or : wpE G call (.or a b) ρ st Q E = wpE G call a ρ st (fun x st1 => blW x (Q (.bl true) st1) (wpE G call b ρ st1 Q E)) E := id rfl
theorem wpE_ite : wpE G call (.ite c a b) ρ st Q E = wpE G call c ρ st (fun x st1 => blW x (wpE G call a ρ st1 Q E) (wpE G call b ρ st1 Q E)) E := id rfl
theorem wpE_chain : wpE G call (.chain o1 o2 a b c) ρ st Q E = wpE G call a ρ st (fun x st1 => wpE G call b ρ st1 (fun y st2 => WP (op2V G false o1 x y st2) (fun z st3 =>
      blW z (wpE G call c ρ st3 (fun w st4 => WP (op2V G false o2 y w st4) Q E) E) (Q (.bl false) st3)) E) E) E := id rfl
theorem wpE_slc : wpE G call (.slc own e lo hi) ρ st Q E = wpE G call e ρ st (fun x st1 => wpE G call lo ρ st1 (fun l st2 => partW (partOf lo l) fun a =>
      wpE G call hi ρ st2 (fun h st3 => partW (partOf hi h) fun b => WP (slV own x a b st3) Q E) E) E) E := id rfl
theorem wpE_rev : wpE G call (.rev own e) ρ st Q E = wpE G call e ρ st (fun x st1 => lstW (lstOf st1 x) fun ds => WP (give own ds.reverse st1) Q E) E := id rfl
theorem wpE_bi : wpE G call (.bi f own es) ρ st Q E = wpE G call es ρ st (fun ds st1 => tupW ds fun l => WP (biV G own f l st1) Q E) E := id rfl
theorem wpE_bm : wpE G call (.bm f own o es) ρ st Q E = wpE G call o ρ st (fun x st1 => okW (recv f st1 x) (wpE G call es ρ st1 (fun ds st2 => tupW ds fun l => WP (biV G own f (x :: l) st2) Q E) E)) E := id rfl
theorem wpE_call : wpE G call (.call f es) ρ st Q E = wpE G call es ρ st (fun ds st1 => tupW ds fun l => WP (call f l st1) Q E) E := id rfl
theorem wpE_meth : wpE G call (.meth c m o es) ρ st Q E = wpE G call o ρ st (fun x st1 => refW x fun r => insW st1[r]? fun c' fs => okW (decide (c = c') && (fget fs m).isNone) (wpE G call es ρ st1 (fun ds st2 => tupW ds fun l => WP (call (c ++ "." ++ m) (x :: l) st2) Q E) E)) E := id rfl
theorem wpE_make : wpE G call (.make c es) ρ st Q E = wpE G call es ρ st (fun ds st1 => tupW ds fun l => WP (call (c ++ ".__init__") (.ref st1.length :: l) (st1 ++ [.ins c []])) (fun d st2 => nonW d (Q (.ref st1.length) st2)) E) E := id rfl
theorem wpE_fld : wpE G call (.fld o f) ρ st Q E = wpE G call o ρ st (fun x st1 => refW x fun r => insW st1[r]? fun _ fs => getW (fget fs f) fun d => Q d st1) E := id rfl
theorem wpE_comp : wpE G call (.comp own vs t it cnd elt) ρ st Q E = wpE G call it ρ st (fun x st1 => iterW (iterOf st1 x) fun items chk => WComp G call own vs t cnd elt ρ items chk st1 Q E) E := id rfl
theorem wpE_rng : wpE G call (.rng a b) ρ st Q E = wpE G call a ρ st (fun x st1 => wpE G call b ρ st1 (fun y st2 => ints2W x y fun i j => RgOk i j ∧ Q (.tup (rangeD i (j - i).toNat)) st2) E) E := id rfl
theorem wpE_rrng : wpE G call (.rrng a b) ρ st Q E = wpE G call a ρ st (fun x st1 => wpE G call b ρ st1 (fun y st2 => ints2W x y fun i j => RgOk i j ∧ Q (.tup (rangeD i (j - i).toNat).reverse) st2) E) E := id rfl
theorem wpE_enum : wpE G call (.enum e) ρ st Q E = wpE G call e ρ st (fun x st1 => match x with
    | .tup ds => Q (.tup (enumD 0 ds)) st1
    | .lst ds => Q (.tup (enumD 0 ds)) st1
    | _ => False) E := id rfl
theorem wpE_zip : wpE G call (.zip a b) ρ st Q E = wpE G call a ρ st (fun x st1 => wpE G call b ρ st1 (fun y st2 => match x, y with
    | .tup i, .tup j => Q (.tup (zipD i j)) st2
    | .lst i, .lst j => Q (.tup (zipD i j)) st2
    | _, _ => False) E) E := id rfl
theorem wpE_dict : wpE G call (.dict tk es) ρ st Q E = if tk then Q (.ref st.length) (st ++ [.dT []]) else
      wpE G call es ρ (st ++ [.dK []]) (fun ds st1 => tupW ds fun l => prsW (flatPairs l) fun ps => okW (ps.all (fun p => keyK p.1) && decide (ps.length ≤ 15)) (st1[st.length]? = some (.dK []) ∧ Q (.ref st.length) (st1.set st.length (.dK (dputAll [] ps))))) E := id rfl
theorem wpE_frz : wpE G call (.frz e) ρ st Q E = wpE G call e ρ st (fun x st1 => refW x fun r => WP (freeze r st1) Q E) E := id rfl
theorem asgW_var : asgW G call (.var i) d ρ st N z5 = putW i d ρ fun ρ' => N ρ' st := id rfl
theorem asgW_fld : asgW G call (.fld o f) d ρ st N E = wpE G call o ρ st (fun x st1 => stoW (setFld st1 x f d) fun st2 => N ρ st2) fun x s => E x ρ s := id rfl
theorem asgW_op2 : asgW G call (.op2 .idx z0 o i) d ρ st N E = wpE G call o ρ st (fun x st1 => wpE G call i ρ st1 (fun y st2 => stoW (setIdx G st2 x y d) fun st3 => N ρ st3) fun x s => E x ρ s) fun x s => E x ρ s := id rfl
theorem asgW_nil : asgW G call (.nil) (.tup []) ρ st N z5 = N ρ st := id rfl
theorem asgW_cons : asgW G call (.cons t ts) (.tup (d :: ds)) ρ st N E = asgW G call t d ρ st (fun ρ1 st1 => asgW G call ts (.tup ds) ρ1 st1 N E) E := id rfl
theorem wsS_skip : wsS G U call (.skip) ρ st N z4 z5 z6 = N ρ st := id rfl
theorem wsS_seq : wsS G U call (.seq a b) ρ st N K R E = wsS G U call a ρ st (fun ρ1 st1 => wsS G U call b ρ1 st1 N K R E) K R E := id rfl
theorem wsS_ex : wsS G U call (.ex e) ρ st N z4 z5 E = wpE G call e ρ st (fun _ st1 => N ρ st1) fun x s => E x ρ s := id rfl
theorem wsS_asg : wsS G U call (.asg t e) ρ st N z4 z5 E = wpE G call e ρ st (fun d st1 => okW (fitsT t (unp st1 d t)) (asgW G call t (unp st1 d t) ρ st1 N E)) fun x s => E x ρ s := id rfl
theorem wsS_ret : wsS G U call (.ret e) ρ st z3 z4 R E = wpE G call e ρ st R fun x s => E x ρ s := id rfl
theorem wsS_ife : wsS G U call (.ife c a b) ρ st N K R E = wpE G call c ρ st (fun x st1 => blW x (wsS G U call a ρ st1 N K R E) (wsS G U call b ρ st1 N K R E)) fun x s => E x ρ s := id rfl
theorem wsS_for : wsS G U call (.for_ t it b) ρ st N K R E = wpE G call it ρ st (fun x st1 => iterW (iterOf st1 x) fun items chk => WFor G U call t b items chk ρ st1 N K R E) fun x s => E x ρ s := id rfl
theorem wsS_while : wsS G U call (.while_ c b) ρ st N K R E = WWhile G U call c b ρ st N K R E := id rfl
theorem wsS_raise : wsS G U call (.raise c ini es) ρ st z3 z4 z5 E = wpE G call es ρ st (fun ds st1 => tupW ds fun l => if ini = false then E ⟨c, []⟩ ρ st1 else
      WP (call (c ++ ".__init__") (.ref st1.length :: l) (st1 ++ [.ins c []])) (fun d st2 => nonW d (insW st2[st1.length]? fun c' fs => okW (decide (c = c')) (E ⟨c, fs⟩ ρ (st2.set st1.length .dead)))) fun _ _ => False) fun x s => E x ρ s := id rfl
theorem wsS_try0 : wsS G U call (.try_ b cs none h) ρ st N K R E = wsS G U call b ρ st N K R fun x ρ1 st1 => if cs.any (fun c => (U x.cls).contains c) then wsS G U call h ρ1 st1 N K R E else E x ρ1 st1 := id rfl
theorem wsS_try1 : wsS G U call (.try_ b cs (some i) h) ρ st N K R E = wsS G U call b ρ st N K R fun x ρ1 st1 => if cs.any (fun c => (U x.cls).contains c) then putW i (.ref st1.length) ρ1 fun ρ2 => wsS G U call h ρ2 (st1 ++ [.ins x.cls x.fs]) N K R E else E x ρ1 st1 := id rfl
theorem wsS_cont : wsS G U call (.cont) ρ st z3 K z5 z6 = K ρ st := id rfl
theorem isInt_tup (l : List D) : biV G own .isInt [(.tup l)] st = .ok (.bl false) st := id rfl
theorem isInt_lst (l : List D) : biV G own .isInt [(.lst l)] st = .ok (.bl false) st := id rfl
theorem isInt_int (i : Int) : biV G own .isInt [(.int i)] st = .ok (.bl true) st := id rfl
theorem isInt_str (s : String) : biV G own .isInt [(.str s)] st = .ok (.bl false) st := id rfl
theorem isInt_bl (b : Bool) : biV G own .isInt [(.bl b)] st = .ok (.bl true) st := id rfl
theorem isInt_non  : biV G own .isInt [.non] st = .ok (.bl false) st := id rfl
theorem isInt_scr (ns : List Int) : biV G own .isInt [(.scr ns)] st = .ok (.bl false) st := id rfl
theorem isBool_tup (l : List D) : biV G own .isBool [(.tup l)] st = .ok (.bl false) st := id rfl
theorem isBool_lst (l : List D) : biV G own .isBool [(.lst l)] st = .ok (.bl false) st := id rfl
theorem isBool_int (i : Int) : biV G own .isBool [(.int i)] st = .ok (.bl false) st := id rfl
theorem isBool_str (s : String) : biV G own .isBool [(.str s)] st = .ok (.bl false) st := id rfl
theorem isBool_bl (b : Bool) : biV G own .isBool [(.bl b)] st = .ok (.bl true) st := id rfl
theorem isBool_non  : biV G own .isBool [.non] st = .ok (.bl false) st := id rfl
theorem isBool_scr (ns : List Int) : biV G own .isBool [(.scr ns)] st = .ok (.bl false) st := id rfl
theorem isStr_tup (l : List D) : biV G own .isStr [(.tup l)] st = .ok (.bl false) st := id rfl
theorem isStr_lst (l : List D) : biV G own .isStr [(.lst l)] st = .ok (.bl false) st := id rfl
theorem isStr_int (i : Int) : biV G own .isStr [(.int i)] st = .ok (.bl false) st := id rfl
theorem isStr_str (s : String) : biV G own .isStr [(.str s)] st = .ok (.bl true) st := id rfl
theorem isStr_bl (b : Bool) : biV G own .isStr [(.bl b)] st = .ok (.bl false) st := id rfl
theorem isStr_non  : biV G own .isStr [.non] st = .ok (.bl false) st := id rfl
theorem isStr_scr (ns : List Int) : biV G own .isStr [(.scr ns)] st = .ok (.bl false) st := id rfl
theorem isTup_tup (l : List D) : biV G own .isTup [(.tup l)] st = .ok (.bl true) st := id rfl
theorem isTup_lst (l : List D) : biV G own .isTup [(.lst l)] st = .ok (.bl false) st := id rfl
theorem isTup_int (i : Int) : biV G own .isTup [(.int i)] st = .ok (.bl false) st := id rfl
theorem isTup_str (s : String) : biV G own .isTup [(.str s)] st = .ok (.bl false) st := id rfl
theorem isTup_bl (b : Bool) : biV G own .isTup [(.bl b)] st = .ok (.bl false) st := id rfl
theorem isTup_non  : biV G own .isTup [.non] st = .ok (.bl false) st := id rfl
theorem isTup_scr (ns : List Int) : biV G own .isTup [(.scr ns)] st = .ok (.bl false) st := id rfl
theorem isLst_tup (l : List D) : biV G own .isLst [(.tup l)] st = .ok (.bl false) st := id rfl
theorem isLst_lst (l : List D) : biV G own .isLst [(.lst l)] st = .ok (.bl true) st := id rfl
theorem isLst_int (i : Int) : biV G own .isLst [(.int i)] st = .ok (.bl false) st := id rfl
theorem isLst_str (s : String) : biV G own .isLst [(.str s)] st = .ok (.bl false) st := id rfl
theorem isLst_bl (b : Bool) : biV G own .isLst [(.bl b)] st = .ok (.bl false) st := id rfl
theorem isLst_non  : biV G own .isLst [.non] st = .ok (.bl false) st := id rfl
theorem isLst_scr (ns : List Int) : biV G own .isLst [(.scr ns)] st = .ok (.bl true) st := id rfl
theorem isTL_tup (l : List D) : biV G own .isTL [(.tup l)] st = .ok (.bl true) st := id rfl
theorem isTL_lst (l : List D) : biV G own .isTL [(.lst l)] st = .ok (.bl true) st := id rfl
theorem isTL_int (i : Int) : biV G own .isTL [(.int i)] st = .ok (.bl false) st := id rfl
theorem isTL_str (s : String) : biV G own .isTL [(.str s)] st = .ok (.bl false) st := id rfl
theorem isTL_bl (b : Bool) : biV G own .isTL [(.bl b)] st = .ok (.bl false) st := id rfl
theorem isTL_non  : biV G own .isTL [.non] st = .ok (.bl false) st := id rfl
theorem isTL_scr (ns : List Int) : biV G own .isTL [(.scr ns)] st = .ok (.bl true) st := id rfl
theorem isN_tup (l : List D) : op1V .isN (.tup l) st = .ok (.bl false) st := id rfl
theorem notN_tup (l : List D) : op1V .notN (.tup l) st = .ok (.bl true) st := id rfl
theorem isN_lst (l : List D) : op1V .isN (.lst l) st = .ok (.bl false) st := id rfl
theorem notN_lst (l : List D) : op1V .notN (.lst l) st = .ok (.bl true) st := id rfl
theorem isN_int (i : Int) : op1V .isN (.int i) st = .ok (.bl false) st := id rfl
theorem notN_int (i : Int) : op1V .notN (.int i) st = .ok (.bl true) st := id rfl
theorem isN_str (s : String) : op1V .isN (.str s) st = .ok (.bl false) st := id rfl
theorem notN_str (s : String) : op1V .notN (.str s) st = .ok (.bl true) st := id rfl
theorem isN_bl (b : Bool) : op1V .isN (.bl b) st = .ok (.bl false) st := id rfl
theorem notN_bl (b : Bool) : op1V .notN (.bl b) st = .ok (.bl true) st := id rfl
theorem isN_non  : op1V .isN .non st = .ok (.bl true) st := id rfl
theorem notN_non  : op1V .notN .non st = .ok (.bl false) st := id rfl
theorem isN_scr (ns : List Int) : op1V .isN (.scr ns) st = .ok (.bl false) st := id rfl
theorem notN_scr (ns : List Int) : op1V .notN (.scr ns) st = .ok (.bl true) st := id rfl
theorem isN_ref (r : Nat) : op1V .isN (.ref r) st = .ok (.bl false) st := id rfl
theorem notN_ref (r : Nat) : op1V .notN (.ref r) st = .ok (.bl true) st := id rfl
theorem not_bl (b : Bool) : op1V .not (.bl b) st = .ok (.bl (!b)) st := id rfl
theorem neg_int (i : Int) : op1V .neg (.int i) st = .ok (.int (-i)) st := id rfl
theorem len_tup (l : List D) : biV G own .len [(.tup l)] st = .ok (.int l.length) st := id rfl
theorem len_lst (l : List D) : biV G own .len [(.lst l)] st = .ok (.int l.length) st := id rfl
theorem len_scr (ns : List Int) : biV G own .len [(.scr ns)] st = .ok (.int ns.length) st := id rfl
theorem pur_int (n : Nat) (i : Int) : pur n (.int i) = true := by cases n <;> exact id rfl
theorem pur_str (n : Nat) (s : String) : pur n (.str s) = true := by cases n <;> exact id rfl
theorem pur_bl (n : Nat) (b : Bool) : pur n (.bl b) = true := by cases n <;> exact id rfl
theorem pur_non (n : Nat)  : pur n .non = true := by cases n <;> exact id rfl
theorem pur_tup (n : Nat) (l : List D) : pur (n + 1) (.tup l) = purAll n l := id rfl
theorem pur_lst (n : Nat) (l : List D) : pur (n + 1) (.lst l) = purAll n l := id rfl
theorem purAll_nil (n : Nat) : purAll n [] = true := id rfl
theorem purAll_cons (n : Nat) (d : D) (l : List D) : purAll n (d :: l) = (pur n d && purAll n l) := id rfl
theorem getE_0 {x : Option D} {ρ : Env} : getE (x :: ρ) 0 = x := id rfl
theorem getE_s {x : Option D} {ρ : Env} {i : Nat} : getE (x :: ρ) (i + 1) = getE ρ i := id rfl
theorem putW_0 {d : D} {x : Option D} {ρ : Env} {k : Env → Prop} : putW 0 d (x :: ρ) k = k (some d :: ρ) := id rfl
theorem putW_s {i : Nat} {d : D} {x : Option D} {ρ : Env} {k : Env → Prop} : putW (i + 1) d (x :: ρ) k = putW i d ρ fun ρ' => k (x :: ρ') := id rfl
theorem wipe_nil {ρ : Env} : wipe ρ [] = ρ := id rfl
theorem wipe_cons {ρ : Env} {v : Nat} {vs : List Nat} : wipe ρ (v :: vs) = (wipe ρ vs).set v none := id rfl
theorem WP_ok {d : D} {Q : QD} {E : QE} : WP (.ok d st) Q E = Q d st := id rfl
theorem WP_err {x : Exc} {Q : QD} {E : QE} : WP (.err x st) Q E = E x st := id rfl
theorem WP_bad {Q : QD} {E : QE} : WP .bad Q E = False := id rfl
theorem getW_some {d : D} {k : D → Prop} : getW (some d) k = k d := id rfl
theorem tupW_tup {l : List D} {k : List D → Prop} : tupW (.tup l) k = k l := id rfl
theorem blW_t {t f : Prop} : blW (.bl true) t f = t := id rfl
theorem blW_f {t f : Prop} : blW (.bl false) t f = f := id rfl
theorem nonW_non {t : Prop} : nonW .non t = t := id rfl
theorem lstW_some {l : List D} {k : List D → Prop} : lstW (some l) k = k l := id rfl
theorem iterW_some {l : List D} {c : Option (Nat × List D)} {k : List D → Option (Nat × List D) → Prop} : iterW (some (l, c)) k = k l c := id rfl
theorem partW_some {l : Option Int} {k : Option Int → Prop} : partW (some l) k = k l := id rfl
theorem insW_some {c : String} {fs : List (String × D)} {k : String → List (String × D) → Prop} : insW (some (.ins c fs)) k = k c fs := id rfl
theorem refW_ref {r : Nat} {k : Nat → Prop} : refW (.ref r) k = k r := id rfl
theorem ints2W_int {i j : Int} {k : Int → Int → Prop} : ints2W (.int i) (.int j) k = k i j := id rfl
theorem stoW_some {s : Store} {k : Store → Prop} : stoW (some s) k = k s := id rfl
theorem prsW_some {s : List (D × D)} {k : List (D × D) → Prop} : prsW (some s) k = k s := id rfl
theorem okW_t {k : Prop} : okW true k = k := id rfl
theorem okB_some {α : Type} {f : α → D} {a : α} : okB st f (some a) = .ok (f a) st := id rfl
theorem iter_tup {l : List D} : iterOf st (.tup l) = some (l, none) := id rfl
theorem iter_lst {l : List D} : iterOf st (.lst l) = some (l, none) := id rfl
theorem fitsT_var {i : Nat} {d : D} : fitsT (.var i) d = true := id rfl
theorem fitsT_fld {o : C} {f : String} {d : D} : fitsT (.fld o f) d = true := id rfl
theorem fitsT_op2 {o : Op2} {w : Bool} {a b : C} {d : D} : fitsT (.op2 o w a b) d = true := id rfl
theorem unp_var {i : Nat} {d : D} : unp st d (.var i) = d := id rfl
theorem unp_fld {o : C} {f : String} {d : D} : unp st d (.fld o f) = d := id rfl
theorem unp_op2 {o : Op2} {w : Bool} {a b : C} {d : D} : unp st d (.op2 o w a b) = d := id rfl
theorem unp_tup {a b : C} {l : List D} : unp st (.tup l) (.cons a b) = .tup l := id rfl
theorem unp_lst {a b : C} {l : List D} : unp st (.lst l) (.cons a b) = .tup l := id rfl
theorem fitsT_2 {a b : C} {x y : D} : fitsT (.cons a (.cons b .nil)) (.tup [x, y]) = true := id rfl
theorem fitsT_3 {a b c : C} {x y z : D} : fitsT (.cons a (.cons b (.cons c .nil))) (.tup [x, y, z]) = true := id rfl
theorem fitsT_6 {a b c d e f : C} {x y z u v w : D} : fitsT (.cons a (.cons b (.cons c (.cons d (.cons e (.cons f .nil)))))) (.tup [x, y, z, u, v, w]) = true := id rfl
theorem part_n {x : D} : partOf (.k .non) x = some none := id rfl
theorem part_v {i : Nat} {j : Int} : partOf (.var i) (.int j) = some (some j) := id rfl
theorem part_i {i j : Int} : partOf (.k (.int i)) (.int j) = some (some j) := id rfl
theorem part_2 {o : Op2} {w : Bool} {a b : C} {j : Int} : partOf (.op2 o w a b) (.int j) = some (some j) := id rfl
theorem part_b {f : Bi} {w : Bool} {b : C} {j : Int} : partOf (.bi f w b) (.int j) = some (some j) := id rfl
theorem putW_iff : ∀ (i : Nat) (d : D) (ρ : Env) (k : Env → Prop), putW i d ρ k ↔ i < ρ.length ∧ k (ρ.set i (some d))
  | i, d, [], k => by cases i <;> simp [putW]
  | 0, d, x :: ρ, k => by simp [putW]
  | i + 1, d, x :: ρ, k => by simp only [putW]; rw [putW_iff i d ρ]; simp
theorem envW_var {i : Nat} {d : D} {ρ : Env} {k : Env → Prop} : envW (bindT (.var i) d ρ) k = putW i d ρ k := by
  apply propext
  rw [putW_iff]
  unfold bindT
  by_cases h : i < ρ.length
  · rw [if_pos h]; simp [envW, h]
  · rw [if_neg h]; simp [envW, h]
theorem envW_nil {ρ : Env} {k : Env → Prop} : envW (bindT .nil (.tup []) ρ) k = k ρ := by simp [bindT, envW]
theorem envW_cons {t ts : C} {d : D} {ds : List D} {ρ : Env} {k : Env → Prop} : envW (bindT (.cons t ts) (.tup (d :: ds)) ρ) k = envW (bindT t d ρ) fun ρ1 => envW (bindT ts (.tup ds) ρ1) k := by
  simp only [bindT]
  cases bindT t d ρ <;> rfl
theorem nc0 : ((0 : Nat) : Int) = 0 := id rfl
theorem nc1 : ((1 : Nat) : Int) = 1 := id rfl
theorem nc2 : ((2 : Nat) : Int) = 2 := id rfl
theorem nc3 : ((3 : Nat) : Int) = 3 := id rfl
theorem nc4 : ((4 : Nat) : Int) = 4 := id rfl
theorem nc5 : ((5 : Nat) : Int) = 5 := id rfl
theorem nc6 : ((6 : Nat) : Int) = 6 := id rfl
theorem nc7 : ((7 : Nat) : Int) = 7 := id rfl
theorem nc8 : ((8 : Nat) : Int) = 8 := id rfl
theorem nc9 : ((9 : Nat) : Int) = 9 := id rfl
theorem op2_idx {x y : D} : op2V G own .idx x y st = okB st id (idxV G st x y) := id rfl
theorem op2_add {x y : D} : op2V G own .add x y st = addV own st x y := id rfl
theorem op2_mul {x y : D} : op2V G own .mul x y st = mulV own st x y := id rfl
theorem add_int {i j : Int} : addV own st (.int i) (.int j) = .ok (.int (i + j)) st := id rfl
theorem add_tup {a b : List D} (h : a.length + b.length ≤ LIM) : addV own st (.tup a) (.tup b) = .ok (.tup (a ++ b)) st := by simp only [addV]; rw [if_pos h]
theorem add_lst {a b : List D} (h : a.length + b.length ≤ LIM) : addV false st (.lst a) (.lst b) = .ok (.lst (a ++ b)) st := by simp only [addV, lstOf]; rw [if_pos h]; rfl
theorem op2_sub {i j : Int} : op2V G own .sub (.int i) (.int j) st = .ok (.int (i - j)) st := id rfl
theorem op2_gt {i j : Int} : op2V G own .gt (.int i) (.int j) st = .ok (.bl (decide (j < i))) st := id rfl
theorem op2_ge {i j : Int} : op2V G own .ge (.int i) (.int j) st = .ok (.bl (decide (j ≤ i))) st := id rfl
theorem op2_lt {i j : Int} : op2V G own .lt (.int i) (.int j) st = .ok (.bl (decide (i < j))) st := id rfl
theorem op2_le {i j : Int} : op2V G own .le (.int i) (.int j) st = .ok (.bl (decide (i ≤ j))) st := id rfl
theorem op2_md {i j : Int} (h : 0 < j) : op2V G own .md (.int i) (.int j) st = .ok (.int (i % j)) st := by
  show (if decide (0 < j) = true then _ else _) = _
  rw [if_pos (decide_eq_true h)]
theorem op2_fdiv {i j : Int} (h : 0 < j ∧ j < 1073741824) : op2V G own .fdiv (.int i) (.int j) st = .ok (.int (i / j)) st := by
  show (if decide (0 < j ∧ j < 1073741824) = true then _ else _) = _
  rw [if_pos (decide_eq_true h)]
theorem op2_mulr {i j : Int} (h : -18446744073709551616 < j ∧ j < 18446744073709551616) : op2V G own .mul (.int i) (.int j) st = .ok (.int (i * j)) st := by
  show (if _ then _ else _) = _
  rw [if_pos (.inr h)]
theorem op2_eq {x y : D} : op2V G own .eq x y st = okB st D.bl (eqB st x y) := id rfl
theorem op2_ne {x y : D} : op2V G own .ne x y st = okB st (fun b => .bl (!b)) (eqB st x y) := id rfl
theorem op2_in {x y : D} : op2V G own .in_ x y st = okB st D.bl (memB G st x y) := id rfl
theorem op2_nin {x y : D} : op2V G own .nin x y st = okB st (fun b => .bl (!b)) (memB G st x y) := id rfl
theorem bi_tuple {x : D} : biV G own .tuple [x] st = toTuple st x := id rfl
theorem tup_tup {l : List D} : toTuple st (.tup l) = .ok (.tup l) st := id rfl
theorem tup_lst {l : List D} : toTuple st (.lst l) = .ok (.tup l) st := id rfl
/-- an item by a number that isn't below 0 -/
theorem idx_tn {ds : List D} {n : Nat} : idxV G st (.tup ds) (.int n) = ds[n]? := by
  by_cases h : n < ds.length
  · simp [idxV, itemAt, place, h]
  · simp [idxV, itemAt, place, h]
theorem idx_ln {ds : List D} {n : Nat} : idxV G st (.lst ds) (.int n) = ds[n]? := by
  by_cases h : n < ds.length
  · simp [idxV, itemAt, place, h]
  · simp [idxV, itemAt, place, h]
theorem idx_l0 {x : D} {l : List D} : idxV G st (.lst (x :: l)) (.int 0) = some x := idx_ln (n := 0)
theorem idx_l1 {x y : D} {l : List D} : idxV G st (.lst (x :: y :: l)) (.int 1) = some y := idx_ln (n := 1)
theorem idx_l2 {a x y : D} {l : List D} : idxV G st (.lst (a :: x :: y :: l)) (.int 2) = some y := idx_ln (n := 2)
theorem idx_l3 {a b x y : D} {l : List D} : idxV G st (.lst (a :: b :: x :: y :: l)) (.int 3) = some y := idx_ln (n := 3)
theorem idx_t0 {x : D} {l : List D} : idxV G st (.tup (x :: l)) (.int 0) = some x := idx_tn (n := 0)
theorem idx_t1 {x y : D} {l : List D} : idxV G st (.tup (x :: y :: l)) (.int 1) = some y := idx_tn (n := 1)
theorem idx_t2 {a x y : D} {l : List D} : idxV G st (.tup (a :: x :: y :: l)) (.int 2) = some y := idx_tn (n := 2)
theorem idx_t3 {a b x y : D} {l : List D} : idxV G st (.tup (a :: b :: x :: y :: l)) (.int 3) = some y := idx_tn (n := 3)
theorem idx_t4 {a b c x y : D} {l : List D} : idxV G st (.tup (a :: b :: c :: x :: y :: l)) (.int 4) = some y := idx_tn (n := 4)
theorem idx_t5 {a b c d x y : D} {l : List D} : idxV G st (.tup (a :: b :: c :: d :: x :: y :: l)) (.int 5) = some y := idx_tn (n := 5)
theorem eqB_str {a b : String} : eqB st (.str a) (.str b) = some (decide (a = b)) := by
  have : eqB st (.str a) (.str b) = some (a == b) := id rfl
  rw [this]
  by_cases h : a = b
  · simp [h]
  · simp [h]
theorem eqB_int {a b : Int} : eqB st (.int a) (.int b) = some (decide (a = b)) := by
  have : eqB st (.int a) (.int b) = some (a == b) := id rfl
  rw [this]
  by_cases h : a = b
  · simp [h]
  · simp [h]
theorem eqB_ts {a : List D} {b : String} (h : pur 60 (.tup a) = true) : eqB st (.tup a) (.str b) = some false := by
  simp [eqB, shallow, h, pur, eqv]
theorem eqB_st {a : List D} {b : String} (h : pur 60 (.tup a) = true) : eqB st (.str b) (.tup a) = some false := by
  simp [eqB, shallow, h, pur, eqv]
theorem eqB_is {a : Int} {b : String} : eqB st (.int a) (.str b) = some false := id rfl
theorem eqB_si {a : Int} {b : String} : eqB st (.str b) (.int a) = some false := id rfl
theorem eqB_non {b : String} : eqB st .non (.str b) = some false := id rfl
theorem nat_beq (a b : Nat) : ((a : Int) == (b : Int)) = decide (a = b) := by
  by_cases h : a = b
  · subst h; simp
  · rw [decide_eq_false h]
    apply Bool.eq_false_iff.mpr
    intro z
    have := eq_of_beq z
    omega
end
end MG

set_option linter.all false
set_option maxRecDepth 100000
/-! All defs by their names. -/
namespace MP
open MG
def LIB : Prog := fun f => [
  ("BadProgram.__init__", f_BadProgram___init__),
  ("is_whole", f_is_whole),
  ("is_field", f_is_field),
  ("is_class", f_is_class),
  ("Looker.__init__", f_Looker___init__),
  ("Looker.need_classes", f_Looker_need_classes),
  ("Looker.need_sizes", f_Looker_need_sizes),
  ("Looker.is_part", f_Looker_is_part),
  ("Looker.is_row", f_Looker_is_row),
  ("Looker.is_handler", f_Looker_is_handler),
  ("Looker.need_rows", f_Looker_need_rows),
  ("is_new", f_is_new),
  ("need_program", f_need_program),
  ("is_sort", f_is_sort),
  ("is_stand", f_is_stand),
  ("is_thing", f_is_thing),
  ("is_below", f_is_below),
  ("common", f_common),
  ("is_fit", f_is_fit),
  ("joined", f_joined),
  ("stand_fits", f_stand_fits),
  ("stands_joined", f_stands_joined),
  ("need_stands", f_need_stands),
  ("fits", f_fits),
  ("met", f_met),
  ("_law_taken", f__law_taken),
  ("_law_below", f__law_below),
  ("_law_news", f__law_news),
  ("_law_atoms", f__law_atoms),
  ("_law_sorts", f__law_sorts),
  ("_law_fits", f__law_fits),
  ("_law_classes", f__law_classes),
  ("_law_worth", f__law_worth),
  ("_law_assign", f__law_assign),
  ("_law_branch", f__law_branch),
  ("_law_block", f__law_block),
  ("_law_program", f__law_program),
  ("_law_any_stand", f__law_any_stand),
  ("_law_raised", f__law_raised),
  ("_law_any_program", f__law_any_program),
  ("_law_any_row", f__law_any_row)].lookup f
theorem l_BadProgram___init__ : LIB "BadProgram.__init__" = some f_BadProgram___init__ := by rfl
theorem l_is_whole : LIB "is_whole" = some f_is_whole := by rfl
theorem l_is_field : LIB "is_field" = some f_is_field := by rfl
theorem l_is_class : LIB "is_class" = some f_is_class := by rfl
theorem l_Looker___init__ : LIB "Looker.__init__" = some f_Looker___init__ := by rfl
theorem l_Looker_need_classes : LIB "Looker.need_classes" = some f_Looker_need_classes := by rfl
theorem l_Looker_need_sizes : LIB "Looker.need_sizes" = some f_Looker_need_sizes := by rfl
theorem l_Looker_is_part : LIB "Looker.is_part" = some f_Looker_is_part := by rfl
theorem l_Looker_is_row : LIB "Looker.is_row" = some f_Looker_is_row := by rfl
theorem l_Looker_is_handler : LIB "Looker.is_handler" = some f_Looker_is_handler := by rfl
theorem l_Looker_need_rows : LIB "Looker.need_rows" = some f_Looker_need_rows := by rfl
theorem l_is_new : LIB "is_new" = some f_is_new := by rfl
theorem l_need_program : LIB "need_program" = some f_need_program := by rfl
theorem l_is_sort : LIB "is_sort" = some f_is_sort := by rfl
theorem l_is_stand : LIB "is_stand" = some f_is_stand := by rfl
theorem l_is_thing : LIB "is_thing" = some f_is_thing := by rfl
theorem l_is_below : LIB "is_below" = some f_is_below := by rfl
theorem l_common : LIB "common" = some f_common := by rfl
theorem l_is_fit : LIB "is_fit" = some f_is_fit := by rfl
theorem l_joined : LIB "joined" = some f_joined := by rfl
theorem l_stand_fits : LIB "stand_fits" = some f_stand_fits := by rfl
theorem l_stands_joined : LIB "stands_joined" = some f_stands_joined := by rfl
theorem l_need_stands : LIB "need_stands" = some f_need_stands := by rfl
theorem l_fits : LIB "fits" = some f_fits := by rfl
theorem l_met : LIB "met" = some f_met := by rfl
theorem l__law_taken : LIB "_law_taken" = some f__law_taken := by rfl
theorem l__law_below : LIB "_law_below" = some f__law_below := by rfl
theorem l__law_news : LIB "_law_news" = some f__law_news := by rfl
theorem l__law_atoms : LIB "_law_atoms" = some f__law_atoms := by rfl
theorem l__law_sorts : LIB "_law_sorts" = some f__law_sorts := by rfl
theorem l__law_fits : LIB "_law_fits" = some f__law_fits := by rfl
theorem l__law_classes : LIB "_law_classes" = some f__law_classes := by rfl
theorem l__law_worth : LIB "_law_worth" = some f__law_worth := by rfl
theorem l__law_assign : LIB "_law_assign" = some f__law_assign := by rfl
theorem l__law_branch : LIB "_law_branch" = some f__law_branch := by rfl
theorem l__law_block : LIB "_law_block" = some f__law_block := by rfl
theorem l__law_program : LIB "_law_program" = some f__law_program := by rfl
theorem l__law_any_stand : LIB "_law_any_stand" = some f__law_any_stand := by rfl
theorem l__law_raised : LIB "_law_raised" = some f__law_raised := by rfl
theorem l__law_any_program : LIB "_law_any_program" = some f__law_any_program := by rfl
theorem l__law_any_row : LIB "_law_any_row" = some f__law_any_row := by rfl
end MP

set_option linter.all false
set_option maxRecDepth 100000
set_option maxHeartbeats 4000000
/-! Sorts, classes, stands as data; what the program's small defs tell of them. -/
namespace MP
open MG
local macro_rules
  | `(tactic| simp! [$a,*]) => `(tactic| simp -dsimp only [wpE_var, wpE_k, wpE_nil, wpE_cons, wpE_lst, wpE_op1, wpE_op2, wpE_and, wpE_or, wpE_ite, wpE_chain, wpE_slc, wpE_rev, wpE_bi, wpE_bm, wpE_call, wpE_meth, wpE_make, wpE_fld, wpE_comp, wpE_rng, wpE_rrng, wpE_enum, wpE_zip, wpE_dict, wpE_frz, asgW_var, asgW_fld, asgW_op2, asgW_nil, asgW_cons, wsS_skip, wsS_seq, wsS_ex, wsS_asg, wsS_ret, wsS_ife, wsS_for, wsS_while, wsS_raise, wsS_try0, wsS_try1, wsS_cont, getE_0, getE_s, putW_0, putW_s, getW_some, WP_ok, WP_err, tupW_tup, blW_t, blW_f, nonW_non, lstW_some, iterW_some, iter_tup, iter_lst, partW_some, part_n, part_v, part_i, part_2, part_b, insW_some, refW_ref, ints2W_int, stoW_some, envW_var, envW_cons, envW_nil, prsW_some, okW_t, fitsT_var, fitsT_fld, fitsT_op2, fitsT_2, fitsT_3, fitsT_6, unp_var, unp_fld, unp_op2, unp_tup, unp_lst, List.map_cons, List.map_nil, List.cons_append, List.nil_append, wipe_nil, wipe_cons, List.set_cons_succ, List.set_cons_zero, isInt_tup, isInt_lst, isInt_int, isInt_str, isInt_bl, isInt_non, isInt_scr, isBool_tup, isBool_lst, isBool_int, isBool_str, isBool_bl, isBool_non, isBool_scr, isStr_tup, isStr_lst, isStr_int, isStr_str, isStr_bl, isStr_non, isStr_scr, isTup_tup, isTup_lst, isTup_int, isTup_str, isTup_bl, isTup_non, isTup_scr, isLst_tup, isLst_lst, isLst_int, isLst_str, isLst_bl, isLst_non, isLst_scr, isTL_tup, isTL_lst, isTL_int, isTL_str, isTL_bl, isTL_non, isTL_scr, isN_tup, notN_tup, isN_lst, notN_lst, isN_int, notN_int, isN_str, notN_str, isN_bl, notN_bl, isN_non, notN_non, isN_scr, notN_scr, isN_ref, notN_ref, not_bl, neg_int, len_tup, List.length_map, len_lst, len_scr, pur_int, pur_str, pur_bl, pur_non, pur_tup, pur_lst, purAll_nil, purAll_cons, op2_idx, op2_add, op2_sub, add_int, add_lst, add_tup, List.length_cons, List.length_nil, Nat.reduceAdd, Nat.zero_add, Nat.add_zero, nc0, nc1, nc2, nc3, nc4, nc5, nc6, nc7, nc8, nc9, Int.reduceLT, Int.reduceEq, Int.reduceMod, Int.reduceAdd, Int.reduceSub, op2_eq, op2_ne, op2_lt, op2_le, op2_gt, op2_ge, op2_in, op2_nin, okB_some, id_eq, decide_true, decide_false, decide_not, String.reduceEq, reduceCtorEq, String.reduceAppend, Option.isNone_none, eq_self, bi_tuple, idx_l0, idx_l1, idx_l2, idx_l3, idx_t0, idx_t1, idx_t2, idx_t3, idx_t4, idx_t5, eqB_str, eqB_int, eqB_is, eqB_si, Bool.and_self, eqB_ts, eqB_st, ext_rfl, ext_app, ext_app2, tup_tup, tup_lst, eqB_non, Bool.false_eq_true, if_false, if_true, Bool.not_true, Bool.not_false, and_true, true_and, implies_true, forall_const, $a,*])
inductive So where
  | num | non | any | unset | of (k : Nat) | unb (k : Nat)
  deriving DecidableEq
def So.d : So → D
  | .num => .str "n"
  | .non => .str "none"
  | .any => .str "any"
  | .unset => .str "unset"
  | .of k => .tup [.str "of", .int k]
  | .unb k => .tup [.str "unborn", .int k]
inductive Fl where
  | num | of (k : Nat)
  deriving DecidableEq
def Fl.d : Fl → D
  | .num => .str "n"
  | .of k => .int k
structure Kl where
  par : Option Nat
  flds : List Fl
  deriving DecidableEq
def optD : Option Nat → D
  | none => .non
  | some p => .int p
def Kl.d (c : Kl) : D := .tup [optD c.par, .tup (c.flds.map Fl.d)]
def clsD (cs : List Kl) : D := .tup (cs.map Kl.d)
/-- a class stands behind its parent; the first has none -/
def WC (cs : List Kl) : Prop := ∀ (i : Nat) (c : Kl), cs[i]? = some c → match c.par with
  | none => i = 0
  | some p => p < i
def parOf (cs : List Kl) (i : Nat) : Option Nat := (cs[i]?).bind Kl.par
/-- is j met on the way up from i? -/
def anc (cs : List Kl) : Nat → Option Nat → Nat → Bool
  | 0, _, _ => false
  | _ + 1, none, _ => false
  | n + 1, some i, j => if i = j then true else anc cs n (parOf cs i) j
theorem below_so {n : Nat} (s : So) : below n s.d = true := by cases s <;> simp [So.d, below, belowAll]
theorem below_fl {n : Nat} (s : Fl) : below n s.d = true := by cases s <;> simp [Fl.d, below]
theorem belowAll_map {α : Type} {n : Nat} {f : α → D} (h : ∀ x, below n (f x) = true) : ∀ l : List α, belowAll n (l.map f) = true
  | [] => rfl
  | x :: l => by simp only [List.map_cons, belowAll, h x, belowAll_map h l, Bool.and_self]
theorem pur_so {n : Nat} (s : So) : pur (n + 1) s.d = true := by cases s <;> simp [So.d, pur, purAll]
theorem pur_fl {n : Nat} (s : Fl) : pur n s.d = true := by cases s <;> simp [Fl.d, pur]
theorem purAll_map {α : Type} {n : Nat} {f : α → D} (h : ∀ x, pur n (f x) = true) : ∀ l : List α, purAll n (l.map f) = true
  | [] => rfl
  | x :: l => by simp only [List.map_cons, purAll, h x, purAll_map h l, Bool.and_self]
section
variable {G : GD} {U : Up} {n : Nat} {st : Store} {cs : List Kl}
theorem idx_cls {i : Nat} {c : Kl} (h : cs[i]? = some c) : idxV G st (clsD cs) (.int i) = some c.d := by
  unfold clsD
  rw [idx_tn, List.getElem?_map, h]
  rfl
theorem eq_so (x y : So) : eqB st x.d y.d = some (decide (x = y)) := by
  cases x <;> cases y <;> simp [So.d, eqB, shallow, pur, purAll, eqv, eqvAll, nat_beq]
def So.thing : So → Bool
  | .non => true
  | .of _ => true
  | _ => false
theorem c_is_thing (s : So) : callN G U LIB (n + 1) "is_thing" [s.d] st = .ok (.bl s.thing) st := by
  refine pure_ok l_is_thing rfl rfl ?_
  cases s <;> dsimp only [f_is_thing, List.map_cons, List.map_nil, List.replicate_succ, List.replicate_zero, List.cons_append, List.nil_append, Nat.reduceSub] <;> simp! [So.d, So.thing]
theorem c_is_below (wc : WC cs) (i j : Nat) (hi : i < cs.length) (hl : cs.length ≤ 1000) : callN G U LIB (n + 1) "is_below" [clsD cs, .int i, .int j] st = .ok (.bl (anc cs cs.length (some i) j)) st := by
  refine pure_ok l_is_below rfl rfl ?_
  dsimp only [f_is_below, List.map_cons, List.map_nil, List.replicate_succ, List.replicate_zero, List.cons_append, List.nil_append, Nat.reduceSub]
  simp! []
  refine wwhile (fun m ρ st' => ∃ o : Option Nat, ρ = [some (clsD cs), some (optD o), some (.int j)] ∧ st' = st ∧ anc cs m o j = anc cs cs.length (some i) j ∧ (∀ k, o = some k → k < cs.length ∧ k < m)) (m := cs.length) (by show cs.length < 1000000; omega) ⟨some i, rfl, rfl, rfl, fun k e => by cases e; exact ⟨hi, hi⟩⟩ ?_
  rintro m ρ _ ⟨o, rfl, rfl, h1, h2⟩
  cases o with
  | none =>
    have : anc cs m none j = false := by cases m <;> rfl
    rw [this] at h1
    simp! [optD, ← h1]
  | some k =>
    have h2 := h2 k rfl
    obtain ⟨c, hc⟩ : ∃ c, cs[k]? = some c := ⟨_, List.getElem?_eq_getElem h2.1⟩
    obtain ⟨m', rfl⟩ : ∃ m', m = m' + 1 := ⟨m - 1, by omega⟩
    by_cases hk : k = j
    · subst hk
      have : anc cs (m' + 1) (some k) k = true := by simp [anc]
      rw [this] at h1
      simp! [optD, ← h1]
    · have e : ((k : Int) = (j : Int)) = False := eq_false (by omega)
      simp! [optD, e, idx_cls hc, Kl.d]
      refine ⟨m', by omega, c.par, rfl, ?_, ?_⟩
      · rw [← h1]
        simp [anc, hk, parOf, hc]
      · intro k' e'
        have := wc k c hc
        rw [e'] at this
        have : k' < k := this
        omega
theorem par_lt (wc : WC cs) {i p : Nat} (h : parOf cs i = some p) : p < i := by
  unfold parOf at h
  obtain ⟨c, e, hp⟩ := Option.bind_eq_some_iff.mp h
  have := wc i c e
  rw [hp] at this
  exact this
theorem par_none (wc : WC cs) {i : Nat} (hi : i < cs.length) (h : parOf cs i = none) : i = 0 := by
  unfold parOf at h
  rw [List.getElem?_eq_getElem hi] at h
  have := wc i _ (List.getElem?_eq_getElem hi)
  have h : (cs[i]).par = none := h
  rw [h] at this
  exact this
theorem anc_root (wc : WC cs) : ∀ (m j : Nat), j < m → j < cs.length → anc cs m (some j) 0 = true
  | 0, j, h, _ => by omega
  | m + 1, j, h, hl => by
    unfold anc
    by_cases e : j = 0
    · rw [if_pos e]
    · rw [if_neg e]
      cases hp : parOf cs j with
      | none => exact absurd (par_none wc hl hp) e
      | some p =>
        have := par_lt wc hp
        exact anc_root wc m p (by omega) (by omega)
/-- climb from i until j is below -/
def com (cs : List Kl) : Nat → Nat → Nat → Nat
  | 0, i, _ => i
  | m + 1, i, j => if anc cs cs.length (some j) i = true then i else match parOf cs i with
    | some p => com cs m p j
    | none => i
theorem c_common (wc : WC cs) (hl : cs.length ≤ 1000) (i j : Nat) (hi : i < cs.length) (hj : j < cs.length) : callN G U LIB (n + 2) "common" [clsD cs, .int i, .int j] st = .ok (.int (com cs cs.length i j)) st := by
  refine pure_ok l_common rfl rfl ?_
  dsimp only [f_common, List.map_cons, List.map_nil, List.replicate_succ, List.replicate_zero, List.cons_append, List.nil_append, Nat.reduceSub]
  simp! []
  refine wwhile (fun m ρ st' => ∃ k : Nat, ρ = [some (clsD cs), some (.int k), some (.int j)] ∧ st = st' ∧ com cs m k j = com cs cs.length i j ∧ k < cs.length ∧ k < m) (m := cs.length) (by show cs.length < 1000000; omega) ⟨i, rfl, rfl, rfl, hi, hi⟩ ?_
  rintro m ρ _ ⟨k, rfl, rfl, h3, hk, hm⟩
  obtain ⟨m', rfl⟩ : ∃ m', m = m' + 1 := ⟨m - 1, by omega⟩
  simp only [com] at h3
  cases ha : anc cs cs.length (some j) k with
  | true =>
    rw [if_pos ha] at h3
    simp! [c_is_below wc j k hj hl, ha, ← h3]
  | false =>
    rw [if_neg (by simp [ha])] at h3
    obtain ⟨c, hc⟩ : ∃ c, cs[k]? = some c := ⟨_, List.getElem?_eq_getElem hk⟩
    have k0 : k ≠ 0 := fun e => by
      rw [e, anc_root wc _ j hj hj] at ha
      cases ha
    cases hp : parOf cs k with
    | none => exact absurd (par_none wc hk hp) k0
    | some p =>
      rw [hp] at h3
      have hpl := par_lt wc hp
      have hcp : c.par = some p := by
        unfold parOf at hp
        rw [hc] at hp
        exact hp
      simp! [c_is_below wc j k hj hl, ha, idx_cls hc, Kl.d, hcp, optD]
      exact ⟨m', by omega, p, rfl, h3, by omega, by omega⟩
/-- does x fit where y is wanted? -/
def So.fit (cs : List Kl) (x y : So) : Bool :=
  match x, y with
  | _, .unset => true
  | .num, .num => true
  | .non, .non => true
  | .any, .any => true
  | .num, .any => true
  | .non, .any => true
  | .of _, .any => true
  | .non, .of _ => true
  | .of i, .of j => anc cs cs.length (some i) j
  | .unb i, .unb j => decide (i = j)
  | _, _ => false
/-- a sort of the program -/
def So.ok (cs : List Kl) : So → Prop
  | .of k => k < cs.length
  | _ => True
theorem anc_self {i : Nat} (hi : i < cs.length) : anc cs cs.length (some i) i = true := by
  obtain ⟨m, e⟩ : ∃ m, cs.length = m + 1 := ⟨cs.length - 1, by omega⟩
  rw [e]
  simp [anc]
theorem c_is_fit (wc : WC cs) (hl : cs.length ≤ 1000) (x y : So) (hx : x.ok cs) : callN G U LIB (n + 2) "is_fit" [clsD cs, x.d, y.d] st = .ok (.bl (x.fit cs y)) st := by
  refine pure_ok l_is_fit rfl rfl ?_
  dsimp only [f_is_fit, List.map_cons, List.map_nil, List.replicate_succ, List.replicate_zero, List.cons_append, List.nil_append, Nat.reduceSub]
  have e1 : eqB st y.d (.str "unset") = some (decide (y = .unset)) := eq_so y .unset
  have e2 : eqB st x.d y.d = some (decide (x = y)) := eq_so x y
  have e3 : eqB st y.d (.str "any") = some (decide (y = .any)) := eq_so y .any
  have e4 : eqB st x.d (.str "n") = some (decide (x = .num)) := eq_so x .num
  have e5 : eqB st y.d (.str "none") = some (decide (y = .non)) := eq_so y .non
  have e6 : eqB st x.d (.str "none") = some (decide (x = .non)) := eq_so x .non
  by_cases hxy : x = y
  · have hf : x.fit cs y = true := by
      subst hxy
      cases x <;> simp [So.fit]
      exact anc_self hx
    subst hxy
    by_cases hu : x = .unset
    · subst hu
      simp! [e1, e2, hf]
    · simp! [e1, e2, hu, hf]
  · cases x <;> cases y <;> first | exact absurd rfl hxy | skip
    case of.of i j =>
      have hx : i < cs.length := hx
      have hne : (So.of i = So.of j) = False := eq_false hxy
      simp! [e1, e2, hne, e3, e4, e5, e6, c_is_thing, So.thing]
      simp! [So.d, c_is_below wc i j hx hl, So.fit]
    case unb.unb i j =>
      have hne : (So.unb i = So.unb j) = False := eq_false hxy
      have hij : i ≠ j := fun e => hxy (by rw [e])
      simp! [e1, e2, hne, e3, e4, e5, e6, c_is_thing, So.thing, So.fit, hij]
    all_goals simp! [e1, e2, e3, e4, e5, e6, c_is_thing, So.thing, So.fit]
end
end MP

set_option linter.all false
set_option maxRecDepth 100000
set_option maxHeartbeats 4000000
/-! Stands: which fits which, and the join. -/
namespace MG
section
variable {G : GD} {U : Up} {call : Call} {own : Bool} {st : Store} {ρ : Env} {N K : QN} {R : QD} {E : QX}
theorem filter_tt {α : Type} {l : List α} : l.filter (fun _ => true) = l := by simp
theorem zip_tt {a b : List D} : biV G false .zip [.tup a, .tup b] st = .ok (.lst (zipD a b)) st := id rfl
theorem give_f {l : List D} : give false l st = .ok (.lst l) st := id rfl
theorem give_t {l : List D} : give true l st = .ok (.ref st.length) (st ++ [.lst l]) := id rfl
theorem eqB_lnil {l : List D} (h : purAll 59 l = true) : eqB st (.lst l) (.lst []) = some l.isEmpty := by
  have e : pur 60 (.lst l) = true := h
  cases l with
  | nil => rfl
  | cons x l => simp [eqB, shallow, e, pur, purAll, eqv, eqvAll]
theorem eqB_tnil {l : List D} (h : purAll 59 l = true) : eqB st (.tup l) (.tup []) = some l.isEmpty := by
  have e : pur 60 (.tup l) = true := h
  cases l with
  | nil => rfl
  | cons x l => simp [eqB, shallow, e, pur, purAll, eqv, eqvAll]
theorem zipD_map {α β : Type} {f : α → D} {g : β → D} : ∀ (a : List α) (b : List β), zipD (a.map f) (b.map g) = (a.zip b).map fun p => .tup [f p.1, g p.2]
  | [], b => by cases b <;> simp [zipD]
  | x :: a, [] => by simp [zipD]
  | x :: a, y :: b => by simp [zipD, zipD_map a b]
theorem zipD_map2 {α β : Type} {f : α → D} {g : β → D} (a : List α) (b : List β) : zipD (a.map f) (b.map g) = (a.zip b).map fun p => .tup [f p.1, g p.2] := zipD_map a b
theorem rangeD_map : ∀ (n : Nat) (a : Nat), rangeD a n = (List.range' a n).map fun k => D.int (k : Nat)
  | 0, a => rfl
  | n + 1, a => by
    rw [List.range'_succ, List.map_cons, rangeD]
    congr 1
    have := rangeD_map n (a + 1)
    rw [← this]
    congr 1
theorem range_map {j : Int} {n : Nat} (h : j = n) : rangeD 0 (j - 0).toNat = (List.range n).map fun k => D.int (k : Nat) := by
  subst h
  have := rangeD_map n 0
  rw [List.range_eq_range']
  rw [← this]
  congr 1
/-- a loop over no item, over one item -/
theorem wfor_nil {t : MG.C} {b : S} (h : N ρ st) : WFor G U call t b [] none ρ st N K R E := h
theorem wfor_cons {t : MG.C} {b : S} {d : D} {ds : List D} (h : envW (bindT t d ρ) fun ρ1 => wsS G U call b ρ1 st (fun ρ2 st2 => WFor G U call t b ds none ρ2 st2 N K R E) (fun ρ2 st2 => WFor G U call t b ds none ρ2 st2 N K R E) R E) : WFor G U call t b (d :: ds) none ρ st N K R E := by
  obtain ⟨ρ1, e, h⟩ := envW_of h
  have h := wsS_ok _ _ _ _ _ _ _ _ _ _ h
  unfold WFor
  unfold forL
  rw [if_pos (by rfl), e]
  simp only
  cases e : evS G U call b ρ1 st with
  | nx ρ2 st2 => rw [e] at h; exact h
  | ct ρ2 st2 => rw [e] at h; exact h
  | ret v st2 => rw [e] at h; exact h
  | err _ _ _ => rw [e] at h; exact h
  | bad => rw [e] at h; exact h
end
end MG
namespace MP
open MG
local macro_rules
  | `(tactic| simp! [$a,*]) => `(tactic| simp -dsimp only [wpE_var, wpE_k, wpE_nil, wpE_cons, wpE_lst, wpE_op1, wpE_op2, wpE_and, wpE_or, wpE_ite, wpE_chain, wpE_slc, wpE_rev, wpE_bi, wpE_bm, wpE_call, wpE_meth, wpE_make, wpE_fld, wpE_comp, wpE_rng, wpE_rrng, wpE_enum, wpE_zip, wpE_dict, wpE_frz, asgW_var, asgW_fld, asgW_op2, asgW_nil, asgW_cons, wsS_skip, wsS_seq, wsS_ex, wsS_asg, wsS_ret, wsS_ife, wsS_for, wsS_while, wsS_raise, wsS_try0, wsS_try1, wsS_cont, getE_0, getE_s, putW_0, putW_s, getW_some, WP_ok, WP_err, tupW_tup, blW_t, blW_f, nonW_non, lstW_some, iterW_some, iter_tup, iter_lst, partW_some, part_n, part_v, part_i, part_2, part_b, insW_some, refW_ref, ints2W_int, stoW_some, envW_var, envW_cons, envW_nil, prsW_some, okW_t, fitsT_var, fitsT_fld, fitsT_op2, fitsT_2, fitsT_3, fitsT_6, unp_var, unp_fld, unp_op2, unp_tup, unp_lst, List.map_cons, List.map_nil, List.cons_append, List.nil_append, wipe_nil, wipe_cons, List.set_cons_succ, List.set_cons_zero, isInt_tup, isInt_lst, isInt_int, isInt_str, isInt_bl, isInt_non, isInt_scr, isBool_tup, isBool_lst, isBool_int, isBool_str, isBool_bl, isBool_non, isBool_scr, isStr_tup, isStr_lst, isStr_int, isStr_str, isStr_bl, isStr_non, isStr_scr, isTup_tup, isTup_lst, isTup_int, isTup_str, isTup_bl, isTup_non, isTup_scr, isLst_tup, isLst_lst, isLst_int, isLst_str, isLst_bl, isLst_non, isLst_scr, isTL_tup, isTL_lst, isTL_int, isTL_str, isTL_bl, isTL_non, isTL_scr, isN_tup, notN_tup, isN_lst, notN_lst, isN_int, notN_int, isN_str, notN_str, isN_bl, notN_bl, isN_non, notN_non, isN_scr, notN_scr, isN_ref, notN_ref, not_bl, neg_int, len_tup, List.length_map, len_lst, len_scr, pur_int, pur_str, pur_bl, pur_non, pur_tup, pur_lst, purAll_nil, purAll_cons, op2_idx, op2_add, op2_sub, add_int, add_lst, add_tup, List.length_cons, List.length_nil, Nat.reduceAdd, Nat.zero_add, Nat.add_zero, nc0, nc1, nc2, nc3, nc4, nc5, nc6, nc7, nc8, nc9, Int.reduceLT, Int.reduceEq, Int.reduceMod, Int.reduceAdd, Int.reduceSub, op2_eq, op2_ne, op2_lt, op2_le, op2_gt, op2_ge, op2_in, op2_nin, okB_some, id_eq, decide_true, decide_false, decide_not, String.reduceEq, reduceCtorEq, String.reduceAppend, Option.isNone_none, eq_self, bi_tuple, idx_l0, idx_l1, idx_l2, idx_l3, idx_t0, idx_t1, idx_t2, idx_t3, idx_t4, idx_t5, eqB_str, eqB_int, eqB_is, eqB_si, Bool.and_self, eqB_ts, eqB_st, ext_rfl, ext_app, ext_app2, tup_tup, tup_lst, eqB_non, Bool.false_eq_true, if_false, if_true, Bool.not_true, Bool.not_false, and_true, true_and, implies_true, forall_const, $a,*])
structure Stn where
  b : List So
  p : List So
  deriving DecidableEq
def Stn.d (s : Stn) : D := .tup [.tup (s.b.map So.d), .tup (s.p.map So.d)]
section
variable {G : GD} {U : Up} {n : Nat} {st : Store} {cs : List Kl}
def So.join (cs : List Kl) (x y : So) : So :=
  if x.fit cs y then y else if y.fit cs x then x else match x, y with
    | .of i, .of j => .of (com cs cs.length i j)
    | _, _ => if x.fit cs .any && y.fit cs .any then .any else .unset
theorem c_joined (wc : WC cs) (hl : cs.length ≤ 1000) (x y : So) (hx : x.ok cs) (hy : y.ok cs) : callN G U LIB (n + 3) "joined" [clsD cs, x.d, y.d] st = .ok (x.join cs y).d st := by
  refine pure_ok l_joined rfl (below_so _) ?_
  dsimp only [f_joined, List.map_cons, List.map_nil, List.replicate_succ, List.replicate_zero, List.cons_append, List.nil_append, Nat.reduceSub]
  have e1 := fun st : Store => c_is_fit (G := G) (U := U) (n := n) (st := st) wc hl x y hx
  have e2 := fun st : Store => c_is_fit (G := G) (U := U) (n := n) (st := st) wc hl y x hy
  have e3 := fun st : Store => c_is_fit (G := G) (U := U) (n := n) (st := st) wc hl x .any hx
  have e4 := fun st : Store => c_is_fit (G := G) (U := U) (n := n) (st := st) wc hl y .any hy
  have ha : So.any.d = D.str "any" := rfl
  rw [ha] at e3 e4
  unfold So.join
  cases h1 : x.fit cs y with
  | true => simp! [e1, h1]
  | false =>
    cases h2 : y.fit cs x with
    | true => simp! [e1, h1, e2, h2]
    | false =>
      by_cases hof : (∃ i j, x = .of i ∧ y = .of j)
      · obtain ⟨i, j, rfl, rfl⟩ := hof
        simp! [e1, h1, e2, h2, c_is_thing, So.thing]
        simp! [So.d, c_common wc hl i j hx hy]
      · have ht : (x.thing && y.thing) = false := by
          cases x <;> cases y <;> simp_all [So.thing, So.fit]
        have em : (match x, y with
            | .of i, .of j => So.of (com cs cs.length i j)
            | _, _ => if x.fit cs .any && y.fit cs .any then .any else .unset) = if x.fit cs .any && y.fit cs .any then .any else .unset := by
          cases x <;> cases y <;> first | rfl | exact absurd ⟨_, _, rfl, rfl⟩ hof
        rw [em]
        cases hx1 : x.thing with
        | false =>
          cases h3 : x.fit cs .any with
          | false => simp! [e1, h1, e2, h2, c_is_thing, hx1, e3, h3, Bool.false_and]; rfl
          | true =>
            cases h4 : y.fit cs .any with
            | false => simp! [e1, h1, e2, h2, c_is_thing, hx1, e3, h3, e4, h4, Bool.and_false]; rfl
            | true => simp! [e1, h1, e2, h2, c_is_thing, hx1, e3, h3, e4, h4]; rfl
        | true =>
          have hy1 : y.thing = false := by rw [hx1] at ht; simpa using ht
          cases h3 : x.fit cs .any with
          | false => simp! [e1, h1, e2, h2, c_is_thing, hx1, hy1, e3, h3, Bool.false_and]; rfl
          | true =>
            cases h4 : y.fit cs .any with
            | false => simp! [e1, h1, e2, h2, c_is_thing, hx1, hy1, e3, h3, e4, h4, Bool.and_false]; rfl
            | true => simp! [e1, h1, e2, h2, c_is_thing, hx1, hy1, e3, h3, e4, h4]; rfl
/-- a stand fits: the piles are of like heights, each sort fits -/
def Stn.fit (cs : List Kl) (a b : Stn) : Bool := decide (a.p.length = b.p.length) && ((a.b ++ a.p).zip (b.b ++ b.p)).all fun q => q.1.fit cs q.2
structure Stn.Ok (cs : List Kl) (s : Stn) : Prop where
  lb : s.b.length ≤ 100
  lp : s.p.length ≤ 100
  ok : ∀ x ∈ s.b ++ s.p, x.ok cs
theorem Stn.Ok.add {s : Stn} (h : s.Ok cs) : (s.b.map So.d).length + (s.p.map So.d).length ≤ LIM := by
  have := h.lb; have := h.lp
  rw [List.length_map, List.length_map]
  show _ ≤ 16777216
  omega
theorem filter_not {α : Type} {p : α → Bool} : ∀ {l : List α}, (l.filter fun x => !p x).isEmpty = l.all p
  | [] => rfl
  | x :: l => by
    cases h : p x
    · simp [h]
    · simp only [List.filter_cons, h, Bool.not_true, Bool.false_eq_true, if_false, List.all_cons, Bool.true_and]
      exact filter_not
theorem map_isEmpty {α β : Type} {f : α → β} {l : List α} : (l.map f).isEmpty = l.isEmpty := by cases l <;> rfl
theorem c_stand_fits (wc : WC cs) (hl : cs.length ≤ 1000) (a b : Stn) (ha : a.Ok cs) (hb : b.Ok cs) : callN G U LIB (n + 3) "stand_fits" [clsD cs, a.d, b.d] st = .ok (.bl (a.fit cs b)) st := by
  refine pure_ok l_stand_fits rfl rfl ?_
  dsimp only [f_stand_fits, List.map_cons, List.map_nil, List.replicate_succ, List.replicate_zero, List.cons_append, List.nil_append, Nat.reduceSub]
  unfold Stn.fit
  by_cases h : a.p.length = b.p.length
  · rw [decide_eq_true h, Bool.true_and]
    simp! [Stn.d, h, List.length_map, add_tup ha.add, add_tup hb.add, zip_tt]
    rw [← List.map_append, ← List.map_append, zipD_map]
    refine wpure (fun p : So × So => .tup [p.1.d, p.2.d]) _ (fun p => !(p.1.fit cs p.2)) (fun p => .tup [p.1.d, p.2.d]) ?_ (fun _ => rfl) ?_ ?_ ?_
    · rw [List.length_zip, List.length_append]
      have := ha.lb; have := ha.lp
      show _ ≤ 16777216
      omega
    · rintro ⟨x, y⟩ hm acc
      have hx : x.ok cs := ha.ok x (List.of_mem_zip hm).1
      simp! [c_is_fit wc hl x y hx]
    · rintro ⟨x, y⟩ _ _
      simp [below, belowAll, below_so]
    · have hp : purAll 59 ((((a.b ++ a.p).zip (b.b ++ b.p)).filter fun p => !(p.1.fit cs p.2)).map fun p => D.tup [p.1.d, p.2.d]) = true := purAll_map (fun x => by simp [pur, purAll, pur_so]) _
      simp! [give_f, eqB_lnil hp, map_isEmpty, filter_not]
  · simp! [Stn.d, h, List.length_map, Int.natCast_inj, Bool.false_and]
/-- the join of two stands -/
def Stn.join (cs : List Kl) (a b : Stn) : Option Stn :=
  if a.p.length = b.p.length then some ⟨(a.b.zip b.b).map fun q => q.1.join cs q.2, (a.p.zip b.p).map fun q => q.1.join cs q.2⟩ else none
def optS : Option Stn → D
  | none => .non
  | some s => s.d
theorem below_stn {n : Nat} (s : Stn) : below n s.d = true := by
  simp [Stn.d, below, belowAll, belowAll_map below_so]
theorem c_stands_joined (wc : WC cs) (hl : cs.length ≤ 1000) (a b : Stn) (ha : a.Ok cs) (hb : b.Ok cs) : callN G U LIB (n + 4) "stands_joined" [clsD cs, a.d, b.d] st = .ok (optS (a.join cs b)) st := by
  have hbl : below st.length (optS (a.join cs b)) = true := by
    unfold Stn.join
    split
    · exact below_stn _
    · rfl
  refine pure_ok l_stands_joined rfl hbl ?_
  dsimp only [f_stands_joined, List.map_cons, List.map_nil, List.replicate_succ, List.replicate_zero, List.cons_append, List.nil_append, Nat.reduceSub]
  unfold Stn.join
  by_cases h : a.p.length = b.p.length
  · rw [if_pos h]
    simp! [Stn.d, h, List.length_map]
    refine ⟨by unfold RgOk; decide, ?_⟩
    rw [show rangeD 0 (Int.toNat 2) = (List.range 2).map fun k => D.int (k : Nat) from rfl]
    refine wpure (fun k : Nat => .int k) _ (fun _ => true) (fun k => .tup ((if k = 0 then (a.b.zip b.b) else (a.p.zip b.p)).map fun q => (q.1.join cs q.2).d)) (by decide) (fun _ => rfl) ?_ ?_ ?_
    · intro k hk acc
      have hk : k < 2 := by simpa using hk
      have ck : k = 0 ∨ k = 1 := by omega
      rcases ck with rfl | rfl
      · simp! [Stn.d, Int.natCast_zero, forall_const]
        rw [zipD_map]
        refine wpure (fun p : So × So => .tup [p.1.d, p.2.d]) _ (fun _ => true) (fun q => (q.1.join cs q.2).d) ?_ (fun _ => rfl) ?_ ?_ ?_
        · rw [List.length_zip]
          have := ha.lb
          show _ ≤ 16777216
          omega
        · rintro ⟨x, y⟩ hm acc
          have hx : x.ok cs := ha.ok x (List.mem_append_left _ (List.of_mem_zip hm).1)
          have hy : y.ok cs := hb.ok y (List.mem_append_left _ (List.of_mem_zip hm).2)
          simp! [c_joined wc hl x y hx hy, forall_const]
        · rintro ⟨x, y⟩ _ _
          exact below_so _
        · simp! [filter_tt]
      · simp! [Stn.d, Int.natCast_one, forall_const, Nat.one_ne_zero]
        rw [zipD_map]
        refine wpure (fun p : So × So => .tup [p.1.d, p.2.d]) _ (fun _ => true) (fun q => (q.1.join cs q.2).d) ?_ (fun _ => rfl) ?_ ?_ ?_
        · rw [List.length_zip]
          have := ha.lp
          show _ ≤ 16777216
          omega
        · rintro ⟨x, y⟩ hm acc
          have hx : x.ok cs := ha.ok x (List.mem_append_right _ (List.of_mem_zip hm).1)
          have hy : y.ok cs := hb.ok y (List.mem_append_right _ (List.of_mem_zip hm).2)
          simp! [c_joined wc hl x y hx hy, forall_const]
        · rintro ⟨x, y⟩ _ _
          exact below_so _
        · simp! [filter_tt]
    · intro k _ _
      simp [below, belowAll_map, below_so]
    · simp! [filter_tt]
      simp [optS, Stn.d, List.range_succ, Function.comp_def]
  · rw [if_neg h]
    simp! [Stn.d, h, List.length_map, Int.natCast_inj, optS]
end
end MP

set_option linter.all false
set_option maxRecDepth 100000
set_option maxHeartbeats 4000000
/-! Programs as data: a program that can be is let by. -/
namespace MG
section
variable {G : GD} {U : Up} {call : Call} {own : Bool} {st : Store}
theorem get_gd {m w : String} : biV G own .get1 [.gd m, .str w] st = .ok ((dget (G.get m) (.str w)).getD .non) st := id rfl
theorem recv_gd {m : String} : recv .get1 st (.gd m) = true := id rfl
theorem get_last {S : Store} {o : O} : (S ++ [o])[S.length]? = some o := List.getElem?_concat_length ..
theorem set_last {S : Store} {o o' : O} : (S ++ [o]).set S.length o' = S ++ [o'] := by
  rw [List.set_append_right _ _ (Nat.le_refl _)]; simp
theorem flat4 {a b c d e f g h : D} : flatPairs [a, b, c, d, e, f, g, h] = some [(a, b), (c, d), (e, f), (g, h)] := id rfl
theorem keys4 {a c e g : String} {b d f h : D} : (List.all [(D.str a, b), (D.str c, d), (D.str e, f), (D.str g, h)] (fun p => keyK p.1) && decide (4 ≤ 15)) = true := id rfl
theorem idx_dK {S : Store} {kvs : List (D × D)} {s : String} : idxV G (S ++ [.dK kvs]) (.ref S.length) (.str s) = dget kvs (.str s) := by
  simp [idxV, dictAt, keyK]
theorem enumD_get : ∀ (l : List D) (k : Int) (i : Nat), (enumD k l)[i]? = (l[i]?).map fun d => .tup [.int (k + i), d]
  | [], k, i => by simp [enumD]
  | x :: l, k, 0 => by simp [enumD]
  | x :: l, k, i + 1 => by
    simp only [enumD, List.getElem?_cons_succ, enumD_get l (k + 1) i]
    congr 1
    funext d
    have : k + 1 + (i : Int) = k + ((i + 1 : Nat) : Int) := by omega
    rw [this]
theorem enumD_len : ∀ (l : List D) (k : Int), (enumD k l).length = l.length
  | [], k => rfl
  | x :: l, k => by simp [enumD, enumD_len l]
end
end MG
namespace MP
open MG
local macro_rules
  | `(tactic| simp! [$a,*]) => `(tactic| simp -dsimp only [wpE_var, wpE_k, wpE_nil, wpE_cons, wpE_lst, wpE_op1, wpE_op2, wpE_and, wpE_or, wpE_ite, wpE_chain, wpE_slc, wpE_rev, wpE_bi, wpE_bm, wpE_call, wpE_meth, wpE_make, wpE_fld, wpE_comp, wpE_rng, wpE_rrng, wpE_enum, wpE_zip, wpE_dict, wpE_frz, asgW_var, asgW_fld, asgW_op2, asgW_nil, asgW_cons, wsS_skip, wsS_seq, wsS_ex, wsS_asg, wsS_ret, wsS_ife, wsS_for, wsS_while, wsS_raise, wsS_try0, wsS_try1, wsS_cont, getE_0, getE_s, putW_0, putW_s, getW_some, WP_ok, WP_err, tupW_tup, blW_t, blW_f, nonW_non, lstW_some, iterW_some, iter_tup, iter_lst, partW_some, part_n, part_v, part_i, part_2, part_b, insW_some, refW_ref, ints2W_int, stoW_some, envW_var, envW_cons, envW_nil, prsW_some, okW_t, fitsT_var, fitsT_fld, fitsT_op2, fitsT_2, fitsT_3, fitsT_6, unp_var, unp_fld, unp_op2, unp_tup, unp_lst, List.map_cons, List.map_nil, List.cons_append, List.nil_append, wipe_nil, wipe_cons, List.set_cons_succ, List.set_cons_zero, isInt_tup, isInt_lst, isInt_int, isInt_str, isInt_bl, isInt_non, isInt_scr, isBool_tup, isBool_lst, isBool_int, isBool_str, isBool_bl, isBool_non, isBool_scr, isStr_tup, isStr_lst, isStr_int, isStr_str, isStr_bl, isStr_non, isStr_scr, isTup_tup, isTup_lst, isTup_int, isTup_str, isTup_bl, isTup_non, isTup_scr, isLst_tup, isLst_lst, isLst_int, isLst_str, isLst_bl, isLst_non, isLst_scr, isTL_tup, isTL_lst, isTL_int, isTL_str, isTL_bl, isTL_non, isTL_scr, isN_tup, notN_tup, isN_lst, notN_lst, isN_int, notN_int, isN_str, notN_str, isN_bl, notN_bl, isN_non, notN_non, isN_scr, notN_scr, isN_ref, notN_ref, not_bl, neg_int, len_tup, List.length_map, len_lst, len_scr, pur_int, pur_str, pur_bl, pur_non, pur_tup, pur_lst, purAll_nil, purAll_cons, op2_idx, op2_add, op2_sub, add_int, add_lst, add_tup, List.length_cons, List.length_nil, Nat.reduceAdd, Nat.zero_add, Nat.add_zero, nc0, nc1, nc2, nc3, nc4, nc5, nc6, nc7, nc8, nc9, Int.reduceLT, Int.reduceEq, Int.reduceMod, Int.reduceAdd, Int.reduceSub, op2_eq, op2_ne, op2_lt, op2_le, op2_gt, op2_ge, op2_in, op2_nin, okB_some, id_eq, decide_true, decide_false, decide_not, String.reduceEq, reduceCtorEq, String.reduceAppend, Option.isNone_none, eq_self, bi_tuple, idx_l0, idx_l1, idx_l2, idx_l3, idx_t0, idx_t1, idx_t2, idx_t3, idx_t4, idx_t5, eqB_str, eqB_int, eqB_is, eqB_si, Bool.and_self, eqB_ts, eqB_st, ext_rfl, ext_app, ext_app2, tup_tup, tup_lst, eqB_non, Bool.false_eq_true, if_false, if_true, Bool.not_true, Bool.not_false, and_true, true_and, implies_true, forall_const, $a,*])
inductive Rw where
  | num (n : Nat) | non | ask | new (c : Nat) | birth (r : Nat) | load (b : Nat) | store (b : Nat) | dup | drop | swap | add | take
  | get (c f : Nat) | put (c f : Nat) | cast (c : Nat) | is_ (c : Nat) | go (r : Nat) | iff (r : Nat) | bare (r : Nat) | throw | give | end_
  deriving DecidableEq
def Rw.d : Rw → D
  | .num n => .tup [.str "num", .int n]
  | .non => .tup [.str "none"]
  | .ask => .tup [.str "ask"]
  | .new c => .tup [.str "new", .int c]
  | .birth r => .tup [.str "birth", .int r]
  | .load b => .tup [.str "load", .int b]
  | .store b => .tup [.str "store", .int b]
  | .dup => .tup [.str "dup"]
  | .drop => .tup [.str "drop"]
  | .swap => .tup [.str "swap"]
  | .add => .tup [.str "add"]
  | .take => .tup [.str "take"]
  | .get c f => .tup [.str "get", .int c, .int f]
  | .put c f => .tup [.str "put", .int c, .int f]
  | .cast c => .tup [.str "cast", .int c]
  | .is_ c => .tup [.str "is", .int c]
  | .go r => .tup [.str "go", .int r]
  | .iff r => .tup [.str "if", .int r]
  | .bare r => .tup [.str "bare", .int r]
  | .throw => .tup [.str "throw"]
  | .give => .tup [.str "give"]
  | .end_ => .tup [.str "end"]
structure Hd where
  b : Nat
  e : Nat
  g : Nat
  c : Nat
  deriving DecidableEq
def Hd.d (h : Hd) : D := .tup [.int h.b, .int h.e, .int h.g, .int h.c]
structure Pg where
  cls : List Kl
  par : List Fl
  nb : Nat
  room : Nat
  rows : List Rw
  hs : List Hd
def Pg.d (p : Pg) : D := .tup [clsD p.cls, .tup (p.par.map Fl.d), .int p.nb, .int p.room, .tup (p.rows.map Rw.d), .tup (p.hs.map Hd.d)]
def Fl.ok (m : Nat) : Fl → Prop
  | .num => True
  | .of k => k < m
def Rw.isNew : Rw → Bool
  | .new _ => true
  | _ => false
def Rw.ok (p : Pg) : Rw → Prop
  | .num n => n ≤ 999
  | .new c => c < p.cls.length
  | .birth r => ∃ w, p.rows[r]? = some w ∧ w.isNew = true
  | .load b => b < p.nb
  | .store b => b < p.nb
  | .get c f => ∃ k, p.cls[c]? = some k ∧ f < k.flds.length
  | .put c f => ∃ k, p.cls[c]? = some k ∧ f < k.flds.length
  | .cast c => c < p.cls.length
  | .is_ c => c < p.cls.length
  | .go r => r < p.rows.length
  | .iff r => r < p.rows.length
  | .bare r => r < p.rows.length
  | _ => True
structure Pg.Ok (p : Pg) : Prop where
  wc : WC p.cls
  c1 : 1 ≤ p.cls.length
  c6 : p.cls.length ≤ 6
  fl : ∀ c ∈ p.cls, c.flds.length ≤ 3 ∧ ∀ f ∈ c.flds, f.ok p.cls.length
  p4 : p.par.length ≤ 4
  pf : ∀ f ∈ p.par, f.ok p.cls.length
  nb : p.par.length ≤ p.nb ∧ p.nb ≤ 6
  room : p.room ≤ 8
  r1 : 1 ≤ p.rows.length
  r40 : p.rows.length ≤ 40
  rw : ∀ r ∈ p.rows, r.ok p
  h4 : p.hs.length ≤ 4
  hd : ∀ h ∈ p.hs, h.b < h.e ∧ h.e ≤ p.rows.length ∧ h.g < p.rows.length ∧ h.c < p.cls.length
def formsD : List (D × D) := [(.str "num", .str "v"), (.str "none", .str ""), (.str "ask", .str ""), (.str "new", .str "k"), (.str "birth", .str "w"), (.str "load", .str "b"), (.str "store", .str "b"), (.str "dup", .str ""), (.str "drop", .str ""), (.str "swap", .str ""), (.str "add", .str ""), (.str "take", .str ""), (.str "get", .str "kf"), (.str "put", .str "kf"), (.str "cast", .str "k"), (.str "is", .str "k"), (.str "go", .str "r"), (.str "if", .str "r"), (.str "bare", .str "r"), (.str "throw", .str ""), (.str "give", .str ""), (.str "end", .str "")]
section
variable {G : GD} {U : Up} {n : Nat} {st : Store}
theorem c_whole (a lo hi : Int) : callN G U LIB (n + 1) "is_whole" [.int a, .int lo, .int hi] st = .ok (.bl (decide (lo ≤ a ∧ a ≤ hi))) st := by
  refine pure_ok l_is_whole rfl rfl ?_
  dsimp only [f_is_whole, List.map_cons, List.map_nil, List.replicate_succ, List.replicate_zero, List.cons_append, List.nil_append, Nat.reduceSub]
  by_cases h1 : lo ≤ a
  · simp! [h1]
  · simp! [h1, false_and]
theorem c_whole_str (s : String) (lo hi : D) : callN G U LIB (n + 1) "is_whole" [.str s, lo, hi] st = .ok (.bl false) st := by
  refine pure_ok l_is_whole rfl rfl ?_
  dsimp only [f_is_whole, List.map_cons, List.map_nil, List.replicate_succ, List.replicate_zero, List.cons_append, List.nil_append, Nat.reduceSub]
  simp! []
theorem c_field (f : Fl) (m : Nat) (h : f.ok m) : callN G U LIB (n + 2) "is_field" [f.d, .int m] st = .ok (.bl true) st := by
  refine pure_ok l_is_field rfl rfl ?_
  dsimp only [f_is_field, List.map_cons, List.map_nil, List.replicate_succ, List.replicate_zero, List.cons_append, List.nil_append, Nat.reduceSub]
  cases f with
  | num => simp! [Fl.d, c_whole_str]
  | of k =>
    have h : k < m := h
    have e : decide ((0 : Int) ≤ (k : Int) ∧ (k : Int) ≤ (m : Int) - 1) = true := decide_eq_true ⟨by omega, by omega⟩
    simp! [Fl.d, c_whole, e]
theorem purAll_fl (l : List Fl) : purAll 59 (l.map Fl.d) = true := purAll_map (fun x => pur_fl x) _
/-- a comprehension that finds nothing -/
theorem c_class (c : Kl) (i m : Nat) (h0 : i = 0 → c.par = none) (hp : i ≠ 0 → ∃ p, c.par = some p ∧ p < i) (hf : c.flds.length ≤ 3 ∧ ∀ f ∈ c.flds, f.ok m) : callN G U LIB (n + 3) "is_class" [c.d, .int i, .int m] st = .ok (.bl true) st := by
  refine pure_ok l_is_class rfl rfl ?_
  dsimp only [f_is_class, List.map_cons, List.map_nil, List.replicate_succ, List.replicate_zero, List.cons_append, List.nil_append, Nat.reduceSub]
  have e3 : decide ((3 : Int) < (c.flds.length : Int)) = false := decide_eq_false (by have := hf.1; omega)
  have fin : ∀ (Q : QD) (E : QE) (ρ : Env) (a b d : Option D), ρ = [a, b, some (.int m), d] → Q (.lst []) st → WComp G (callN G U LIB (n + 2)) false [3] (.var 3) (.op1 .not (.call "is_field" (.cons (.var 3) (.cons (.var 2) .nil)))) (.var 3) ρ (c.flds.map Fl.d) none st Q E := by
    rintro Q E ρ a b d rfl hQ
    refine wpure Fl.d c.flds (fun _ => false) Fl.d (by have := hf.1; show _ ≤ 16777216; omega) (fun _ => rfl) ?_ (fun x _ h => by cases h) ?_
    · intro f hm acc
      simp! [c_field f m (hf.2 f hm), false_implies]
    · have e : c.flds.filter (fun _ => false) = [] := by simp
      rw [e]; exact hQ
  by_cases hi : i = 0
  · subst hi
    simp! [Kl.d, List.length_cons, List.length_nil, Nat.reduceAdd, nc0, nc2, e3, List.length_map, h0 rfl, optD]
    refine fin _ _ _ _ _ _ rfl ?_
    simp! [give_f, eqB_lnil (l := []) rfl, List.isEmpty]
  · obtain ⟨p, hp1, hp2⟩ := hp hi
    have e0 : ((i : Int) = 0) = False := eq_false (by omega)
    have e1 : decide ((0 : Int) ≤ (p : Int) ∧ (p : Int) ≤ (i : Int) - 1) = true := decide_eq_true ⟨by omega, by omega⟩
    simp! [Kl.d, List.length_cons, List.length_nil, Nat.reduceAdd, nc2, e3, List.length_map, hp1, optD, e0, c_whole, e1]
    refine fin _ _ _ _ _ _ rfl ?_
    simp! [give_f, eqB_lnil (l := []) rfl, List.isEmpty]
theorem c_is_new (w : Rw) : callN G U LIB (n + 1) "is_new" [w.d] st = .ok (.bl w.isNew) st := by
  refine pure_ok l_is_new rfl rfl ?_
  dsimp only [f_is_new, List.map_cons, List.map_nil, List.replicate_succ, List.replicate_zero, List.cons_append, List.nil_append, Nat.reduceSub]
  cases w <;> simp! [Rw.d, List.length_cons, List.length_nil, Nat.reduceAdd, nc1, nc2, nc3, Int.reduceEq, Rw.isNew]
/-! ### the looker -/
def lkF (p : Pg) : List (String × D) := [("classes", clsD p.cls), ("params", .tup (p.par.map Fl.d)), ("boxes", .int p.nb), ("room", .int p.room), ("rows", .tup (p.rows.map Rw.d)), ("handlers", .tup (p.hs.map Hd.d))]
theorem fg_classes {p : Pg} : fget (lkF p) "classes" = some (clsD p.cls) := id rfl
theorem fg_params {p : Pg} : fget (lkF p) "params" = some (.tup (p.par.map Fl.d)) := id rfl
theorem fg_boxes {p : Pg} : fget (lkF p) "boxes" = some (.int p.nb) := id rfl
theorem fg_room {p : Pg} : fget (lkF p) "room" = some (.int p.room) := id rfl
theorem fg_rows {p : Pg} : fget (lkF p) "rows" = some (.tup (p.rows.map Rw.d)) := id rfl
theorem fg_handlers {p : Pg} : fget (lkF p) "handlers" = some (.tup (p.hs.map Hd.d)) := id rfl
theorem fg_m1 {p : Pg} : fget (lkF p) "is_part" = none := id rfl
theorem fg_m2 {p : Pg} : fget (lkF p) "is_row" = none := id rfl
theorem fg_m3 {p : Pg} : fget (lkF p) "is_handler" = none := id rfl
theorem fg_m4 {p : Pg} : fget (lkF p) "need_classes" = none := id rfl
theorem fg_m5 {p : Pg} : fget (lkF p) "need_sizes" = none := id rfl
theorem fg_m6 {p : Pg} : fget (lkF p) "need_rows" = none := id rfl
theorem at_app {r : Nat} {o : O} (h : st[r]? = some o) (g : Store) : (st ++ g)[r]? = some o := by
  rw [List.getElem?_append_left (List.getElem?_eq_some_iff.mp h).1]; exact h
theorem len_cls {own : Bool} {cs : List Kl} : biV G own .len [clsD cs] st = .ok (.int cs.length) st := by
  unfold clsD
  rw [len_tup, List.length_map]
theorem len_tmap {α : Type} {own : Bool} {f : α → D} {l : List α} : biV G own .len [.tup (l.map f)] st = .ok (.int l.length) st := by
  rw [len_tup, List.length_map]
variable {p : Pg} {r : Nat}
theorem dput_is {a b c d : D} : dputAll [] [(D.str "v", a), (D.str "k", b), (D.str "b", c), (D.str "r", d)] = [(D.str "v", a), (D.str "k", b), (D.str "b", c), (D.str "r", d)] := id rfl
theorem dg_v {a b c d : D} : dget [(D.str "v", a), (D.str "k", b), (D.str "b", c), (D.str "r", d)] (.str "v") = some a := id rfl
theorem dg_k {a b c d : D} : dget [(D.str "v", a), (D.str "k", b), (D.str "b", c), (D.str "r", d)] (.str "k") = some b := id rfl
theorem dg_b {a b c d : D} : dget [(D.str "v", a), (D.str "k", b), (D.str "b", c), (D.str "r", d)] (.str "b") = some c := id rfl
theorem dg_r {a b c d : D} : dget [(D.str "v", a), (D.str "k", b), (D.str "b", c), (D.str "r", d)] (.str "r") = some d := id rfl
theorem c_part_v (hr : st[r]? = some (.ins "Looker" (lkF p))) (row : D) (m : Nat) (h : m ≤ 999) : callN G U LIB (n + 2) "Looker.is_part" [.ref r, .int m, .str "v", row] st = .ok (.bl true) st := by
  refine pure_ok l_Looker_is_part rfl rfl ?_
  dsimp only [f_Looker_is_part, List.map_cons, List.map_nil, List.replicate_succ, List.replicate_zero, List.cons_append, List.nil_append, Nat.reduceSub]
  have e : decide ((0 : Int) ≤ (m : Int) ∧ (m : Int) ≤ 999) = true := decide_eq_true ⟨by omega, by omega⟩
  simp! [at_app hr, fg_classes, fg_boxes, fg_rows, len_cls, flat4, keys4, get_last, set_last, dput_is, idx_dK, dg_v, c_whole, e]
theorem c_part_k (hr : st[r]? = some (.ins "Looker" (lkF p))) (row : D) (m : Nat) (h : m < p.cls.length) : callN G U LIB (n + 2) "Looker.is_part" [.ref r, .int m, .str "k", row] st = .ok (.bl true) st := by
  refine pure_ok l_Looker_is_part rfl rfl ?_
  dsimp only [f_Looker_is_part, List.map_cons, List.map_nil, List.replicate_succ, List.replicate_zero, List.cons_append, List.nil_append, Nat.reduceSub]
  have e : decide ((0 : Int) ≤ (m : Int) ∧ (m : Int) ≤ (p.cls.length : Int) - 1) = true := decide_eq_true ⟨by omega, by omega⟩
  simp! [at_app hr, fg_classes, fg_boxes, fg_rows, len_cls, flat4, keys4, get_last, set_last, dput_is, idx_dK, dg_k, c_whole, e]
theorem c_part_b (hr : st[r]? = some (.ins "Looker" (lkF p))) (row : D) (m : Nat) (h : m < p.nb) : callN G U LIB (n + 2) "Looker.is_part" [.ref r, .int m, .str "b", row] st = .ok (.bl true) st := by
  refine pure_ok l_Looker_is_part rfl rfl ?_
  dsimp only [f_Looker_is_part, List.map_cons, List.map_nil, List.replicate_succ, List.replicate_zero, List.cons_append, List.nil_append, Nat.reduceSub]
  have e : decide ((0 : Int) ≤ (m : Int) ∧ (m : Int) ≤ (p.nb : Int) - 1) = true := decide_eq_true ⟨by omega, by omega⟩
  simp! [at_app hr, fg_classes, fg_boxes, fg_rows, len_cls, flat4, keys4, get_last, set_last, dput_is, idx_dK, dg_b, c_whole, e]
theorem c_part_r (hr : st[r]? = some (.ins "Looker" (lkF p))) (row : D) (m : Nat) (h : m < p.rows.length) : callN G U LIB (n + 2) "Looker.is_part" [.ref r, .int m, .str "r", row] st = .ok (.bl true) st := by
  refine pure_ok l_Looker_is_part rfl rfl ?_
  dsimp only [f_Looker_is_part, List.map_cons, List.map_nil, List.replicate_succ, List.replicate_zero, List.cons_append, List.nil_append, Nat.reduceSub]
  have e : decide ((0 : Int) ≤ (m : Int) ∧ (m : Int) ≤ (p.rows.length : Int) - 1) = true := decide_eq_true ⟨by omega, by omega⟩
  simp! [at_app hr, fg_classes, fg_boxes, fg_rows, len_cls, flat4, keys4, get_last, set_last, dput_is, idx_dK, dg_r, c_whole, e]
theorem idx_rows {rows : List Rw} {i : Nat} {w : Rw} (h : rows[i]? = some w) : idxV G st (.tup (rows.map Rw.d)) (.int i) = some w.d := by
  rw [idx_tn, List.getElem?_map, h]; rfl
theorem c_part_w (hr : st[r]? = some (.ins "Looker" (lkF p))) (row : D) (m : Nat) {w : Rw} (h : p.rows[m]? = some w) (hw : w.isNew = true) : callN G U LIB (n + 2) "Looker.is_part" [.ref r, .int m, .str "w", row] st = .ok (.bl true) st := by
  refine pure_ok l_Looker_is_part rfl rfl ?_
  dsimp only [f_Looker_is_part, List.map_cons, List.map_nil, List.replicate_succ, List.replicate_zero, List.cons_append, List.nil_append, Nat.reduceSub]
  have hl := (List.getElem?_eq_some_iff.mp h).1
  have e : decide ((0 : Int) ≤ (m : Int) ∧ (m : Int) ≤ (p.rows.length : Int) - 1) = true := decide_eq_true ⟨by omega, by omega⟩
  simp! [hr, fg_rows, c_whole, e, idx_rows h, c_is_new, hw]
theorem c_part_f (hr : st[r]? = some (.ins "Looker" (lkF p))) (w : D) (c m : Nat) {k : Kl} (h : p.cls[c]? = some k) (hm : m < k.flds.length) : callN G U LIB (n + 2) "Looker.is_part" [.ref r, .int m, .str "f", .tup [w, .int c, .int m]] st = .ok (.bl true) st := by
  refine pure_ok l_Looker_is_part rfl rfl ?_
  dsimp only [f_Looker_is_part, List.map_cons, List.map_nil, List.replicate_succ, List.replicate_zero, List.cons_append, List.nil_append, Nat.reduceSub]
  have e : decide ((0 : Int) ≤ (m : Int) ∧ (m : Int) ≤ (k.flds.length : Int) - 1) = true := decide_eq_true ⟨by omega, by omega⟩
  simp! [hr, fg_classes, idx_cls h, Kl.d, c_whole, e]
theorem chr1 {s : String} (h : s.length ≤ LIM) {i : Nat} : idxV G st (.str s) (.int i) = (chars s)[i]? := by
  have e : idxV G st (.str s) (.int i) = itemAt (chars s) i := by simp only [idxV, h, if_true]
  rw [e]
  by_cases hi : i < (chars s).length
  · simp [itemAt, place, hi]
  · simp [itemAt, place, hi]
theorem f_v : idxV G st (.str "v") (.int 0) = some (.str "v") := id rfl
theorem f_k : idxV G st (.str "k") (.int 0) = some (.str "k") := id rfl
theorem f_w : idxV G st (.str "w") (.int 0) = some (.str "w") := id rfl
theorem f_b : idxV G st (.str "b") (.int 0) = some (.str "b") := id rfl
theorem f_r : idxV G st (.str "r") (.int 0) = some (.str "r") := id rfl
theorem f_kf0 : idxV G st (.str "kf") (.int 0) = some (.str "k") := id rfl
theorem f_kf1 : idxV G st (.str "kf") (.int 1) = some (.str "f") := id rfl
theorem ln_0 {own : Bool} : biV G own .len [.str ""] st = .ok (.int 0) st := id rfl
theorem ln_v {own : Bool} : biV G own .len [.str "v"] st = .ok (.int 1) st := id rfl
theorem ln_k {own : Bool} : biV G own .len [.str "k"] st = .ok (.int 1) st := id rfl
theorem ln_w {own : Bool} : biV G own .len [.str "w"] st = .ok (.int 1) st := id rfl
theorem ln_b {own : Bool} : biV G own .len [.str "b"] st = .ok (.int 1) st := id rfl
theorem ln_r {own : Bool} : biV G own .len [.str "r"] st = .ok (.int 1) st := id rfl
theorem ln_kf {own : Bool} : biV G own .len [.str "kf"] st = .ok (.int 2) st := id rfl
theorem rg0 : rangeD 0 (Int.toNat 0) = [] := id rfl
theorem rg1 : rangeD 0 (Int.toNat 1) = [.int 0] := id rfl
theorem rg2 : rangeD 0 (Int.toNat 2) = [.int 0, .int 1] := id rfl
theorem rgok (i j : Int) (h : (-4611686018427387904 ≤ i ∧ i < 4611686018427387904 ∧ -4611686018427387904 ≤ j ∧ j < 4611686018427387904)) : RgOk i j = True := eq_true h
theorem fm_0 {w : String} {v : D} (hG : G.get "FORMS" = formsD) (h : dget formsD (.str w) = some v) : dget (G.get "FORMS") (.str w) = some v := by rw [hG]; exact h
theorem c_is_row (hG : G.get "FORMS" = formsD) (hr : st[r]? = some (.ins "Looker" (lkF p))) (w : Rw) (h : w.ok p) : callN G U LIB (n + 3) "Looker.is_row" [.ref r, w.d] st = .ok (.bl true) st := by
  refine pure_ok l_Looker_is_row rfl rfl ?_
  dsimp only [f_Looker_is_row, List.map_cons, List.map_nil, List.replicate_succ, List.replicate_zero, List.cons_append, List.nil_append, Nat.reduceSub]
  have r0 := rgok 0 0 (by decide)
  have r1 := rgok 0 1 (by decide)
  have r2 := rgok 0 2 (by decide)
  cases w
  case non =>
    simp! [Rw.d, eqB_tnil (l := [D.str "none"]) rfl, List.isEmpty, recv_gd, get_gd, fm_0 hG (w := "none") rfl, Option.getD, ln_0, List.length_cons, List.length_nil, Nat.reduceAdd, nc1, nc2, nc3, Int.reduceAdd, r0, rg0]
    refine wfor_nil ?_
    simp! []
  case ask =>
    simp! [Rw.d, eqB_tnil (l := [D.str "ask"]) rfl, List.isEmpty, recv_gd, get_gd, fm_0 hG (w := "ask") rfl, Option.getD, ln_0, List.length_cons, List.length_nil, Nat.reduceAdd, nc1, nc2, nc3, Int.reduceAdd, r0, rg0]
    refine wfor_nil ?_
    simp! []
  case dup =>
    simp! [Rw.d, eqB_tnil (l := [D.str "dup"]) rfl, List.isEmpty, recv_gd, get_gd, fm_0 hG (w := "dup") rfl, Option.getD, ln_0, List.length_cons, List.length_nil, Nat.reduceAdd, nc1, nc2, nc3, Int.reduceAdd, r0, rg0]
    refine wfor_nil ?_
    simp! []
  case drop =>
    simp! [Rw.d, eqB_tnil (l := [D.str "drop"]) rfl, List.isEmpty, recv_gd, get_gd, fm_0 hG (w := "drop") rfl, Option.getD, ln_0, List.length_cons, List.length_nil, Nat.reduceAdd, nc1, nc2, nc3, Int.reduceAdd, r0, rg0]
    refine wfor_nil ?_
    simp! []
  case swap =>
    simp! [Rw.d, eqB_tnil (l := [D.str "swap"]) rfl, List.isEmpty, recv_gd, get_gd, fm_0 hG (w := "swap") rfl, Option.getD, ln_0, List.length_cons, List.length_nil, Nat.reduceAdd, nc1, nc2, nc3, Int.reduceAdd, r0, rg0]
    refine wfor_nil ?_
    simp! []
  case add =>
    simp! [Rw.d, eqB_tnil (l := [D.str "add"]) rfl, List.isEmpty, recv_gd, get_gd, fm_0 hG (w := "add") rfl, Option.getD, ln_0, List.length_cons, List.length_nil, Nat.reduceAdd, nc1, nc2, nc3, Int.reduceAdd, r0, rg0]
    refine wfor_nil ?_
    simp! []
  case take =>
    simp! [Rw.d, eqB_tnil (l := [D.str "take"]) rfl, List.isEmpty, recv_gd, get_gd, fm_0 hG (w := "take") rfl, Option.getD, ln_0, List.length_cons, List.length_nil, Nat.reduceAdd, nc1, nc2, nc3, Int.reduceAdd, r0, rg0]
    refine wfor_nil ?_
    simp! []
  case throw =>
    simp! [Rw.d, eqB_tnil (l := [D.str "throw"]) rfl, List.isEmpty, recv_gd, get_gd, fm_0 hG (w := "throw") rfl, Option.getD, ln_0, List.length_cons, List.length_nil, Nat.reduceAdd, nc1, nc2, nc3, Int.reduceAdd, r0, rg0]
    refine wfor_nil ?_
    simp! []
  case give =>
    simp! [Rw.d, eqB_tnil (l := [D.str "give"]) rfl, List.isEmpty, recv_gd, get_gd, fm_0 hG (w := "give") rfl, Option.getD, ln_0, List.length_cons, List.length_nil, Nat.reduceAdd, nc1, nc2, nc3, Int.reduceAdd, r0, rg0]
    refine wfor_nil ?_
    simp! []
  case end_ =>
    simp! [Rw.d, eqB_tnil (l := [D.str "end"]) rfl, List.isEmpty, recv_gd, get_gd, fm_0 hG (w := "end") rfl, Option.getD, ln_0, List.length_cons, List.length_nil, Nat.reduceAdd, nc1, nc2, nc3, Int.reduceAdd, r0, rg0]
    refine wfor_nil ?_
    simp! []
  case num m =>
    simp! [Rw.d, eqB_tnil (l := [D.str "num", .int m]) rfl, List.isEmpty, recv_gd, get_gd, fm_0 hG (w := "num") rfl, Option.getD, ln_v, List.length_cons, List.length_nil, Nat.reduceAdd, nc1, nc2, nc3, Int.reduceAdd, r1, rg1]
    refine wfor_cons ?_
    simp! [hr, fg_m1, Int.reduceAdd, f_v, c_part_v hr _ m h]
    refine wfor_nil ?_
    simp! []
  case new m =>
    simp! [Rw.d, eqB_tnil (l := [D.str "new", .int m]) rfl, List.isEmpty, recv_gd, get_gd, fm_0 hG (w := "new") rfl, Option.getD, ln_k, List.length_cons, List.length_nil, Nat.reduceAdd, nc1, nc2, nc3, Int.reduceAdd, r1, rg1]
    refine wfor_cons ?_
    simp! [hr, fg_m1, Int.reduceAdd, f_k, c_part_k hr _ m h]
    refine wfor_nil ?_
    simp! []
  case load m =>
    simp! [Rw.d, eqB_tnil (l := [D.str "load", .int m]) rfl, List.isEmpty, recv_gd, get_gd, fm_0 hG (w := "load") rfl, Option.getD, ln_b, List.length_cons, List.length_nil, Nat.reduceAdd, nc1, nc2, nc3, Int.reduceAdd, r1, rg1]
    refine wfor_cons ?_
    simp! [hr, fg_m1, Int.reduceAdd, f_b, c_part_b hr _ m h]
    refine wfor_nil ?_
    simp! []
  case store m =>
    simp! [Rw.d, eqB_tnil (l := [D.str "store", .int m]) rfl, List.isEmpty, recv_gd, get_gd, fm_0 hG (w := "store") rfl, Option.getD, ln_b, List.length_cons, List.length_nil, Nat.reduceAdd, nc1, nc2, nc3, Int.reduceAdd, r1, rg1]
    refine wfor_cons ?_
    simp! [hr, fg_m1, Int.reduceAdd, f_b, c_part_b hr _ m h]
    refine wfor_nil ?_
    simp! []
  case cast m =>
    simp! [Rw.d, eqB_tnil (l := [D.str "cast", .int m]) rfl, List.isEmpty, recv_gd, get_gd, fm_0 hG (w := "cast") rfl, Option.getD, ln_k, List.length_cons, List.length_nil, Nat.reduceAdd, nc1, nc2, nc3, Int.reduceAdd, r1, rg1]
    refine wfor_cons ?_
    simp! [hr, fg_m1, Int.reduceAdd, f_k, c_part_k hr _ m h]
    refine wfor_nil ?_
    simp! []
  case is_ m =>
    simp! [Rw.d, eqB_tnil (l := [D.str "is", .int m]) rfl, List.isEmpty, recv_gd, get_gd, fm_0 hG (w := "is") rfl, Option.getD, ln_k, List.length_cons, List.length_nil, Nat.reduceAdd, nc1, nc2, nc3, Int.reduceAdd, r1, rg1]
    refine wfor_cons ?_
    simp! [hr, fg_m1, Int.reduceAdd, f_k, c_part_k hr _ m h]
    refine wfor_nil ?_
    simp! []
  case go m =>
    simp! [Rw.d, eqB_tnil (l := [D.str "go", .int m]) rfl, List.isEmpty, recv_gd, get_gd, fm_0 hG (w := "go") rfl, Option.getD, ln_r, List.length_cons, List.length_nil, Nat.reduceAdd, nc1, nc2, nc3, Int.reduceAdd, r1, rg1]
    refine wfor_cons ?_
    simp! [hr, fg_m1, Int.reduceAdd, f_r, c_part_r hr _ m h]
    refine wfor_nil ?_
    simp! []
  case iff m =>
    simp! [Rw.d, eqB_tnil (l := [D.str "if", .int m]) rfl, List.isEmpty, recv_gd, get_gd, fm_0 hG (w := "if") rfl, Option.getD, ln_r, List.length_cons, List.length_nil, Nat.reduceAdd, nc1, nc2, nc3, Int.reduceAdd, r1, rg1]
    refine wfor_cons ?_
    simp! [hr, fg_m1, Int.reduceAdd, f_r, c_part_r hr _ m h]
    refine wfor_nil ?_
    simp! []
  case bare m =>
    simp! [Rw.d, eqB_tnil (l := [D.str "bare", .int m]) rfl, List.isEmpty, recv_gd, get_gd, fm_0 hG (w := "bare") rfl, Option.getD, ln_r, List.length_cons, List.length_nil, Nat.reduceAdd, nc1, nc2, nc3, Int.reduceAdd, r1, rg1]
    refine wfor_cons ?_
    simp! [hr, fg_m1, Int.reduceAdd, f_r, c_part_r hr _ m h]
    refine wfor_nil ?_
    simp! []
  case birth m =>
    obtain ⟨w, h1, h2⟩ := h
    simp! [Rw.d, eqB_tnil (l := [D.str "birth", .int m]) rfl, List.isEmpty, recv_gd, get_gd, fm_0 hG (w := "birth") rfl, Option.getD, ln_w, List.length_cons, List.length_nil, Nat.reduceAdd, nc1, nc2, nc3, Int.reduceAdd, r1, rg1]
    refine wfor_cons ?_
    simp! [hr, fg_m1, Int.reduceAdd, f_w, c_part_w hr _ m h1 h2]
    refine wfor_nil ?_
    simp! []
  case get c m =>
    obtain ⟨k, h1, h2⟩ := h
    simp! [Rw.d, eqB_tnil (l := [D.str "get", .int c, .int m]) rfl, List.isEmpty, recv_gd, get_gd, fm_0 hG (w := "get") rfl, Option.getD, ln_kf, List.length_cons, List.length_nil, Nat.reduceAdd, nc1, nc2, nc3, Int.reduceAdd, r2, rg2]
    refine wfor_cons ?_
    simp! [hr, fg_m1, Int.reduceAdd, f_kf0, c_part_k hr _ c (List.getElem?_eq_some_iff.mp h1).1]
    refine wfor_cons ?_
    simp! [hr, fg_m1, Int.reduceAdd, f_kf1, c_part_f hr _ c m h1 h2]
    refine wfor_nil ?_
    simp! []
  case put c m =>
    obtain ⟨k, h1, h2⟩ := h
    simp! [Rw.d, eqB_tnil (l := [D.str "put", .int c, .int m]) rfl, List.isEmpty, recv_gd, get_gd, fm_0 hG (w := "put") rfl, Option.getD, ln_kf, List.length_cons, List.length_nil, Nat.reduceAdd, nc1, nc2, nc3, Int.reduceAdd, r2, rg2]
    refine wfor_cons ?_
    simp! [hr, fg_m1, Int.reduceAdd, f_kf0, c_part_k hr _ c (List.getElem?_eq_some_iff.mp h1).1]
    refine wfor_cons ?_
    simp! [hr, fg_m1, Int.reduceAdd, f_kf1, c_part_f hr _ c m h1 h2]
    refine wfor_nil ?_
    simp! []
end
end MP

set_option linter.all false
set_option maxRecDepth 100000
set_option maxHeartbeats 4000000
/-! What a program that can be, and its stands, are told to be. -/
namespace MP
open MG
local macro_rules
  | `(tactic| simp! [$a,*]) => `(tactic| simp -dsimp only [wpE_var, wpE_k, wpE_nil, wpE_cons, wpE_lst, wpE_op1, wpE_op2, wpE_and, wpE_or, wpE_ite, wpE_chain, wpE_slc, wpE_rev, wpE_bi, wpE_bm, wpE_call, wpE_meth, wpE_make, wpE_fld, wpE_comp, wpE_rng, wpE_rrng, wpE_enum, wpE_zip, wpE_dict, wpE_frz, asgW_var, asgW_fld, asgW_op2, asgW_nil, asgW_cons, wsS_skip, wsS_seq, wsS_ex, wsS_asg, wsS_ret, wsS_ife, wsS_for, wsS_while, wsS_raise, wsS_try0, wsS_try1, wsS_cont, getE_0, getE_s, putW_0, putW_s, getW_some, WP_ok, WP_err, tupW_tup, blW_t, blW_f, nonW_non, lstW_some, iterW_some, iter_tup, iter_lst, partW_some, part_n, part_v, part_i, part_2, part_b, insW_some, refW_ref, ints2W_int, stoW_some, envW_var, envW_cons, envW_nil, prsW_some, okW_t, fitsT_var, fitsT_fld, fitsT_op2, fitsT_2, fitsT_3, fitsT_6, unp_var, unp_fld, unp_op2, unp_tup, unp_lst, List.map_cons, List.map_nil, List.cons_append, List.nil_append, wipe_nil, wipe_cons, List.set_cons_succ, List.set_cons_zero, isInt_tup, isInt_lst, isInt_int, isInt_str, isInt_bl, isInt_non, isInt_scr, isBool_tup, isBool_lst, isBool_int, isBool_str, isBool_bl, isBool_non, isBool_scr, isStr_tup, isStr_lst, isStr_int, isStr_str, isStr_bl, isStr_non, isStr_scr, isTup_tup, isTup_lst, isTup_int, isTup_str, isTup_bl, isTup_non, isTup_scr, isLst_tup, isLst_lst, isLst_int, isLst_str, isLst_bl, isLst_non, isLst_scr, isTL_tup, isTL_lst, isTL_int, isTL_str, isTL_bl, isTL_non, isTL_scr, isN_tup, notN_tup, isN_lst, notN_lst, isN_int, notN_int, isN_str, notN_str, isN_bl, notN_bl, isN_non, notN_non, isN_scr, notN_scr, isN_ref, notN_ref, not_bl, neg_int, len_tup, List.length_map, len_lst, len_scr, pur_int, pur_str, pur_bl, pur_non, pur_tup, pur_lst, purAll_nil, purAll_cons, op2_idx, op2_add, op2_sub, add_int, add_lst, add_tup, List.length_cons, List.length_nil, Nat.reduceAdd, Nat.zero_add, Nat.add_zero, nc0, nc1, nc2, nc3, nc4, nc5, nc6, nc7, nc8, nc9, Int.reduceLT, Int.reduceEq, Int.reduceMod, Int.reduceAdd, Int.reduceSub, op2_eq, op2_ne, op2_lt, op2_le, op2_gt, op2_ge, op2_in, op2_nin, okB_some, id_eq, decide_true, decide_false, decide_not, String.reduceEq, reduceCtorEq, String.reduceAppend, Option.isNone_none, eq_self, bi_tuple, idx_l0, idx_l1, idx_l2, idx_l3, idx_t0, idx_t1, idx_t2, idx_t3, idx_t4, idx_t5, eqB_str, eqB_int, eqB_is, eqB_si, Bool.and_self, eqB_ts, eqB_st, ext_rfl, ext_app, ext_app2, tup_tup, tup_lst, eqB_non, Bool.false_eq_true, if_false, if_true, Bool.not_true, Bool.not_false, and_true, true_and, implies_true, forall_const, $a,*])
section
variable {G : GD} {U : Up} {n : Nat} {st : Store} {p : Pg} {r : Nat}
theorem c_is_handler (hr : st[r]? = some (.ins "Looker" (lkF p))) (h : Hd) (h1 : h.b < h.e) (h2 : h.e ≤ p.rows.length) (h3 : h.g < p.rows.length) (h4 : h.c < p.cls.length) : callN G U LIB (n + 2) "Looker.is_handler" [.ref r, h.d] st = .ok (.bl true) st := by
  refine pure_ok l_Looker_is_handler rfl rfl ?_
  dsimp only [f_Looker_is_handler, List.map_cons, List.map_nil, List.replicate_succ, List.replicate_zero, List.cons_append, List.nil_append, Nat.reduceSub]
  have e1 : decide ((0 : Int) ≤ (h.b : Int) ∧ (h.b : Int) ≤ (p.rows.length : Int) - 1) = true := decide_eq_true ⟨by omega, by omega⟩
  have e2 : decide ((h.b : Int) + 1 ≤ (h.e : Int) ∧ (h.e : Int) ≤ (p.rows.length : Int)) = true := decide_eq_true ⟨by omega, by omega⟩
  have e3 : decide ((0 : Int) ≤ (h.g : Int) ∧ (h.g : Int) ≤ (p.rows.length : Int) - 1) = true := decide_eq_true ⟨by omega, by omega⟩
  have e4 : decide ((0 : Int) ≤ (h.c : Int) ∧ (h.c : Int) ≤ (p.cls.length : Int) - 1) = true := decide_eq_true ⟨by omega, by omega⟩
  simp! [Hd.d, List.length_cons, List.length_nil, Nat.reduceAdd, nc4, hr, fg_rows, fg_classes, len_cls, c_whole, e1, e2, e3, e4]
theorem purKl {n : Nat} (c : Kl) : pur (n + 2) c.d = true := by
  have : purAll n (c.flds.map Fl.d) = true := purAll_map (fun x => pur_fl x) _
  cases h : c.par <;> simp [Kl.d, h, optD, pur, purAll, this]
theorem eqB_cls {cs : List Kl} (h : 1 ≤ cs.length) : eqB st (clsD cs) (.tup []) = some false := by
  unfold clsD
  rw [eqB_tnil (purAll_map (fun c => purKl c) _)]
  cases cs with
  | nil => simp at h
  | cons c l => rfl
theorem seenC {cs : List Kl} {own : Bool} : biV G own .isTup [clsD cs] st = .ok (.bl true) st := id rfl
theorem c_need_classes (hr : st[r]? = some (.ins "Looker" (lkF p))) (hp : p.Ok) : callN G U LIB (n + 4) "Looker.need_classes" [.ref r] st = .ok .non st := by
  refine pure_ok l_Looker_need_classes rfl rfl ?_
  dsimp only [f_Looker_need_classes, List.map_cons, List.map_nil, List.replicate_succ, List.replicate_zero, List.cons_append, List.nil_append, Nat.reduceSub]
  simp! [hr, fg_classes, seenC, eqB_cls hp.c1]
  refine wfor (fun i ρ s => st = s ∧ ∃ a b, ρ = [some (.ref r), a, b]) ⟨rfl, _, _, rfl⟩ ?_ ?_
  · rintro i d ρ _ hd ⟨rfl, a, b, rfl⟩
    rw [enumD_get, List.getElem?_map] at hd
    cases e : p.cls[i]? with
    | none => rw [e] at hd; cases hd
    | some c =>
      rw [e] at hd
      cases hd
      have hi := (List.getElem?_eq_some_iff.mp e).1
      have h6 := hp.c6
      have e6 : decide ((6 : Int) ≤ (i : Int)) = false := decide_eq_false (by omega)
      have ez : (0 : Int) + (i : Int) = (i : Int) := by omega
      have w := hp.wc i c e
      have hc := c_class (G := G) (U := U) (n := n) (st := st) c i p.cls.length (fun h => by
        cases hc : c.par with
        | none => rfl
        | some q => rw [hc] at w; have w : q < i := w; omega) (fun h => by
        cases hc : c.par with
        | none => rw [hc] at w; exact absurd w h
        | some q => rw [hc] at w; exact ⟨q, rfl, w⟩) (hp.fl c (List.mem_of_getElem? e))
      refine ⟨rfl, ?_⟩
      simp! [e6, ez, hr, fg_classes, len_cls, hc]
      exact ⟨_, _, rfl⟩
  · rintro ρ _ ⟨rfl, a, b, rfl⟩
    refine ⟨rfl, ?_⟩
    simp! []
theorem c_need_sizes (hr : st[r]? = some (.ins "Looker" (lkF p))) (hp : p.Ok) : callN G U LIB (n + 3) "Looker.need_sizes" [.ref r] st = .ok .non st := by
  refine pure_ok l_Looker_need_sizes rfl rfl ?_
  dsimp only [f_Looker_need_sizes, List.map_cons, List.map_nil, List.replicate_succ, List.replicate_zero, List.cons_append, List.nil_append, Nat.reduceSub]
  have h4 := hp.p4
  have e1 : decide ((4 : Int) < (p.par.length : Int)) = false := decide_eq_false (by omega)
  have e2 : decide ((p.par.length : Int) ≤ (p.nb : Int) ∧ (p.nb : Int) ≤ 6) = true := decide_eq_true ⟨by have := hp.nb; omega, by have := hp.nb; omega⟩
  have e3 : decide ((0 : Int) ≤ (p.room : Int) ∧ (p.room : Int) ≤ 8) = true := decide_eq_true ⟨by omega, by have := hp.room; omega⟩
  simp! [hr, fg_params, e1]
  refine wpure Fl.d p.par (fun _ => false) Fl.d (by show _ ≤ 16777216; omega) (fun _ => rfl) ?_ (fun x _ h => by cases h) ?_
  · intro f hm acc
    simp! [at_app hr, fg_classes, len_cls, c_field f _ (hp.pf f hm), false_implies]
  · have e : p.par.filter (fun _ => false) = [] := by simp
    rw [e]
    simp! [give_f, eqB_lnil (l := []) rfl, List.isEmpty, hr, fg_params, fg_boxes, fg_room, c_whole, e2, e3]
theorem purRw {n : Nat} (w : Rw) : pur (n + 1) w.d = true := by cases w <;> simp [Rw.d, pur, purAll]
theorem eqB_rows {rows : List Rw} (h : 1 ≤ rows.length) : eqB st (.tup (rows.map Rw.d)) (.tup []) = some false := by
  rw [eqB_tnil (purAll_map (fun c => purRw c) _)]
  cases rows with
  | nil => simp at h
  | cons c l => rfl
theorem c_need_rows (hG : G.get "FORMS" = formsD) (hr : st[r]? = some (.ins "Looker" (lkF p))) (hp : p.Ok) : callN G U LIB (n + 4) "Looker.need_rows" [.ref r] st = .ok .non st := by
  refine pure_ok l_Looker_need_rows rfl rfl ?_
  dsimp only [f_Looker_need_rows, List.map_cons, List.map_nil, List.replicate_succ, List.replicate_zero, List.cons_append, List.nil_append, Nat.reduceSub]
  simp! [hr, fg_rows, eqB_rows hp.r1]
  refine wfor (fun i ρ s => st = s ∧ ∃ a b, ρ = [some (.ref r), a, b, none]) ⟨rfl, _, _, rfl⟩ ?_ ?_
  · rintro i d ρ _ hd ⟨rfl, a, b, rfl⟩
    rw [enumD_get, List.getElem?_map] at hd
    cases e : p.rows[i]? with
    | none => rw [e] at hd; cases hd
    | some w =>
      rw [e] at hd
      cases hd
      have hi := (List.getElem?_eq_some_iff.mp e).1
      have h6 := hp.r40
      have e6 : decide ((40 : Int) ≤ 0 + (i : Int)) = false := decide_eq_false (by omega)
      refine ⟨rfl, ?_⟩
      simp! [e6, hr, fg_m2, c_is_row hG hr w (hp.rw w (List.mem_of_getElem? e))]
      exact ⟨_, _, rfl⟩
  · rintro ρ _ ⟨rfl, a, b, rfl⟩
    refine ⟨rfl, ?_⟩
    simp! [hr, fg_handlers]
    refine wfor (fun i ρ s => st = s ∧ ∃ a b c, ρ = [some (.ref r), a, b, c]) ⟨rfl, _, _, _, rfl⟩ ?_ ?_
    · rintro i d ρ _ hd ⟨rfl, a, b, c, rfl⟩
      rw [enumD_get, List.getElem?_map] at hd
      cases e : p.hs[i]? with
      | none => rw [e] at hd; cases hd
      | some h =>
        rw [e] at hd
        cases hd
        have hi := (List.getElem?_eq_some_iff.mp e).1
        have h6 := hp.h4
        have e6 : decide ((4 : Int) ≤ 0 + (i : Int)) = false := decide_eq_false (by omega)
        obtain ⟨a1, a2, a3, a4⟩ := hp.hd h (List.mem_of_getElem? e)
        refine ⟨rfl, ?_⟩
        simp! [e6, hr, fg_m3, c_is_handler hr h a1 a2 a3 a4]
        exact ⟨_, _, _, rfl⟩
    · rintro ρ _ ⟨rfl, a, b, c, rfl⟩
      refine ⟨rfl, ?_⟩
      simp! []
theorem cut_len {v : D} {st0 st1 : Store} (h : st1.length ≤ st0.length) : cutR st0 (.ok v st1) = .ok v st1 := by simp [cutR, List.take_of_length_le h]
theorem sf1 {S : Store} {c : String} {fs : List (String × D)} {f : String} {d : D} (h : fs.length < 900) : setFld (S ++ [.ins c fs]) (.ref S.length) f d = some (S ++ [.ins c (fput fs f d)]) := by
  simp [setFld, h]
theorem c_looker : callN G U LIB (n + 1) "Looker.__init__" [.ref st.length, p.d] (st ++ [.ins "Looker" []]) = .ok .non (st ++ [.ins "Looker" (lkF p)]) := by
  refine WP.eq (wp_call l_Looker___init__ rfl ?_)
  dsimp only [f_Looker___init__, List.map_cons, List.map_nil, List.replicate_succ, List.replicate_zero, List.cons_append, List.nil_append, Nat.reduceSub]
  simp! [Pg.d, sf1 (show ([] : List (String × D)).length < 900 by decide), fput]
  rw [sf1 (by simp)]
  simp! [fput]
  rw [sf1 (by simp)]
  simp! [fput]
  rw [sf1 (by simp)]
  simp! [fput]
  rw [sf1 (by simp)]
  simp! [fput]
  rw [sf1 (by simp)]
  simp! [fput]
  rw [cut_len (by simp)]
  exact ⟨rfl, rfl⟩
theorem c_need_program (hG : G.get "FORMS" = formsD) (hp : p.Ok) : callN G U LIB (n + 5) "need_program" [p.d] st = .ok .non st := by
  refine pure_ok l_need_program rfl rfl ?_
  dsimp only [f_need_program, List.map_cons, List.map_nil, List.replicate_succ, List.replicate_zero, List.cons_append, List.nil_append, Nat.reduceSub]
  have hr : (st ++ [O.ins "Looker" (lkF p)])[st.length]? = some (.ins "Looker" (lkF p)) := get_last
  have e1 : biV G false .isTup [p.d] st = .ok (.bl true) st := rfl
  have e2 : biV G false .len [p.d] st = .ok (.int 6) st := rfl
  simp! [e1, e2, c_looker, hr, fg_m4, fg_m5, fg_m6, c_need_classes hr hp, c_need_sizes hr hp, c_need_rows hG hr hp]
theorem idx_p0 : idxV G st p.d (.int 0) = some (clsD p.cls) := idx_t0
theorem idx_p1 : idxV G st p.d (.int 1) = some (.tup (p.par.map Fl.d)) := idx_t1
theorem idx_p2 : idxV G st p.d (.int 2) = some (.int p.nb) := idx_t2
theorem idx_p3 : idxV G st p.d (.int 3) = some (.int p.room) := idx_t3
theorem idx_p4 : idxV G st p.d (.int 4) = some (.tup (p.rows.map Rw.d)) := idx_t4
theorem idx_p5 : idxV G st p.d (.int 5) = some (.tup (p.hs.map Hd.d)) := idx_t5
/-- a sort of a program -/
def So.Ok (p : Pg) : So → Prop
  | .of k => k < p.cls.length
  | .unb k => ∃ w, p.rows[k]? = some w ∧ w.isNew = true
  | _ => True
theorem So.Ok.ok {s : So} (h : s.Ok p) : s.ok p.cls := by cases s <;> first | exact h | trivial
theorem c_is_sort (s : So) (h : s.Ok p) : callN G U LIB (n + 2) "is_sort" [p.d, s.d] st = .ok (.bl true) st := by
  refine pure_ok l_is_sort rfl rfl ?_
  dsimp only [f_is_sort, List.map_cons, List.map_nil, List.replicate_succ, List.replicate_zero, List.cons_append, List.nil_append, Nat.reduceSub]
  have m1 : memB G st (.str "n") (.tup [.str "n", .str "none", .str "any", .str "unset"]) = some true := rfl
  have m2 : memB G st (.str "none") (.tup [.str "n", .str "none", .str "any", .str "unset"]) = some true := rfl
  have m3 : memB G st (.str "any") (.tup [.str "n", .str "none", .str "any", .str "unset"]) = some true := rfl
  have m4 : memB G st (.str "unset") (.tup [.str "n", .str "none", .str "any", .str "unset"]) = some true := rfl
  cases s
  case of k =>
    have h : k < p.cls.length := h
    have e : decide ((0 : Int) ≤ (k : Int) ∧ (k : Int) ≤ (p.cls.length : Int) - 1) = true := decide_eq_true ⟨by omega, by omega⟩
    simp! [So.d, List.length_cons, List.length_nil, Nat.reduceAdd, nc2, idx_p0, len_cls, c_whole, e]
  case unb k =>
    obtain ⟨w, h1, h2⟩ := h
    have hl := (List.getElem?_eq_some_iff.mp h1).1
    have e : decide ((0 : Int) ≤ (k : Int) ∧ (k : Int) ≤ (p.rows.length : Int) - 1) = true := decide_eq_true ⟨by omega, by omega⟩
    simp! [So.d, List.length_cons, List.length_nil, Nat.reduceAdd, nc2, idx_p4, c_whole, e, idx_rows h1, c_is_new, h2]
  all_goals simp! [So.d, m1, m2, m3, m4]
/-- a stand of a program -/
structure Stn.OK (p : Pg) (s : Stn) : Prop where
  lb : s.b.length = p.nb
  lp : s.p.length ≤ p.room
  ok : ∀ x ∈ s.b ++ s.p, x.Ok p
theorem Stn.OK.Ok {s : Stn} (h : s.OK p) (hp : p.Ok) : s.Ok p.cls := ⟨by have := h.lb; have := hp.nb; omega, by have := h.lp; have := hp.room; omega, fun x hx => (h.ok x hx).ok⟩
theorem c_is_stand (hp : p.Ok) (s : Stn) (h : s.OK p) : callN G U LIB (n + 3) "is_stand" [p.d, s.d] st = .ok (.bl true) st := by
  refine pure_ok l_is_stand rfl rfl ?_
  dsimp only [f_is_stand, List.map_cons, List.map_nil, List.replicate_succ, List.replicate_zero, List.cons_append, List.nil_append, Nat.reduceSub]
  have lb := h.lb
  have e1 : decide ((p.nb : Int) = (p.nb : Int)) = true := decide_eq_true rfl
  have e2 : decide ((p.room : Int) < (s.p.length : Int)) = false := decide_eq_false (by have := h.lp; omega)
  simp! [Stn.d, List.length_cons, List.length_nil, Nat.reduceAdd, nc2, idx_p2, idx_p3, lb, e2, add_tup (h.Ok hp).add]
  rw [← List.map_append]
  refine wpure So.d _ (fun _ => false) So.d ?_ (fun _ => rfl) ?_ (fun x _ h => by cases h) ?_
  · rw [List.length_append]
    have := (h.Ok hp).lb; have := (h.Ok hp).lp
    show _ ≤ 16777216
    omega
  · intro f hm acc
    simp! [c_is_sort f (h.ok f hm), false_implies]
  · have e : (s.b ++ s.p).filter (fun _ => false) = [] := by simp
    rw [e]
    simp! [give_f, eqB_lnil (l := []) rfl, List.isEmpty]
theorem c_need_stands (hG : G.get "FORMS" = formsD) (hp : p.Ok) (a b : Stn) (ha : a.OK p) (hb : b.OK p) : callN G U LIB (n + 6) "need_stands" [p.d, a.d, b.d] st = .ok .non st := by
  refine pure_ok l_need_stands rfl rfl ?_
  dsimp only [f_need_stands, List.map_cons, List.map_nil, List.replicate_succ, List.replicate_zero, List.cons_append, List.nil_append, Nat.reduceSub]
  simp! [c_need_program hG hp, c_is_stand hp a ha, c_is_stand hp b hb]
theorem Pg.Ok.cl (hp : p.Ok) : p.cls.length ≤ 1000 := by have := hp.c6; omega
theorem c_fits (hG : G.get "FORMS" = formsD) (hp : p.Ok) (a b : Stn) (ha : a.OK p) (hb : b.OK p) : callN G U LIB (n + 7) "fits" [p.d, a.d, b.d] st = .ok (.bl (a.fit p.cls b)) st := by
  refine pure_ok l_fits rfl rfl ?_
  dsimp only [f_fits, List.map_cons, List.map_nil, List.replicate_succ, List.replicate_zero, List.cons_append, List.nil_append, Nat.reduceSub]
  simp! [c_need_stands hG hp a b ha hb, idx_p0, c_stand_fits hp.wc hp.cl a b (ha.Ok hp) (hb.Ok hp)]
theorem below_opt {m : Nat} (o : Option Stn) : below m (optS o) = true := by
  cases o
  · rfl
  · exact below_stn _
theorem c_met (hG : G.get "FORMS" = formsD) (hp : p.Ok) (a b : Stn) (ha : a.OK p) (hb : b.OK p) : callN G U LIB (n + 7) "met" [p.d, a.d, b.d] st = .ok (optS (a.join p.cls b)) st := by
  refine pure_ok l_met rfl (below_opt _) ?_
  dsimp only [f_met, List.map_cons, List.map_nil, List.replicate_succ, List.replicate_zero, List.cons_append, List.nil_append, Nat.reduceSub]
  simp! [c_need_stands hG hp a b ha hb, idx_p0, c_stands_joined hp.wc hp.cl a b (ha.Ok hp) (hb.Ok hp)]
end
end MP

set_option linter.all false
set_option maxRecDepth 100000
set_option maxHeartbeats 4000000
/-! The draws of a law. -/
namespace MP
open MG
local macro_rules
  | `(tactic| simp! [$a,*]) => `(tactic| simp -dsimp only [wpE_var, wpE_k, wpE_nil, wpE_cons, wpE_lst, wpE_op1, wpE_op2, wpE_and, wpE_or, wpE_ite, wpE_chain, wpE_slc, wpE_rev, wpE_bi, wpE_bm, wpE_call, wpE_meth, wpE_make, wpE_fld, wpE_comp, wpE_rng, wpE_rrng, wpE_enum, wpE_zip, wpE_dict, wpE_frz, asgW_var, asgW_fld, asgW_op2, asgW_nil, asgW_cons, wsS_skip, wsS_seq, wsS_ex, wsS_asg, wsS_ret, wsS_ife, wsS_for, wsS_while, wsS_raise, wsS_try0, wsS_try1, wsS_cont, getE_0, getE_s, putW_0, putW_s, getW_some, WP_ok, WP_err, tupW_tup, blW_t, blW_f, nonW_non, lstW_some, iterW_some, iter_tup, iter_lst, partW_some, part_n, part_v, part_i, part_2, part_b, insW_some, refW_ref, ints2W_int, stoW_some, envW_var, envW_cons, envW_nil, prsW_some, okW_t, fitsT_var, fitsT_fld, fitsT_op2, fitsT_2, fitsT_3, fitsT_6, unp_var, unp_fld, unp_op2, unp_tup, unp_lst, List.map_cons, List.map_nil, List.cons_append, List.nil_append, wipe_nil, wipe_cons, List.set_cons_succ, List.set_cons_zero, isInt_tup, isInt_lst, isInt_int, isInt_str, isInt_bl, isInt_non, isInt_scr, isBool_tup, isBool_lst, isBool_int, isBool_str, isBool_bl, isBool_non, isBool_scr, isStr_tup, isStr_lst, isStr_int, isStr_str, isStr_bl, isStr_non, isStr_scr, isTup_tup, isTup_lst, isTup_int, isTup_str, isTup_bl, isTup_non, isTup_scr, isLst_tup, isLst_lst, isLst_int, isLst_str, isLst_bl, isLst_non, isLst_scr, isTL_tup, isTL_lst, isTL_int, isTL_str, isTL_bl, isTL_non, isTL_scr, isN_tup, notN_tup, isN_lst, notN_lst, isN_int, notN_int, isN_str, notN_str, isN_bl, notN_bl, isN_non, notN_non, isN_scr, notN_scr, isN_ref, notN_ref, not_bl, neg_int, len_tup, List.length_map, len_lst, len_scr, pur_int, pur_str, pur_bl, pur_non, pur_tup, pur_lst, purAll_nil, purAll_cons, op2_idx, op2_add, op2_sub, add_int, add_lst, add_tup, List.length_cons, List.length_nil, Nat.reduceAdd, Nat.zero_add, Nat.add_zero, nc0, nc1, nc2, nc3, nc4, nc5, nc6, nc7, nc8, nc9, Int.reduceLT, Int.reduceEq, Int.reduceMod, Int.reduceAdd, Int.reduceSub, op2_eq, op2_ne, op2_lt, op2_le, op2_gt, op2_ge, op2_in, op2_nin, okB_some, id_eq, decide_true, decide_false, decide_not, String.reduceEq, reduceCtorEq, String.reduceAppend, Option.isNone_none, eq_self, bi_tuple, idx_l0, idx_l1, idx_l2, idx_l3, idx_t0, idx_t1, idx_t2, idx_t3, idx_t4, idx_t5, eqB_str, eqB_int, eqB_is, eqB_si, Bool.and_self, eqB_ts, eqB_st, ext_rfl, ext_app, ext_app2, tup_tup, tup_lst, eqB_non, Bool.false_eq_true, if_false, if_true, Bool.not_true, Bool.not_false, and_true, true_and, implies_true, forall_const, $a,*])
/-- the row of draws: script, place, state, rest -/
structure Rng where
  ns : List Int
  a : Nat
  b : Int
  c : Int
def rowO (s : Rng) : O := .lst [.scr s.ns, .int s.a, .int s.b, .int s.c]
def drw (s : Rng) (m : Int) : Int × Rng :=
  if 0 < s.c then (s.c % m, ⟨s.ns, s.a, s.b, s.c / m⟩)
  else if s.ns.length < s.a + 1 then ((s.b * 48271 + 11) % 2147483647 / 7 % m, ⟨s.ns, s.a + 1, (s.b * 48271 + 11) % 2147483647, s.c⟩)
  else (s.ns.getD s.a 0 % m, ⟨s.ns, s.a + 1, (s.b * 48271 + s.ns.getD s.a 0 + 11) % 2147483647, if 1000000000000000000 ≤ s.ns.getD s.a 0 then s.ns.getD s.a 0 / m else s.c⟩)
def dk (s : Rng) (m : Int) : Nat := (drw s m).1.toNat
def dn (s : Rng) (m : Int) : Rng := (drw s m).2
theorem drw_nn (s : Rng) {m : Int} (h : 0 < m) : 0 ≤ (drw s m).1 ∧ (drw s m).1 < m := by
  have q : ∀ i : Int, 0 ≤ i % m ∧ i % m < m := fun i => ⟨Int.emod_nonneg _ (by omega), Int.emod_lt_of_pos _ h⟩
  unfold drw
  split
  · exact q _
  · split
    · exact q _
    · exact q _
theorem dk_lt (s : Rng) {m : Int} (h : 0 < m) : (dk s m : Int) < m := by
  unfold dk
  have := drw_nn s h
  omega
theorem dk_ltn (s : Rng) {m : Nat} (h : 0 < m) : dk s m < m := by
  have := dk_lt s (m := m) (by omega)
  omega
section
variable {G : GD} {U : Up} {n : Nat} {st tl : Store} {s : Rng}
theorem row_0 : idxV G (rowO s :: tl) (.ref 0) (.int 0) = some (.scr s.ns) := id rfl
theorem row_1 : idxV G (rowO s :: tl) (.ref 0) (.int 1) = some (.int s.a) := id rfl
theorem row_2 : idxV G (rowO s :: tl) (.ref 0) (.int 2) = some (.int s.b) := id rfl
theorem row_3 : idxV G (rowO s :: tl) (.ref 0) (.int 3) = some (.int s.c) := id rfl
theorem row_s1 {z : Nat} : setIdx G (rowO s :: tl) (.ref 0) (.int 1) (.int ((z : Int) + 1)) = some (rowO ⟨s.ns, z + 1, s.b, s.c⟩ :: tl) := id rfl
theorem row_s2 {z : Int} : setIdx G (rowO s :: tl) (.ref 0) (.int 2) (.int z) = some (rowO ⟨s.ns, s.a, z, s.c⟩ :: tl) := id rfl
theorem row_s3 {z : Int} : setIdx G (rowO s :: tl) (.ref 0) (.int 3) (.int z) = some (rowO ⟨s.ns, s.a, s.b, z⟩ :: tl) := id rfl
theorem pw18 : op2V G false .pow (.int 10) (.int 18) st = .ok (.int 1000000000000000000) st := id rfl
theorem c_taken (m : Int) (h0 : 0 < m) (h1 : m < 1073741824) : callN G U LIB (n + 1) "_law_taken" [.ref 0, .int m] (rowO s :: tl) = .ok (.int (dk s m)) (rowO (dn s m) :: tl) := by
  have fin : ∀ (i : Int) (s' : Rng), drw s m = (i, s') → WP (cutR (rowO s :: tl) (.ok (.int i) (rowO s' :: tl))) (fun d st => d = .int (dk s m) ∧ st = rowO (dn s m) :: tl) fun _ _ => False := by
    intro i s' e
    rw [cut_len (by simp)]
    have h := drw_nn s h0
    unfold dk dn
    rw [e] at h ⊢
    have h : 0 ≤ i := h.1
    refine ⟨?_, rfl⟩
    congr 1
    show i = ((i.toNat : Nat) : Int)
    omega
  refine WP.eq (wp_call l__law_taken rfl ?_)
  dsimp only [f__law_taken, List.map_cons, List.map_nil, List.replicate_succ, List.replicate_zero, List.cons_append, List.nil_append, Nat.reduceSub]
  by_cases hc : 0 < s.c
  · simp! [row_3, hc, op2_md h0, op2_fdiv ⟨h0, h1⟩, row_s3]
    refine fin _ _ ?_
    unfold drw
    rw [if_pos hc]
  · by_cases hl : s.ns.length < s.a + 1
    · have hl' : ((s.ns.length : Nat) : Int) < (s.a : Int) + 1 := by omega
      simp! [row_0, row_1, row_2, row_3, hc, row_s1, hl', Int.natCast_add, nc1, op2_mulr (show (-18446744073709551616 : Int) < 48271 ∧ (48271 : Int) < 18446744073709551616 by decide), op2_md (show (0 : Int) < 2147483647 by decide), row_s2, op2_fdiv (show (0 : Int) < 7 ∧ (7 : Int) < 1073741824 by decide), op2_md h0]
      refine fin _ _ ?_
      unfold drw
      rw [if_neg hc, if_pos hl]
    · have hl' : ¬ ((s.ns.length : Nat) : Int) < (s.a : Int) + 1 := by omega
      have ha : s.a < s.ns.length := by omega
      have cell : ∀ st : Store, idxV G st (.scr s.ns) (.int ((s.a : Int) + 1 - 1)) = some (.int (s.ns.getD s.a 0)) := by
        intro st
        have e3 : (s.a : Int) + 1 - 1 = (s.a : Int) := by omega
        rw [e3]
        simp [idxV, place, ha]
      by_cases hg : (1000000000000000000 : Int) ≤ s.ns.getD s.a 0
      · simp! [row_0, row_1, row_2, row_3, hc, row_s1, hl', Int.natCast_add, nc1, cell, op2_mulr (show (-18446744073709551616 : Int) < 48271 ∧ (48271 : Int) < 18446744073709551616 by decide), op2_md (show (0 : Int) < 2147483647 by decide), row_s2, pw18, hg, op2_fdiv ⟨h0, h1⟩, row_s3, op2_md h0]
        refine fin _ _ ?_
        unfold drw
        rw [if_neg hc, if_neg hl, if_pos hg]
      · simp! [row_0, row_1, row_2, row_3, hc, row_s1, hl', Int.natCast_add, nc1, cell, op2_mulr (show (-18446744073709551616 : Int) < 48271 ∧ (48271 : Int) < 18446744073709551616 by decide), op2_md (show (0 : Int) < 2147483647 by decide), row_s2, pw18, hg, op2_fdiv ⟨h0, h1⟩, row_s3, op2_md h0]
        refine fin _ _ ?_
        unfold drw
        rw [if_neg hc, if_neg hl, if_neg hg]
theorem belowO_row {m : Nat} : belowO m (rowO s) = true := id rfl
theorem cut_row {s' : Rng} {v : D} {g : Store} (h : below (tl.length + 1) v = true) : cutR (rowO s :: tl) (.ok v (rowO s' :: (tl ++ g))) = .ok v (rowO s' :: tl) := by
  have e : keptB (tl.length + 1) (rowO s :: tl) (rowO s' :: (tl ++ g)) = true := kept_hd g belowO_row
  simp only [cutR, List.length_cons, h, e, Bool.and_self, if_true]
  simp
theorem cut_row0 {s' : Rng} {v : D} : cutR (rowO s :: tl) (.ok v (rowO s' :: tl)) = .ok v (rowO s' :: tl) := cut_len (by simp)
/-! ### lists made with draws -/
theorem wdraw {call : Call} {ρ : Env} {vs : List Nat} {t cond elt : C} {Q : QD} {E : QE} {items : List D} (I : Nat → List D → Prop) (h0 : I 0 []) (hl : items.length ≤ LIM)
      (step : ∀ i d acc s, items[i]? = some d → I i acc → envW (bindT t d (wipe ρ vs)) fun ρ1 => wpE G call cond ρ1 (rowO s :: (tl ++ [.lst acc])) (fun x st3 => blW x
        (wpE G call elt ρ1 st3 (fun e st4 => ∃ s', st4 = rowO s' :: (tl ++ [.lst acc]) ∧ I (i + 1) (acc ++ [e])) fun _ _ => False) (∃ s', st3 = rowO s' :: (tl ++ [.lst acc]) ∧ I (i + 1) acc)) fun _ _ => False)
      (done : ∀ acc s', I items.length acc → belowAll (tl.length + 1) acc = true ∧ Q (.lst acc) (rowO s' :: tl)) :
    WComp G call false vs t cond elt ρ items none (rowO s :: tl) Q E := by
  refine wcomp (fun i acc st2 => (∃ s', st2 = rowO s' :: tl) ∧ acc.length ≤ i ∧ I i acc) ⟨⟨s, rfl⟩, Nat.le_refl _, h0⟩ (fun _ _ _ h => by obtain ⟨⟨s', rfl⟩, _⟩ := h; simp) ?_ ?_
  · rintro i d acc _ hd ⟨⟨s', rfl⟩, hac, hI⟩
    have hi := (List.getElem?_eq_some_iff.mp hd).1
    refine ⟨rfl, by omega, ?_⟩
    have h := step i d acc s' hd hI
    obtain ⟨ρ1, e, h⟩ := envW_of h
    rw [e]
    show wpE _ _ _ _ _ _ _
    refine wpure.wpE_mono _ _ _ _ _ _ _ h (fun x st3 h3 => ?_) fun _ _ h => h
    rcases blW_of h3 with ⟨rfl, h3⟩ | ⟨rfl, h3⟩
    · refine wpure.wpE_mono _ _ _ _ _ _ _ h3 (fun e st4 ⟨s2, e2, h4⟩ => ⟨rowO s2 :: tl, e2, ⟨s2, rfl⟩, ?_, h4⟩) fun _ _ h => h
      rw [List.length_append]; simp; omega
    · obtain ⟨s2, e2, h4⟩ := h3
      exact ⟨rowO s2 :: tl, e2, ⟨s2, rfl⟩, by omega, h4⟩
  · rintro acc _ ⟨⟨s', rfl⟩, _, hI⟩
    obtain ⟨h1, h2⟩ := done acc s' hI
    refine ⟨rfl, ?_, h1, h2⟩
    have := kept_hd (n := tl.length + 1) (o := rowO s) (p := rowO s') (tl := tl) [] belowO_row
    rwa [List.append_nil] at this
/-- as many as there are items, each such -/
theorem wdraw_each {α : Type} {call : Call} {ρ : Env} {vs : List Nat} {t elt : C} {Q : QD} {E : QE} {items : List D} (enc : α → D) (Pr : α → Prop) (hl : items.length ≤ LIM) (hb : ∀ x, below (tl.length + 1) (enc x) = true)
      (step : ∀ (i : Nat) d acc s, items[i]? = some d → envW (bindT t d (wipe ρ vs)) fun ρ1 => wpE G call elt ρ1 (rowO s :: (tl ++ [.lst acc])) (fun e st4 => ∃ x s', e = enc x ∧ Pr x ∧ st4 = rowO s' :: (tl ++ [.lst acc])) fun _ _ => False)
      (done : ∀ (xs : List α) s', xs.length = items.length → (∀ x ∈ xs, Pr x) → Q (.lst (xs.map enc)) (rowO s' :: tl)) :
    WComp G call false vs t (.k (.bl true)) elt ρ items none (rowO s :: tl) Q E := by
  refine wdraw (fun i acc => ∃ xs : List α, acc = xs.map enc ∧ xs.length = i ∧ ∀ x ∈ xs, Pr x) ⟨[], rfl, rfl, fun _ h => by cases h⟩ hl ?_ ?_
  · rintro i d acc s' hd ⟨xs, rfl, rfl, hx⟩
    have h := step xs.length d (xs.map enc) s' hd
    obtain ⟨ρ1, e, h⟩ := envW_of h
    rw [e]
    show wpE _ _ _ _ _ _ _
    simp! []
    refine wpure.wpE_mono _ _ _ _ _ _ _ h (fun x st3 ⟨x, s2, e1, h2, h3⟩ => ⟨s2, h3, xs ++ [x], by simp [e1], by simp, ?_⟩) fun _ _ h => h
    intro y hy
    rcases List.mem_append.mp hy with hy | hy
    · exact hx y hy
    · simp at hy; subst hy; exact h2
  · rintro acc s' ⟨xs, rfl, hlen, hx⟩
    exact ⟨belowAll_map hb xs, done xs s' hlen hx⟩
theorem WP.use {r : Res D} {Q Q' : QD} {E : QE} (h : WP r Q fun _ _ => False) (q : ∀ d st, Q d st → Q' d st) : WP r Q' E := h.mono q fun _ _ h => h.elim
/-- an item of a written list -/
theorem idx_ex {l : List D} {i : Nat} (Pr : D → Prop) (hi : i < l.length) (h : ∀ e ∈ l, Pr e) : ∃ e, idxV G st (.lst l) (.int i) = some e ∧ Pr e := by
  rw [idx_ln, List.getElem?_eq_getElem hi]
  exact ⟨_, rfl, h _ (List.getElem_mem hi)⟩
/-! ### the last list of the store -/
theorem app_last {own : Bool} {o : O} {l : List D} {y : D} (h : l.length < LIM) : biV G own .append [.ref (tl.length + 1), y] (o :: (tl ++ [.lst l])) = .ok .non (o :: (tl ++ [.lst (l ++ [y])])) := by
  have e : (o :: (tl ++ [O.lst l]))[tl.length + 1]? = some (.lst l) := by rw [List.getElem?_cons_succ, get_last]
  have e2 : ∀ x st, biV G own .append [x, y] st = objL st x fun r ds => if ds.length < LIM then .ok .non (st.set r (.lst (ds ++ [y]))) else .bad := fun _ _ => rfl
  rw [e2]
  simp only [objL, e, h, if_true]
  rw [List.set_cons_succ, set_last]
theorem recv_last {o : O} {l : List D} : recv .append (o :: (tl ++ [.lst l])) (.ref (tl.length + 1)) = true := by
  have e : (o :: (tl ++ [O.lst l]))[tl.length + 1]? = some (.lst l) := by rw [List.getElem?_cons_succ, get_last]
  simp [recv, lstOf, e]
theorem tup_last {o : O} {l : List D} : toTuple (o :: (tl ++ [.lst l])) (.ref (tl.length + 1)) = .ok (.tup l) (o :: (tl ++ [.lst l])) := by
  have e : (o :: (tl ++ [O.lst l]))[tl.length + 1]? = some (.lst l) := by rw [List.getElem?_cons_succ, get_last]
  simp [toTuple, onL, lstOf, e]
/-! ### classes -/
/-- classes that can be -/
structure ClsOk (cs : List Kl) : Prop where
  wc : WC cs
  c1 : 1 ≤ cs.length
  c6 : cs.length ≤ 6
  fl : ∀ c ∈ cs, c.flds.length ≤ 3 ∧ ∀ f ∈ c.flds, f.ok cs.length
theorem below_kl {m : Nat} (c : Kl) : below m c.d = true := by
  cases h : c.par <;> simp [Kl.d, h, optD, below, belowAll, belowAll_map below_fl]
theorem below_cls {m : Nat} (cs : List Kl) : below m (clsD cs) = true := by
  simp only [clsD, below]
  exact belowAll_map below_kl _
/-- "n", or a class -/
theorem fl_pick {k m : Nat} (h : k < m) : ∀ e ∈ [D.str "n", D.int k], ∃ f : Fl, e = f.d ∧ f.ok m := by
  intro e he
  simp at he
  rcases he with rfl | rfl
  · exact ⟨.num, rfl, trivial⟩
  · exact ⟨.of k, rfl, h⟩
theorem rg_len (m : Nat) : (rangeD 0 ((m : Int) - 0).toNat).length = m := by
  rw [range_map (n := m) rfl]; simp
theorem rg_get {m i : Nat} {d : D} (h : (rangeD 0 ((m : Int) - 0).toNat)[i]? = some d) : d = .int i ∧ i < m := by
  have hi := (List.getElem?_eq_some_iff.mp h).1
  rw [rg_len] at hi
  rw [range_map (n := m) rfl] at h
  simp [hi] at h
  exact ⟨h.symm, hi⟩
theorem g_classes : WP (callN G U LIB (n + 2) "_law_classes" [.ref 0] (rowO s :: tl)) (fun v st' => ∃ cs s', v = clsD cs ∧ st' = rowO s' :: tl ∧ ClsOk cs) fun _ _ => False := by
  refine wp_call l__law_classes rfl ?_
  dsimp only [f__law_classes, List.map_cons, List.map_nil, List.replicate_succ, List.replicate_zero, List.cons_append, List.nil_append, Nat.reduceSub]
  have t6 := dk_lt s (m := 6) (by decide)
  have t4 := dk_lt (dn s 6) (m := 4) (by decide)
  obtain ⟨e, he, m, rfl, hm1, hm6⟩ := idx_ex (G := G) (st := rowO (dn (dn s 6) 4) :: tl) (l := [.int 1, .int 2, .int 3, .int (1 + (dk s 6 : Int))]) (i := dk (dn s 6) 4) (fun e => ∃ m : Nat, e = .int m ∧ 1 ≤ m ∧ m ≤ 6) (by simp; omega) (by
    intro e he
    simp at he
    rcases he with rfl | rfl | rfl | rfl
    · exact ⟨1, rfl, by omega, by omega⟩
    · exact ⟨2, rfl, by omega, by omega⟩
    · exact ⟨3, rfl, by omega, by omega⟩
    · exact ⟨1 + dk s 6, by simp, by omega, by omega⟩)
  have r0 := rgok 0 m (by omega)
  simp! [c_taken, Int.reduceLT, give_f, he, give_t, List.length_cons, r0]
  refine wfor (fun i ρ st => ∃ s' cs a b c d, ρ = [some (.ref 0), some (.int m), some (.ref (tl.length + 1)), a, b, c, d] ∧ st = rowO s' :: (tl ++ [.lst (cs.map Kl.d)]) ∧ cs.length = i ∧ WC cs ∧ ∀ c ∈ cs, c.flds.length ≤ 3 ∧ ∀ f ∈ c.flds, f.ok m) ⟨_, [], _, _, _, _, rfl, rfl, rfl, fun i c h => by simp at h, fun _ h => by cases h⟩ ?_ ?_
  · rintro i x ρ _ hd ⟨s', cs, a, b, c, d, rfl, rfl, rfl, wc, hf⟩
    obtain ⟨rfl, him⟩ := rg_get hd
    refine ⟨rfl, ?_⟩
    have t2 := dk_lt s' (m := 2) (by decide)
    obtain ⟨e, he, q, rfl, hq0, hq4⟩ := idx_ex (G := G) (st := rowO (dn s' 2) :: (tl ++ [.lst (cs.map Kl.d)])) (l := [.int 2, .int 4]) (i := dk s' 2) (fun e => ∃ q : Int, e = .int q ∧ 0 < q ∧ q ≤ 4) (by simp; omega) (by
      intro e he
      simp at he
      rcases he with rfl | rfl
      · exact ⟨2, rfl, by decide, by decide⟩
      · exact ⟨4, rfl, by decide, by decide⟩)
    have hq1 : q < 1073741824 := by omega
    have tq := dk_lt (dn s' 2) hq0
    have r1 := rgok 0 (dk (dn s' 2) q) (by omega)
    simp! [c_taken, Int.reduceLT, give_f, he, hq0, hq1, r1]
    refine wdraw_each Fl.d (Fl.ok m) (by rw [rg_len]; show _ ≤ 16777216; omega) (fun x => below_fl x) ?_ ?_
    · intro j x acc s2 _
      have hm0 : (0 : Int) < m := by omega
      have hm1 : (m : Int) < 1073741824 := by omega
      have u2 := dk_lt (dn s2 m) (m := 2) (by decide)
      obtain ⟨e, he, f, rfl, hf⟩ := idx_ex (G := G) (st := rowO (dn (dn s2 m) 2) :: (tl ++ [.lst (cs.map Kl.d)] ++ [.lst acc])) (l := [.str "n", .int (dk s2 m)]) (i := dk (dn s2 m) 2) (fun e => ∃ f : Fl, e = f.d ∧ f.ok m) (by simp; omega) (fl_pick (by have := dk_lt s2 hm0; omega))
      simp! [c_taken, Int.reduceLT, give_f, hm0, hm1, he]
      exact ⟨f, _, rfl, hf, rfl⟩
    · intro xs s2 hxl hxs
      rw [rg_len] at hxl
      have hlen : (cs.map Kl.d).length < LIM := by rw [List.length_map]; show _ < 16777216; omega
      by_cases hi0 : cs.length = 0
      · have hc : cs = [] := List.length_eq_zero_iff.mp hi0
        subst hc
        simp! [List.length_nil, nc0, Int.reduceLT, recv_last, app_last (l := []) (show ([] : List D).length < LIM by decide)]
        refine ⟨s2, [⟨none, xs⟩], _, _, _, _, rfl, rfl, rfl, ?_, ?_⟩
        · intro i c h
          cases i with
          | zero => simp at h; subst h; rfl
          | succ i => simp at h
        · intro c hc
          simp at hc
          subst hc
          exact ⟨by show xs.length ≤ 3; omega, hxs⟩
      · have hc0 : (0 : Int) < cs.length := by omega
        have hc1 : (cs.length : Int) < 1073741824 := by omega
        have tk := dk_lt s2 hc0
        simp! [hc0, hc1, c_taken, recv_last, app_last hlen]
        refine ⟨dn s2 cs.length, cs ++ [⟨some (dk s2 cs.length), xs⟩], _, _, _, _, rfl, by simp [Kl.d, optD], by simp, ?_, ?_⟩
        · intro i c h
          by_cases hi : i < cs.length
          · rw [List.getElem?_append_left hi] at h
            exact wc i c h
          · rw [List.getElem?_append_right (by omega)] at h
            have : i - cs.length = 0 := by
              have := (List.getElem?_eq_some_iff.mp h).1
              simp at this
              omega
            rw [this] at h
            simp at h
            subst h
            show dk s2 cs.length < i
            omega
        · intro c hc
          rcases List.mem_append.mp hc with hc | hc
          · exact hf c hc
          · simp at hc
            subst hc
            exact ⟨by show xs.length ≤ 3; omega, hxs⟩
  · rintro ρ _ ⟨s', cs, a, b, c, d, rfl, rfl, hlen, wc, hf⟩
    rw [rg_len] at hlen
    refine ⟨rfl, ?_⟩
    simp! [tup_last]
    rw [cut_row (by exact below_cls cs)]
    exact ⟨cs, s', rfl, rfl, wc, by omega, by omega, by rw [hlen]; exact hf⟩
end
end MP

set_option linter.all false
set_option maxRecDepth 100000
set_option maxHeartbeats 4000000
/-! The maker of programs: its state, rows that put a worth. -/
namespace MP
open MG
local macro_rules
  | `(tactic| simp! [$a,*]) => `(tactic| simp -dsimp only [wpE_var, wpE_k, wpE_nil, wpE_cons, wpE_lst, wpE_op1, wpE_op2, wpE_and, wpE_or, wpE_ite, wpE_chain, wpE_slc, wpE_rev, wpE_bi, wpE_bm, wpE_call, wpE_meth, wpE_make, wpE_fld, wpE_comp, wpE_rng, wpE_rrng, wpE_enum, wpE_zip, wpE_dict, wpE_frz, asgW_var, asgW_fld, asgW_op2, asgW_nil, asgW_cons, wsS_skip, wsS_seq, wsS_ex, wsS_asg, wsS_ret, wsS_ife, wsS_for, wsS_while, wsS_raise, wsS_try0, wsS_try1, wsS_cont, getE_0, getE_s, putW_0, putW_s, getW_some, WP_ok, WP_err, tupW_tup, blW_t, blW_f, nonW_non, lstW_some, iterW_some, iter_tup, iter_lst, partW_some, part_n, part_v, part_i, part_2, part_b, insW_some, refW_ref, ints2W_int, stoW_some, envW_var, envW_cons, envW_nil, prsW_some, okW_t, fitsT_var, fitsT_fld, fitsT_op2, fitsT_2, fitsT_3, fitsT_6, unp_var, unp_fld, unp_op2, unp_tup, unp_lst, List.map_cons, List.map_nil, List.cons_append, List.nil_append, wipe_nil, wipe_cons, List.set_cons_succ, List.set_cons_zero, isInt_tup, isInt_lst, isInt_int, isInt_str, isInt_bl, isInt_non, isInt_scr, isBool_tup, isBool_lst, isBool_int, isBool_str, isBool_bl, isBool_non, isBool_scr, isStr_tup, isStr_lst, isStr_int, isStr_str, isStr_bl, isStr_non, isStr_scr, isTup_tup, isTup_lst, isTup_int, isTup_str, isTup_bl, isTup_non, isTup_scr, isLst_tup, isLst_lst, isLst_int, isLst_str, isLst_bl, isLst_non, isLst_scr, isTL_tup, isTL_lst, isTL_int, isTL_str, isTL_bl, isTL_non, isTL_scr, isN_tup, notN_tup, isN_lst, notN_lst, isN_int, notN_int, isN_str, notN_str, isN_bl, notN_bl, isN_non, notN_non, isN_scr, notN_scr, isN_ref, notN_ref, not_bl, neg_int, len_tup, List.length_map, len_lst, len_scr, pur_int, pur_str, pur_bl, pur_non, pur_tup, pur_lst, purAll_nil, purAll_cons, op2_idx, op2_add, op2_sub, add_int, add_lst, add_tup, List.length_cons, List.length_nil, Nat.reduceAdd, Nat.zero_add, Nat.add_zero, nc0, nc1, nc2, nc3, nc4, nc5, nc6, nc7, nc8, nc9, Int.reduceLT, Int.reduceEq, Int.reduceMod, Int.reduceAdd, Int.reduceSub, op2_eq, op2_ne, op2_lt, op2_le, op2_gt, op2_ge, op2_in, op2_nin, okB_some, id_eq, decide_true, decide_false, decide_not, String.reduceEq, reduceCtorEq, String.reduceAppend, Option.isNone_none, eq_self, bi_tuple, idx_l0, idx_l1, idx_l2, idx_l3, idx_t0, idx_t1, idx_t2, idx_t3, idx_t4, idx_t5, eqB_str, eqB_int, eqB_is, eqB_si, Bool.and_self, eqB_ts, eqB_st, ext_rfl, ext_app, ext_app2, tup_tup, tup_lst, eqB_non, Bool.false_eq_true, if_false, if_true, Bool.not_true, Bool.not_false, and_true, true_and, implies_true, forall_const, $a,*])
/-- a box's kind -/
def kD : Option Fl → D
  | none => .non
  | some f => f.d
def pD (A : Nat) (cs : List Kl) (left : Int) : List (D × D) := [(.str "classes", clsD cs), (.str "b", .ref (A + 1)), (.str "handlers", .ref (A + 2)), (.str "left", .int left)]
/-- the store of the maker: the draws, what stood there, the dict, the boxes' kinds, the handlers, what stands behind -/
def pst (tl : Store) (s : Rng) (cs : List Kl) (bs hs : List D) (left : Int) (ext : Store) : Store := rowO s :: (tl ++ ([.dK (pD (tl.length + 1) cs left), .lst bs, .lst hs] ++ ext))
theorem kept_app (n : Nat) : ∀ {a a' : Store} (b b' : Store), keptB n a a' = true → a.length = a'.length → keptB n b b' = true → keptB n (a ++ b) (a' ++ b') = true
  | [], a', b, b', _, hl, h => by
    cases a' with
    | nil => exact h
    | cons _ _ => simp at hl
  | o :: a, [], b, b', h, hl, _ => by simp at hl
  | o :: a, p :: a', b, b', h, hl, h2 => by
    simp only [List.cons_append, keptB, Bool.and_eq_true] at h ⊢
    exact ⟨h.1, kept_app n b b' h.2 (by simpa using hl) h2⟩
section
variable {G : GD} {U : Up} {n : Nat} {tl : Store} {s : Rng} {cs : List Kl} {bs hs : List D} {left : Int} {ext : Store} {own : Bool}
theorem pst_len : (pst tl s cs bs hs left ext).length = tl.length + 4 + ext.length := by simp [pst]; omega
theorem pst_app {g : Store} : pst tl s cs bs hs left ext ++ g = pst tl s cs bs hs left (ext ++ g) := by simp [pst]
theorem pst_0 : (pst tl s cs bs hs left ext)[tl.length + 1]? = some (.dK (pD (tl.length + 1) cs left)) := by
  simp [pst]
theorem pst_1 : (pst tl s cs bs hs left ext)[tl.length + 2]? = some (.lst bs) := by
  have e : tl.length + 2 = (tl.length + 1) + 1 := rfl
  rw [e]
  simp only [pst, List.getElem?_cons_succ]
  rw [List.getElem?_append_right (by omega)]
  simp
theorem pst_2 : (pst tl s cs bs hs left ext)[tl.length + 3]? = some (.lst hs) := by
  have e : tl.length + 3 = (tl.length + 2) + 1 := rfl
  rw [e]
  simp only [pst, List.getElem?_cons_succ]
  rw [List.getElem?_append_right (by omega)]
  simp
theorem pst_s0 {z : Int} : (pst tl s cs bs hs left ext).set (tl.length + 1) (.dK (pD (tl.length + 1) cs z)) = pst tl s cs bs hs z ext := by
  simp [pst]
theorem pst_s1 {bs' : List D} : (pst tl s cs bs hs left ext).set (tl.length + 2) (.lst bs') = pst tl s cs bs' hs left ext := by
  have e : tl.length + 2 = (tl.length + 1) + 1 := rfl
  rw [e]
  simp only [pst, List.set_cons_succ]
  rw [List.set_append_right _ _ (by omega)]
  simp
theorem pst_s2 {hs' : List D} : (pst tl s cs bs hs left ext).set (tl.length + 3) (.lst hs') = pst tl s cs bs hs' left ext := by
  have e : tl.length + 3 = (tl.length + 2) + 1 := rfl
  rw [e]
  simp only [pst, List.set_cons_succ]
  rw [List.set_append_right _ _ (by omega)]
  simp
theorem p_cls : idxV G (pst tl s cs bs hs left ext) (.ref (tl.length + 1)) (.str "classes") = some (clsD cs) := by
  simp only [idxV, dictAt, pst_0, keyK, if_true]; rfl
theorem p_b : idxV G (pst tl s cs bs hs left ext) (.ref (tl.length + 1)) (.str "b") = some (.ref (tl.length + 2)) := by
  simp only [idxV, dictAt, pst_0, keyK, if_true]; rfl
theorem p_h : idxV G (pst tl s cs bs hs left ext) (.ref (tl.length + 1)) (.str "handlers") = some (.ref (tl.length + 3)) := by
  simp only [idxV, dictAt, pst_0, keyK, if_true]; rfl
theorem p_left : idxV G (pst tl s cs bs hs left ext) (.ref (tl.length + 1)) (.str "left") = some (.int left) := by
  simp only [idxV, dictAt, pst_0, keyK, if_true]; rfl
theorem p_setl {z : Int} : setIdx G (pst tl s cs bs hs left ext) (.ref (tl.length + 1)) (.str "left") (.int z) = some (pst tl s cs bs hs z ext) := by
  simp only [setIdx, pst_0, keyK, Bool.true_and]
  have e : decide ((pD (tl.length + 1) cs left).length < 100000) = true := rfl
  have e2 : dput (pD (tl.length + 1) cs left) (.str "left") (.int z) = pD (tl.length + 1) cs z := rfl
  rw [if_pos e, e2, pst_s0]
theorem p_lenb : biV G own .len [.ref (tl.length + 2)] (pst tl s cs bs hs left ext) = .ok (.int bs.length) (pst tl s cs bs hs left ext) := by
  have e : ∀ x st, biV G own .len [x] st = okB st (fun n : Nat => .int n) (lenV st x) := fun _ _ => rfl
  rw [e]
  simp only [lenV, pst_1]
  rfl
theorem p_getb {i : Nat} : idxV G (pst tl s cs bs hs left ext) (.ref (tl.length + 2)) (.int i) = bs[i]? := by
  simp only [idxV, pst_1]
  by_cases h : i < bs.length
  · simp [itemAt, place, h]
  · simp [itemAt, place, h]
theorem p_setb {i : Nat} {d : D} (h : i < bs.length) : setIdx G (pst tl s cs bs hs left ext) (.ref (tl.length + 2)) (.int i) d = some (pst tl s cs (bs.set i d) hs left ext) := by
  have e : place bs.length i = some i := by simp [place, h]
  simp only [setIdx, pst_1, e, Option.map_some, pst_s1]
theorem p_apph {y : D} (h : hs.length < LIM) : biV G own .append [.ref (tl.length + 3), y] (pst tl s cs bs hs left ext) = .ok .non (pst tl s cs bs (hs ++ [y]) left ext) := by
  have e2 : ∀ x st, biV G own .append [x, y] st = objL st x fun r ds => if ds.length < LIM then .ok .non (st.set r (.lst (ds ++ [y]))) else .bad := fun _ _ => rfl
  rw [e2]
  simp only [objL, pst_2, h, if_true, pst_s2]
theorem p_rcvh : recv .append (pst tl s cs bs hs left ext) (.ref (tl.length + 3)) = true := by
  simp [recv, lstOf, pst_2]
theorem p_taken (m : Int) (h0 : 0 < m) (h1 : m < 1073741824) : callN G U LIB (n + 1) "_law_taken" [.ref 0, .int m] (pst tl s cs bs hs left ext) = .ok (.int (dk s m)) (pst tl (dn s m) cs bs hs left ext) := c_taken m h0 h1
theorem cut_pst {s' : Rng} {bs' hs' : List D} {left' : Int} {g : Store} {v : D} (hv : below (tl.length + 4 + ext.length) v = true) (hb : belowAll (tl.length + 4 + ext.length) bs' = true) (hh : belowAll (tl.length + 4 + ext.length) hs' = true) :
    cutR (pst tl s cs bs hs left ext) (.ok v (pst tl s' cs bs' hs' left' (ext ++ g))) = .ok v (pst tl s' cs bs' hs' left' ext) := by
  have hp : belowKV (tl.length + 4 + ext.length) (pD (tl.length + 1) cs left') = true := by
    simp [pD, belowKV, below, below_cls]
    omega
  have k : keptB (tl.length + 4 + ext.length) (pst tl s cs bs hs left ext) (pst tl s' cs bs' hs' left' (ext ++ g)) = true := by
    unfold pst
    simp only [keptB, belowO_row, Bool.or_true, Bool.true_and]
    refine kept_app _ _ _ (kept_refl _ _) rfl ?_
    simp only [List.cons_append, keptB, belowO, hp, hb, hh, Bool.or_true, Bool.true_and]
    exact kept_ext _ _ _
  have t : (pst tl s' cs bs' hs' left' (ext ++ g)).take (tl.length + 4 + ext.length) = pst tl s' cs bs' hs' left' ext := by
    rw [← pst_app, ← pst_len (s := s') (cs := cs) (bs := bs') (hs := hs') (left := left'), List.take_left']
    rfl
  unfold cutR
  rw [pst_len]
  simp only [hv, k, Bool.and_self, if_true, t]
theorem cut_pst0 {s' : Rng} {bs' hs' : List D} {left' : Int} {v : D} : cutR (pst tl s cs bs hs left ext) (.ok v (pst tl s' cs bs' hs' left' ext)) = .ok v (pst tl s' cs bs' hs' left' ext) := cut_len (by rw [pst_len, pst_len]; omega)
/-- a list made with draws in the maker's store -/
theorem wdraw_eachP {α : Type} {call : Call} {ρ : Env} {vs : List Nat} {t elt : C} {Q : QD} {E : QE} {items : List D} (enc : α → D) (Pr : α → Prop) (hl : items.length ≤ LIM) (hb : ∀ m x, below m (enc x) = true)
      (step : ∀ (i : Nat) d acc s, items[i]? = some d → envW (bindT t d (wipe ρ vs)) fun ρ1 => wpE G call elt ρ1 (pst tl s cs bs hs left (ext ++ [.lst acc])) (fun e st4 => ∃ x s', e = enc x ∧ Pr x ∧ st4 = pst tl s' cs bs hs left (ext ++ [.lst acc])) fun _ _ => False)
      (done : ∀ (xs : List α) s', xs.length = items.length → (∀ x ∈ xs, Pr x) → Q (.lst (xs.map enc)) (pst tl s' cs bs hs left ext)) :
    WComp G call false vs t (.k (.bl true)) elt ρ items none (pst tl s cs bs hs left ext) Q E := by
  have ap : ∀ (s : Rng) (acc : List D), pst tl s cs bs hs left (ext ++ [.lst acc]) = rowO s :: ((tl ++ ([.dK (pD (tl.length + 1) cs left), .lst bs, .lst hs] ++ ext)) ++ [.lst acc]) := by
    intro s acc; simp [pst]
  refine wdraw_each (tl := tl ++ ([.dK (pD (tl.length + 1) cs left), .lst bs, .lst hs] ++ ext)) enc Pr hl (hb _) ?_ done
  intro i d acc s hd
  have h := step i d acc s hd
  obtain ⟨ρ1, e, h⟩ := envW_of h
  rw [e]
  show wpE _ _ _ _ _ _ _
  rw [ap] at h
  refine wpure.wpE_mono _ _ _ _ _ _ _ h (fun x st3 ⟨x, s2, e1, h2, h3⟩ => ⟨x, s2, e1, h2, ?_⟩) fun _ _ h => h
  rw [h3, ap]
/-! ### rows -/
def RwOk (cs : List Kl) (nb : Nat) : Rw → Prop
  | .num n => n ≤ 999
  | .new c => c < cs.length
  | .load b => b < nb
  | .store b => b < nb
  | .get c f => ∃ k, cs[c]? = some k ∧ f < k.flds.length
  | .put c f => ∃ k, cs[c]? = some k ∧ f < k.flds.length
  | .cast c => c < cs.length
  | .is_ c => c < cs.length
  | _ => True
/-- rows that are to stand from a place on: a birth names a new ahead of it -/
structure RowsOk (cs : List Kl) (nb at_ : Nat) (rows : List Rw) : Prop where
  ok : ∀ w ∈ rows, RwOk cs nb w
  bi : ∀ j r, rows[j]? = some (.birth r) → at_ ≤ r ∧ r - at_ < j ∧ ∃ w, rows[r - at_]? = some w ∧ w.isNew = true
variable {nb at_ : Nat}
theorem RowsOk.nil : RowsOk cs nb at_ [] := ⟨fun _ h => (by cases h), fun j r h => by simp at h⟩
theorem RowsOk.app {a b : List Rw} (ha : RowsOk cs nb at_ a) (hb : RowsOk cs nb (at_ + a.length) b) : RowsOk cs nb at_ (a ++ b) := by
  refine ⟨fun w hw => ?_, fun j r h => ?_⟩
  · rcases List.mem_append.mp hw with hw | hw
    · exact ha.ok w hw
    · exact hb.ok w hw
  · by_cases hj : j < a.length
    · rw [List.getElem?_append_left hj] at h
      obtain ⟨h1, h2, w, h3, h4⟩ := ha.bi j r h
      exact ⟨h1, h2, w, by rw [List.getElem?_append_left (by omega)]; exact h3, h4⟩
    · rw [List.getElem?_append_right (by omega)] at h
      obtain ⟨h1, h2, w, h3, h4⟩ := hb.bi _ r h
      refine ⟨by omega, by omega, w, ?_, h4⟩
      rw [List.getElem?_append_right (by omega), show r - at_ - a.length = r - (at_ + a.length) by omega]
      exact h3
theorem RowsOk.one {w : Rw} (h : RwOk cs nb w) (hb : ∀ r, w ≠ .birth r) : RowsOk cs nb at_ [w] := by
  refine ⟨fun x hx => by simp at hx; subst hx; exact h, fun j r e => ?_⟩
  cases j with
  | zero => simp at e; exact absurd e (hb r)
  | succ j => simp at e
theorem RowsOk.cons {w : Rw} {l : List Rw} (h : RwOk cs nb w) (hb : ∀ r, w ≠ .birth r) (hl : RowsOk cs nb (at_ + 1) l) : RowsOk cs nb at_ (w :: l) := RowsOk.app (a := [w]) (.one h hb) hl
theorem RowsOk.born {c : Nat} (h : c < cs.length) : RowsOk cs nb at_ [.new c, .dup, .birth at_] := by
  refine ⟨fun x hx => ?_, fun j r e => ?_⟩
  · simp at hx
    rcases hx with rfl | rfl | rfl
    · exact h
    · trivial
    · trivial
  · match j, e with
    | 0, e => simp at e
    | 1, e => simp at e
    | 2, e =>
      simp at e
      subst e
      exact ⟨Nat.le_refl _, by omega, .new c, by simp, rfl⟩
    | j + 3, e => simp at e
theorem below_rw {m : Nat} (w : Rw) : below m w.d = true := by cases w <;> simp [Rw.d, below, belowAll]
theorem below_rws {m : Nat} (l : List Rw) : below m (.lst (l.map Rw.d)) = true := by simp only [below]; exact belowAll_map below_rw l
theorem below_kD {m : Nat} (o : Option Fl) : below m (kD o) = true := by
  cases o
  · rfl
  · exact below_fl _
theorem eqB_fln {st : Store} (f : Fl) : eqB st f.d (.str "n") = some (decide (f = .num)) := by
  cases f
  · simp [Fl.d, eqB_str]
  · simp [Fl.d, eqB_is]
theorem mem_par {st : Store} (j k : Nat) (o : Option Nat) : memB G st (.int j) (.tup [.int k, optD o]) = some (decide (k = j) || decide (o = some j)) := by
  cases o with
  | none => simp [memB, optD, flat, eqv, nat_beq]
  | some p => simp [memB, optD, flat, eqv, nat_beq]
theorem mem_lst {st : Store} {x : D} {l : List D} (h1 : pur 60 x = true) (h2 : purAll 60 l = true) : memB G st x (.lst l) = some (l.any fun y => eqv y x) := by
  simp [memB, h1, h2]
theorem pur_kD {m : Nat} (o : Option Fl) : pur m (kD o) = true := by
  cases o
  · cases m <;> rfl
  · exact pur_fl _
theorem len_l {st : Store} {l : List D} : biV G own .len [.lst l] st = .ok (.int l.length) st := id rfl
theorem isEmpty_map {α β : Type} {f : α → β} {l : List α} : (l.map f).isEmpty = l.isEmpty := by cases l <;> rfl
theorem ints_pur {m : Nat} (l : List Nat) : purAll m (l.map fun k => D.int (k : Nat)) = true := purAll_map (fun x => pur_int _ _) l
theorem ints_below {m : Nat} (l : List Nat) : belowAll m (l.map fun k => D.int (k : Nat)) = true := belowAll_map (fun x => rfl) l
variable {ks : List (Option Fl)}
/-- one of two numbers -/
theorem num_pick (a b : Nat) (ha : a ≤ 999) (hb : b ≤ 999) : ∃ x : Nat, x ≤ 999 ∧ ∀ st, idxV G st (.lst [.int a, .int b]) (.int ((a : Int) % 2)) = some (.int x) := by
  have e : (a : Int) % 2 = ((a % 2 : Nat) : Int) := by omega
  have h2 : a % 2 = 0 ∨ a % 2 = 1 := by omega
  rcases h2 with h2 | h2 <;> rw [e, h2]
  · exact ⟨a, ha, fun st => idx_ln⟩
  · exact ⟨b, hb, fun st => idx_ln⟩
theorem g_worth (hc : ClsOk cs) (hb : ks.length ≤ 6) (kind : Fl) (hk : kind.ok cs.length) : WP (callN G U LIB (n + 2) "_law_worth" [.ref 0, .ref (tl.length + 1), .int at_, kind.d] (pst tl s cs (ks.map kD) hs left ext))
    (fun v st' => ∃ rows s', v = .lst (rows.map Rw.d) ∧ st' = pst tl s' cs (ks.map kD) hs left ext ∧ RowsOk cs ks.length at_ rows ∧ 1 ≤ rows.length ∧ rows.length ≤ 3) fun _ _ => False := by
  refine wp_call l__law_worth rfl ?_
  dsimp only [f__law_worth, List.map_cons, List.map_nil, List.replicate_succ, List.replicate_zero, List.cons_append, List.nil_append, Nat.reduceSub]
  have c6 := hc.c6
  cases kind with
  | num =>
    have hbp : purAll 60 [D.str "n"] = true := rfl
    have r1 := rgok 0 (ks.length : Int) (by omega)
    simp! [p_cls, give_f, Fl.d, p_b, p_lenb, r1]
    rw [range_map (n := ks.length) rfl]
    refine wpure (fun k : Nat => D.int (k : Nat)) (List.range ks.length) (fun k => [D.str "n"].any fun y => eqv y (kD (ks.getD k none))) (fun k => D.int (k : Nat)) (by rw [List.length_range]; show _ ≤ 16777216; omega) (fun _ => rfl) ?_ (fun _ _ _ => rfl) ?_
    · intro k hk' acc
      have hk' : k < ks.length := by simpa using hk'
      have eg : (ks.map kD)[k]? = some (kD (ks.getD k none)) := by simp [hk']
      simp! [pst_app, p_b, p_getb, eg, mem_lst (G := G) (pur_kD (ks.getD k none)) hbp]
    · obtain ⟨js, ejs⟩ : ∃ js, js = (List.range ks.length).filter fun k => [D.str "n"].any fun y => eqv y (kD (ks.getD k none)) := ⟨_, rfl⟩
      have hjs : ∀ j ∈ js, j < ks.length := by
        intro j hj
        rw [ejs] at hj
        have := (List.mem_filter.mp hj).1
        simpa using this
      have hjl : js.length ≤ 6 := by
        rw [ejs]
        exact Nat.le_trans (List.length_filter_le _ _) (by simpa using hb)
      rw [← ejs]
      have t5 := dk_lt s (m := 5) (by decide)
      have c5 : dk s 5 = 0 ∨ dk s 5 = 1 ∨ dk s 5 = 2 ∨ dk s 5 = 3 ∨ dk s 5 = 4 := by omega
      by_cases hl : dk s 5 < 2 ∧ js ≠ []
      · obtain ⟨h2, hne⟩ := hl
        have h2' : ((dk s 5 : Nat) : Int) < 2 := by omega
        have hne' : js.isEmpty = false := by cases js with
          | nil => exact absurd rfl hne
          | cons _ _ => rfl
        have hl0 : (0 : Int) < js.length := by
          cases js with
          | nil => exact absurd rfl hne
          | cons _ _ => simp
        have hl1 : (js.length : Int) < 1073741824 := by omega
        have tk := dk_lt (dn s 5) hl0
        have eix : ∀ st, idxV G st (.lst (js.map fun k => D.int (k : Nat))) (.int (dk (dn s 5) js.length)) = some (.int (js.getD (dk (dn s 5) js.length) 0)) := by
          intro st
          rw [idx_ln, List.getElem?_map]
          have : dk (dn s 5) js.length < js.length := by omega
          simp [this]
        have hload : js.getD (dk (dn s 5) js.length) 0 < ks.length := by
          have : dk (dn s 5) js.length < js.length := by omega
          have hm : js.getD (dk (dn s 5) js.length) 0 ∈ js := by
            simp [this]
          exact hjs _ hm
        simp! [p_taken, Int.reduceLT, h2', give_f, eqB_lnil (ints_pur js), isEmpty_map, hne', hl0, hl1, eix]
        rw [cut_pst0]
        exact ⟨[.load (js.getD (dk (dn s 5) js.length) 0)], _, rfl, rfl, .one hload (fun _ h => by cases h), by simp, by simp⟩
      · have hj0 : dk s 5 < 2 → js.isEmpty = true := fun h => by
          cases js with
          | nil => rfl
          | cons _ _ => exact absurd ⟨h, by simp⟩ hl
        rcases c5 with h5 | h5 | h5 | h5 | h5
        · have em := hj0 (by omega)
          obtain ⟨x, hx9, hx⟩ := num_pick (G := G) (dk (dn s 5) 1000) 0 (by have := dk_lt (dn s 5) (m := 1000) (by decide); omega) (by decide)
          simp only [nc0] at hx
          simp! [p_taken, Int.reduceLT, give_f, h5, nc0, nc1, nc2, nc3, nc4, em, eqB_lnil (ints_pur js), isEmpty_map, op2_md (show (0 : Int) < 2 by decide), Int.reduceMod, hx, op2_md (show (0 : Int) < 4 by decide), Int.reduceEq]
          rw [cut_pst0]
          exact ⟨[.ask], _, rfl, rfl, .one trivial (fun _ h => by cases h), by simp, by simp⟩
        · have em := hj0 (by omega)
          obtain ⟨x, hx9, hx⟩ := num_pick (G := G) (dk (dn s 5) 1000) 1 (by have := dk_lt (dn s 5) (m := 1000) (by decide); omega) (by decide)
          simp only [nc1] at hx
          simp! [p_taken, Int.reduceLT, give_f, h5, nc0, nc1, nc2, nc3, nc4, em, eqB_lnil (ints_pur js), isEmpty_map, op2_md (show (0 : Int) < 2 by decide), Int.reduceMod, hx, op2_md (show (0 : Int) < 4 by decide), Int.reduceEq]
          rw [cut_pst0]
          exact ⟨[.num x], _, rfl, rfl, .one hx9 (fun _ h => by cases h), by simp, by simp⟩
        · obtain ⟨x, hx9, hx⟩ := num_pick (G := G) (dk (dn s 5) 1000) 2 (by have := dk_lt (dn s 5) (m := 1000) (by decide); omega) (by decide)
          simp only [nc2] at hx
          simp! [p_taken, Int.reduceLT, give_f, h5, nc0, nc1, nc2, nc3, nc4, eqB_lnil (ints_pur js), isEmpty_map, op2_md (show (0 : Int) < 2 by decide), Int.reduceMod, hx, op2_md (show (0 : Int) < 4 by decide), Int.reduceEq]
          rw [cut_pst0]
          exact ⟨[.num (dk (dn s 5) 1000), .ask, .add], _, rfl, rfl, .cons (by have := dk_lt (dn s 5) (m := 1000) (by decide); show _ ≤ 999; omega) (fun _ h => by cases h) (.cons trivial (fun _ h => by cases h) (.one trivial (fun _ h => by cases h))), by simp, by simp⟩
        · obtain ⟨x, hx9, hx⟩ := num_pick (G := G) (dk (dn s 5) 1000) 3 (by have := dk_lt (dn s 5) (m := 1000) (by decide); omega) (by decide)
          simp only [nc3] at hx
          simp! [p_taken, Int.reduceLT, give_f, h5, nc0, nc1, nc2, nc3, nc4, eqB_lnil (ints_pur js), isEmpty_map, op2_md (show (0 : Int) < 2 by decide), Int.reduceMod, hx, op2_md (show (0 : Int) < 4 by decide), Int.reduceEq]
          rw [cut_pst0]
          exact ⟨[.num (dk (dn s 5) 1000), .ask, .take], _, rfl, rfl, .cons (by have := dk_lt (dn s 5) (m := 1000) (by decide); show _ ≤ 999; omega) (fun _ h => by cases h) (.cons trivial (fun _ h => by cases h) (.one trivial (fun _ h => by cases h))), by simp, by simp⟩
        · obtain ⟨x, hx9, hx⟩ := num_pick (G := G) (dk (dn s 5) 1000) 4 (by have := dk_lt (dn s 5) (m := 1000) (by decide); omega) (by decide)
          simp only [nc4] at hx
          simp! [p_taken, Int.reduceLT, give_f, h5, nc0, nc1, nc2, nc3, nc4, eqB_lnil (ints_pur js), isEmpty_map, op2_md (show (0 : Int) < 2 by decide), Int.reduceMod, hx, op2_md (show (0 : Int) < 4 by decide), Int.reduceEq]
          rw [cut_pst0]
          exact ⟨[.ask], _, rfl, rfl, .one trivial (fun _ h => by cases h), by simp, by simp⟩
  | of j =>
    have hj : j < cs.length := hk
    have r1 := rgok 0 (ks.length : Int) (by omega)
    have r2 := rgok 0 (cs.length : Int) (by omega)
    simp! [p_cls, give_f, Fl.d, r2, len_cls]
    rw [range_map (n := cs.length) rfl]
    refine wpure (fun k : Nat => D.int (k : Nat)) (List.range cs.length) (fun k => decide (k = j) || decide (parOf cs k = some j)) (fun k => D.int (k : Nat)) (by rw [List.length_range]; show _ ≤ 16777216; omega) (fun _ => rfl) ?_ (fun _ _ _ => rfl) ?_
    · intro k hk' acc
      have hk' : k < cs.length := by simpa using hk'
      have ec : cs[k]? = some cs[k] := List.getElem?_eq_getElem hk'
      have ep : parOf cs k = cs[k].par := by simp [parOf, ec]
      simp! [idx_cls ec, Kl.d, mem_par, ep]
    · obtain ⟨bl, ebl⟩ : ∃ bl, bl = (List.range cs.length).filter fun k => decide (k = j) || decide (parOf cs k = some j) := ⟨_, rfl⟩
      have hbl : ∀ k ∈ bl, k < cs.length := by
        intro k hk'
        rw [ebl] at hk'
        have := (List.mem_filter.mp hk').1
        simpa using this
      have hbj : j ∈ bl := by
        rw [ebl]
        refine List.mem_filter.mpr ⟨by simpa using hj, by simp⟩
      have hbll : bl.length ≤ 6 := by
        rw [ebl]
        exact Nat.le_trans (List.length_filter_le _ _) (by simpa using c6)
      rw [← ebl]
      simp! [p_b, p_lenb, r1]
      rw [range_map (n := ks.length) rfl]
      refine wpure (fun k : Nat => D.int (k : Nat)) (List.range ks.length) (fun k => (bl.map fun k => D.int (k : Nat)).any fun y => eqv y (kD (ks.getD k none))) (fun k => D.int (k : Nat)) (by rw [List.length_range]; show _ ≤ 16777216; omega) (fun _ => rfl) ?_ (fun _ _ _ => rfl) ?_
      · intro k hk' acc
        have hk' : k < ks.length := by simpa using hk'
        have eg : (ks.map kD)[k]? = some (kD (ks.getD k none)) := by simp [hk']
        simp! [pst_app, p_b, p_getb, eg, mem_lst (G := G) (pur_kD (ks.getD k none)) (ints_pur bl)]
      · obtain ⟨js, ejs⟩ : ∃ js, js = (List.range ks.length).filter fun k => (bl.map fun k => D.int (k : Nat)).any fun y => eqv y (kD (ks.getD k none)) := ⟨_, rfl⟩
        have hjs : ∀ j ∈ js, j < ks.length := by
          intro j hj
          rw [ejs] at hj
          have := (List.mem_filter.mp hj).1
          simpa using this
        have hjl : js.length ≤ 6 := by
          rw [ejs]
          exact Nat.le_trans (List.length_filter_le _ _) (by simpa using hb)
        rw [← ejs]
        have t5 := dk_lt s (m := 5) (by decide)
        have c5 : dk s 5 = 0 ∨ dk s 5 = 1 ∨ dk s 5 = 2 ∨ dk s 5 = 3 ∨ dk s 5 = 4 := by omega
        by_cases hl : dk s 5 < 2 ∧ js ≠ []
        · obtain ⟨h2, hne⟩ := hl
          have h2' : ((dk s 5 : Nat) : Int) < 2 := by omega
          have hne' : js.isEmpty = false := by cases js with
            | nil => exact absurd rfl hne
            | cons _ _ => rfl
          have hl0 : (0 : Int) < js.length := by
            cases js with
            | nil => exact absurd rfl hne
            | cons _ _ => simp
          have hl1 : (js.length : Int) < 1073741824 := by omega
          have tk := dk_lt (dn s 5) hl0
          have eix : ∀ st, idxV G st (.lst (js.map fun k => D.int (k : Nat))) (.int (dk (dn s 5) js.length)) = some (.int (js.getD (dk (dn s 5) js.length) 0)) := by
            intro st
            rw [idx_ln, List.getElem?_map]
            have : dk (dn s 5) js.length < js.length := by omega
            simp [this]
          have hload : js.getD (dk (dn s 5) js.length) 0 < ks.length := by
            have : dk (dn s 5) js.length < js.length := by omega
            have hm : js.getD (dk (dn s 5) js.length) 0 ∈ js := by
              simp [this]
            exact hjs _ hm
          simp! [p_taken, Int.reduceLT, h2', give_f, eqB_lnil (ints_pur js), isEmpty_map, hne', hl0, hl1, eix]
          rw [cut_pst0]
          exact ⟨[.load (js.getD (dk (dn s 5) js.length) 0)], _, rfl, rfl, .one hload (fun _ h => by cases h), by simp, by simp⟩
        · have hj0 : dk s 5 < 2 → js.isEmpty = true := fun h => by
            cases js with
            | nil => rfl
            | cons _ _ => exact absurd ⟨h, by simp⟩ hl
          rcases c5 with h5 | h5 | h5 | h5 | h5
          · have em := hj0 (by omega)
            have hl0 : (0 : Int) < bl.length := by have := List.length_pos_of_mem hbj; omega
            have hl1 : (bl.length : Int) < 1073741824 := by omega
            have tk := dk_lt (dn s 5) hl0
            have eix : ∀ st, idxV G st (.lst (bl.map fun k => D.int (k : Nat))) (.int (dk (dn s 5) bl.length)) = some (.int (bl.getD (dk (dn s 5) bl.length) 0)) := by
              intro st
              rw [idx_ln, List.getElem?_map]
              have : dk (dn s 5) bl.length < bl.length := by omega
              simp [this]
            have hnew : bl.getD (dk (dn s 5) bl.length) 0 < cs.length := by
              have : dk (dn s 5) bl.length < bl.length := by omega
              have hm : bl.getD (dk (dn s 5) bl.length) 0 ∈ bl := by
                simp [this]
              exact hbl _ hm
            simp! [p_taken, Int.reduceLT, give_f, h5, nc0, nc1, nc3, nc4, em, eqB_lnil (ints_pur js), isEmpty_map, Int.reduceEq, hl0, hl1, eix]
            rw [cut_pst0]
            exact ⟨[.new (bl.getD (dk (dn s 5) bl.length) 0), .dup, .birth at_], _, rfl, rfl, .born hnew, by simp, by simp⟩
          · have em := hj0 (by omega)
            have hl0 : (0 : Int) < bl.length := by have := List.length_pos_of_mem hbj; omega
            have hl1 : (bl.length : Int) < 1073741824 := by omega
            have tk := dk_lt (dn s 5) hl0
            have eix : ∀ st, idxV G st (.lst (bl.map fun k => D.int (k : Nat))) (.int (dk (dn s 5) bl.length)) = some (.int (bl.getD (dk (dn s 5) bl.length) 0)) := by
              intro st
              rw [idx_ln, List.getElem?_map]
              have : dk (dn s 5) bl.length < bl.length := by omega
              simp [this]
            have hnew : bl.getD (dk (dn s 5) bl.length) 0 < cs.length := by
              have : dk (dn s 5) bl.length < bl.length := by omega
              have hm : bl.getD (dk (dn s 5) bl.length) 0 ∈ bl := by
                simp [this]
              exact hbl _ hm
            simp! [p_taken, Int.reduceLT, give_f, h5, nc0, nc1, nc3, nc4, em, eqB_lnil (ints_pur js), isEmpty_map, Int.reduceEq, hl0, hl1, eix]
            rw [cut_pst0]
            exact ⟨[.new (bl.getD (dk (dn s 5) bl.length) 0), .dup, .birth at_], _, rfl, rfl, .born hnew, by simp, by simp⟩
          · simp! [p_taken, Int.reduceLT, give_f, h5, nc2, Int.reduceEq]
            rw [cut_pst0]
            exact ⟨[.non], _, rfl, rfl, .one trivial (fun _ h => by cases h), by simp, by simp⟩
          · have hl0 : (0 : Int) < bl.length := by have := List.length_pos_of_mem hbj; omega
            have hl1 : (bl.length : Int) < 1073741824 := by omega
            have tk := dk_lt (dn s 5) hl0
            have eix : ∀ st, idxV G st (.lst (bl.map fun k => D.int (k : Nat))) (.int (dk (dn s 5) bl.length)) = some (.int (bl.getD (dk (dn s 5) bl.length) 0)) := by
              intro st
              rw [idx_ln, List.getElem?_map]
              have : dk (dn s 5) bl.length < bl.length := by omega
              simp [this]
            have hnew : bl.getD (dk (dn s 5) bl.length) 0 < cs.length := by
              have : dk (dn s 5) bl.length < bl.length := by omega
              have hm : bl.getD (dk (dn s 5) bl.length) 0 ∈ bl := by
                simp [this]
              exact hbl _ hm
            simp! [p_taken, Int.reduceLT, give_f, h5, nc0, nc1, nc3, nc4, eqB_lnil (ints_pur js), isEmpty_map, Int.reduceEq, hl0, hl1, eix]
            rw [cut_pst0]
            exact ⟨[.new (bl.getD (dk (dn s 5) bl.length) 0), .dup, .birth at_], _, rfl, rfl, .born hnew, by simp, by simp⟩
          · have hl0 : (0 : Int) < bl.length := by have := List.length_pos_of_mem hbj; omega
            have hl1 : (bl.length : Int) < 1073741824 := by omega
            have tk := dk_lt (dn s 5) hl0
            have eix : ∀ st, idxV G st (.lst (bl.map fun k => D.int (k : Nat))) (.int (dk (dn s 5) bl.length)) = some (.int (bl.getD (dk (dn s 5) bl.length) 0)) := by
              intro st
              rw [idx_ln, List.getElem?_map]
              have : dk (dn s 5) bl.length < bl.length := by omega
              simp [this]
            have hnew : bl.getD (dk (dn s 5) bl.length) 0 < cs.length := by
              have : dk (dn s 5) bl.length < bl.length := by omega
              have hm : bl.getD (dk (dn s 5) bl.length) 0 ∈ bl := by
                simp [this]
              exact hbl _ hm
            simp! [p_taken, Int.reduceLT, give_f, h5, nc0, nc1, nc3, nc4, eqB_lnil (ints_pur js), isEmpty_map, Int.reduceEq, hl0, hl1, eix]
            rw [cut_pst0]
            exact ⟨[.new (bl.getD (dk (dn s 5) bl.length) 0), .dup, .birth at_], _, rfl, rfl, .born hnew, by simp, by simp⟩
end
end MP

set_option linter.all false
set_option maxRecDepth 100000
set_option maxHeartbeats 4000000
/-! The maker of programs: statements. -/
namespace MP
open MG
local macro_rules
  | `(tactic| simp! [$a,*]) => `(tactic| simp -dsimp only [wpE_var, wpE_k, wpE_nil, wpE_cons, wpE_lst, wpE_op1, wpE_op2, wpE_and, wpE_or, wpE_ite, wpE_chain, wpE_slc, wpE_rev, wpE_bi, wpE_bm, wpE_call, wpE_meth, wpE_make, wpE_fld, wpE_comp, wpE_rng, wpE_rrng, wpE_enum, wpE_zip, wpE_dict, wpE_frz, asgW_var, asgW_fld, asgW_op2, asgW_nil, asgW_cons, wsS_skip, wsS_seq, wsS_ex, wsS_asg, wsS_ret, wsS_ife, wsS_for, wsS_while, wsS_raise, wsS_try0, wsS_try1, wsS_cont, getE_0, getE_s, putW_0, putW_s, getW_some, WP_ok, WP_err, tupW_tup, blW_t, blW_f, nonW_non, lstW_some, iterW_some, iter_tup, iter_lst, partW_some, part_n, part_v, part_i, part_2, part_b, insW_some, refW_ref, ints2W_int, stoW_some, envW_var, envW_cons, envW_nil, prsW_some, okW_t, fitsT_var, fitsT_fld, fitsT_op2, fitsT_2, fitsT_3, fitsT_6, unp_var, unp_fld, unp_op2, unp_tup, unp_lst, List.map_cons, List.map_nil, List.cons_append, List.nil_append, wipe_nil, wipe_cons, List.set_cons_succ, List.set_cons_zero, isInt_tup, isInt_lst, isInt_int, isInt_str, isInt_bl, isInt_non, isInt_scr, isBool_tup, isBool_lst, isBool_int, isBool_str, isBool_bl, isBool_non, isBool_scr, isStr_tup, isStr_lst, isStr_int, isStr_str, isStr_bl, isStr_non, isStr_scr, isTup_tup, isTup_lst, isTup_int, isTup_str, isTup_bl, isTup_non, isTup_scr, isLst_tup, isLst_lst, isLst_int, isLst_str, isLst_bl, isLst_non, isLst_scr, isTL_tup, isTL_lst, isTL_int, isTL_str, isTL_bl, isTL_non, isTL_scr, isN_tup, notN_tup, isN_lst, notN_lst, isN_int, notN_int, isN_str, notN_str, isN_bl, notN_bl, isN_non, notN_non, isN_scr, notN_scr, isN_ref, notN_ref, not_bl, neg_int, len_tup, List.length_map, len_lst, len_scr, pur_int, pur_str, pur_bl, pur_non, pur_tup, pur_lst, purAll_nil, purAll_cons, op2_idx, op2_add, op2_sub, add_int, add_lst, add_tup, List.length_cons, List.length_nil, Nat.reduceAdd, Nat.zero_add, Nat.add_zero, nc0, nc1, nc2, nc3, nc4, nc5, nc6, nc7, nc8, nc9, Int.reduceLT, Int.reduceEq, Int.reduceMod, Int.reduceAdd, Int.reduceSub, op2_eq, op2_ne, op2_lt, op2_le, op2_gt, op2_ge, op2_in, op2_nin, okB_some, id_eq, decide_true, decide_false, decide_not, String.reduceEq, reduceCtorEq, String.reduceAppend, Option.isNone_none, eq_self, bi_tuple, idx_l0, idx_l1, idx_l2, idx_l3, idx_t0, idx_t1, idx_t2, idx_t3, idx_t4, idx_t5, eqB_str, eqB_int, eqB_is, eqB_si, Bool.and_self, eqB_ts, eqB_st, ext_rfl, ext_app, ext_app2, tup_tup, tup_lst, eqB_non, Bool.false_eq_true, if_false, if_true, Bool.not_true, Bool.not_false, and_true, true_and, implies_true, forall_const, $a,*])
section
variable {G : GD} {U : Up} {n : Nat} {tl : Store} {s : Rng} {cs : List Kl} {bs hs : List D} {left : Int} {ext : Store} {own : Bool} {nb at_ : Nat} {ks : List (Option Fl)}
theorem RowsOk.simple {l : List Rw} (h : ∀ w ∈ l, RwOk cs nb w ∧ ∀ r, w ≠ .birth r) : RowsOk cs nb at_ l :=
  ⟨fun w hw => (h w hw).1, fun j r e => absurd rfl ((h _ (List.mem_of_getElem? e)).2 r)⟩
theorem mul_lst {st : Store} {d : D} {j : Int} {m : Nat} (e : j = m) (h : m ≤ 1000) : mulV false st (.lst [d]) (.int j) = .ok (.lst (List.replicate m d)) st := by
  subst e
  simp only [mulV, lstOf]
  rw [if_pos ⟨by omega, by omega, by simp; show _ ≤ 16777216; omega⟩]
  have : (List.replicate (m : Int).toNat [d]).flatten = List.replicate m d := by simp
  rw [this]
  rfl
theorem add_rw {st : Store} {a b : List Rw} (h : a.length + b.length ≤ LIM) : addV false st (.lst (a.map Rw.d)) (.lst (b.map Rw.d)) = .ok (.lst ((a ++ b).map Rw.d)) st := by
  rw [add_lst (by simpa using h), List.map_append]
theorem purTF (l : List Fl) : purAll 59 (l.map Fl.d) = true := purAll_map (fun x => pur_fl x) _
theorem set_kD {i : Nat} {f : Fl} : (ks.map kD).set i f.d = (ks.set i (some f)).map kD := by
  rw [List.map_set]; rfl
theorem belowKs {m : Nat} : belowAll m (ks.map kD) = true := belowAll_map below_kD ks
/-- rows, and a last one, as a list of data -/
theorem g_assign (hc : ClsOk cs) (hb : ks.length ≤ 6) (hb1 : 1 ≤ ks.length) : WP (callN G U LIB (n + 3) "_law_assign" [.ref 0, .ref (tl.length + 1), .int at_] (pst tl s cs (ks.map kD) hs left ext))
    (fun v st' => ∃ (rows : List Rw) (s' : Rng) (ks' : List (Option Fl)), v = .lst (rows.map Rw.d) ∧ st' = pst tl s' cs (ks'.map kD) hs left ext ∧ ks'.length = ks.length ∧ RowsOk cs ks.length at_ rows ∧ 1 ≤ rows.length ∧ rows.length ≤ 24) fun _ _ => False := by
  refine wp_call l__law_assign rfl ?_
  dsimp only [f__law_assign, List.map_cons, List.map_nil, List.replicate_succ, List.replicate_zero, List.cons_append, List.nil_append, Nat.reduceSub]
  have c6 := hc.c6
  have c1 := hc.c1
  have n0 : (0 : Int) < ks.length := by omega
  have n1 : (ks.length : Int) < 1073741824 := by omega
  have m0 : (0 : Int) < cs.length := by omega
  have m1 : (cs.length : Int) < 1073741824 := by omega
  have t4 := dk_lt s (m := 4) (by decide)
  have c4 : dk s 4 = 0 ∨ dk s 4 = 1 ∨ dk s 4 = 2 ∨ dk s 4 = 3 := by omega
  have tb := dk_lt (dn s 4) n0
  have tc := dk_lt (dn (dn s 4) ks.length) m0
  have t2 := dk_lt (dn (dn (dn s 4) ks.length) cs.length) (m := 2) (by decide)
  obtain ⟨w, ew⟩ : ∃ w, w = dk s 4 := ⟨_, rfl⟩
  obtain ⟨bx, eb⟩ : ∃ bx, bx = dk (dn s 4) ks.length := ⟨_, rfl⟩
  rw [← ew] at c4
  rw [← eb] at tb
  have hbx : bx < (ks.map kD).length := by rw [List.length_map]; omega
  have hbx' : RwOk cs ks.length (.store bx) := by show bx < ks.length; omega
  obtain ⟨e, he, f, rfl, hf⟩ := idx_ex (G := G) (st := pst tl (dn (dn (dn (dn s 4) ks.length) cs.length) 2) cs (ks.map kD) hs left ext) (l := [.str "n", .int (dk (dn (dn s 4) ks.length) cs.length)]) (i := dk (dn (dn (dn s 4) ks.length) cs.length) 2) (fun e => ∃ f : Fl, e = f.d ∧ f.ok cs.length) (by simp; omega) (fl_pick (by omega))
  obtain ⟨s4, es4⟩ : ∃ s4, s4 = dn (dn (dn (dn s 4) ks.length) cs.length) 2 := ⟨_, rfl⟩
  rw [← es4] at he
  cases f with
  | num =>
    simp! [p_taken, Int.reduceLT, p_b, p_lenb, n0, n1, p_cls, len_cls, m0, m1, give_f, he, Fl.d, ← es4, ← ew, ← eb]
    refine WP.use (g_worth (n := n) (at_ := at_) hc hb .num trivial) ?_
    rintro _ _ ⟨rows, s5, rfl, rfl, hrows, hl1, hl3⟩
    have hL : rows.length + 1 ≤ LIM := by show _ ≤ 16777216; omega
    rcases c4 with h4 | h4 | h4 | h4
    · simp! [h4, p_b, p_setb hbx, hL, give_f]
      rw [cut_pst0]
      exact ⟨rows ++ [.store bx], s5, ks.set bx (some .num), by simp [Rw.d], by rw [← set_kD]; rfl, by simp, hrows.app (.one hbx' (fun _ h => by cases h)), by simp, by simp; omega⟩
    · simp! [h4, p_b, p_setb hbx, hL, give_f]
      rw [cut_pst0]
      exact ⟨rows ++ [.store bx], s5, ks.set bx (some .num), by simp [Rw.d], by rw [← set_kD]; rfl, by simp, hrows.app (.one hbx' (fun _ h => by cases h)), by simp, by simp; omega⟩
    · simp! [h4, eqB_tnil (l := []) rfl, List.isEmpty, p_b, p_setb hbx, hL, give_f]
      rw [cut_pst0]
      exact ⟨rows ++ [.store bx], s5, ks.set bx (some .num), by simp [Rw.d], by rw [← set_kD]; rfl, by simp, hrows.app (.one hbx' (fun _ h => by cases h)), by simp, by simp; omega⟩
    · have t9 := dk_lt s5 (m := 9) (by decide)
      have e1 : ((dk s5 9 : Nat) : Int) + 1 = ((dk s5 9 + 1 : Nat) : Int) := by omega
      have q1 : rows.length + dk s5 9 ≤ LIM := by show _ ≤ 16777216; omega
      have q2 : rows.length + dk s5 9 + (dk s5 9 + 1) ≤ LIM := by show _ ≤ 16777216; omega
      simp! [h4, eqB_tnil (l := []) rfl, List.isEmpty, p_taken, op2_mul, give_f, mul_lst (d := .tup [.str "dup"]) (j := (dk s5 9 : Int)) rfl (by omega), mul_lst (d := .tup [.str "drop"]) e1 (by omega), List.length_replicate, List.length_append, q1, q2]
      rw [cut_pst0]
      refine ⟨rows ++ List.replicate (dk s5 9) .dup ++ List.replicate (dk s5 9 + 1) .drop, dn s5 9, ks, by simp [Rw.d], rfl, rfl, (hrows.app (.simple ?_)).app (.simple ?_), by simp; omega, by simp; omega⟩
      · intro w hw
        rw [List.eq_of_mem_replicate hw]
        exact ⟨trivial, fun _ h => by cases h⟩
      · intro w hw
        rw [List.eq_of_mem_replicate hw]
        exact ⟨trivial, fun _ h => by cases h⟩
  | of j =>
    have hj : j < cs.length := hf
    obtain ⟨k, hk⟩ : ∃ k, cs[j]? = some k := ⟨_, List.getElem?_eq_getElem hj⟩
    have hkf := hc.fl k (List.mem_of_getElem? hk)
    simp! [p_taken, p_b, p_lenb, n0, n1, p_cls, len_cls, m0, m1, give_f, he, Fl.d, ← es4, ← ew, ← eb, idx_cls hk, Kl.d]
    refine WP.use (g_worth (n := n) (at_ := at_) hc hb (.of j) hj) ?_
    rintro _ _ ⟨rows, s5, rfl, rfl, hrows, hl1, hl3⟩
    have hL : rows.length + 1 ≤ LIM := by show _ ≤ 16777216; omega
    have hL2 : rows.length + 1 + 1 ≤ LIM := by show _ ≤ 16777216; omega
    by_cases h01 : w = 0 ∨ w = 1
    · rcases h01 with h4 | h4
      · simp! [h4, p_b, p_setb hbx, hL, give_f]
        rw [cut_pst0]
        exact ⟨rows ++ [.store bx], s5, ks.set bx (some (.of j)), by simp [Rw.d], by rw [← set_kD]; rfl, by simp, hrows.app (.one hbx' (fun _ h => by cases h)), by simp, by simp; omega⟩
      · simp! [h4, p_b, p_setb hbx, hL, give_f]
        rw [cut_pst0]
        exact ⟨rows ++ [.store bx], s5, ks.set bx (some (.of j)), by simp [Rw.d], by rw [← set_kD]; rfl, by simp, hrows.app (.one hbx' (fun _ h => by cases h)), by simp, by simp; omega⟩
    · have c4 : w = 2 ∨ w = 3 := by omega
      by_cases hfe : k.flds = []
      · rcases c4 with h4 | h4
        · simp! [h4, hfe, eqB_tnil (l := []) rfl, List.isEmpty, p_taken, p_cls, len_cls, m0, m1, hL, hL2, List.length_append, give_f, p_b, p_setb hbx]
          rw [cut_pst0]
          have tc := dk_lt s5 m0
          exact ⟨rows ++ [.is_ (dk s5 cs.length)] ++ [.store bx], _, ks.set bx (some .num), by simp [Rw.d], by rw [← set_kD]; rfl, by simp, (hrows.app (.one (show _ < _ by omega) (fun _ h => by cases h))).app (.one hbx' (fun _ h => by cases h)), by simp, by simp; omega⟩
        · simp! [h4, hfe, eqB_tnil (l := []) rfl, List.isEmpty, p_taken, p_cls, len_cls, m0, m1, hL, hL2, List.length_append, give_f, p_b, p_setb hbx]
          rw [cut_pst0]
          have tc := dk_lt s5 m0
          exact ⟨rows ++ [.cast (dk s5 cs.length)] ++ [.store bx], _, ks.set bx (some (.of (dk s5 cs.length))), by simp [Rw.d], by rw [← set_kD]; rfl, by simp, (hrows.app (.one (show _ < _ by omega) (fun _ h => by cases h))).app (.one hbx' (fun _ h => by cases h)), by simp, by simp; omega⟩
      · have hfe' : k.flds.isEmpty = false := by
          cases hq : k.flds with
          | nil => exact absurd hq hfe
          | cons _ _ => rfl
        have f0 : (0 : Int) < k.flds.length := by
          have := List.length_pos_iff.mpr hfe
          omega
        have f1 : (k.flds.length : Int) < 1073741824 := by have := hkf.1; omega
        have tf := dk_lt s5 f0
        have tf' : dk s5 k.flds.length < k.flds.length := by omega
        obtain ⟨g, hg⟩ : ∃ g, k.flds[dk s5 k.flds.length]? = some g := ⟨_, List.getElem?_eq_getElem tf'⟩
        have hgm := hkf.2 g (List.mem_of_getElem? hg)
        have hix : ∀ st, idxV G st (.tup (k.flds.map Fl.d)) (.int (dk s5 k.flds.length)) = some g.d := by
          intro st
          rw [idx_tn, List.getElem?_map, hg]
          rfl
        have hput : RwOk cs ks.length (.put j (dk s5 k.flds.length)) := ⟨k, hk, tf'⟩
        have hget : RwOk cs ks.length (.get j (dk s5 k.flds.length)) := ⟨k, hk, tf'⟩
        rcases c4 with h4 | h4
        · have ea : (at_ : Int) + (rows.length : Int) = ((at_ + rows.length : Nat) : Int) := by omega
          simp! [h4, eqB_tnil (purTF k.flds), map_isEmpty, hfe', p_taken, f0, f1, hix, ea]
          refine WP.use (g_worth (n := n) (at_ := at_ + rows.length) hc hb g hgm) ?_
          rintro _ _ ⟨rows2, s6, rfl, rfl, hrows2, h21, h23⟩
          have q1 : rows.length + rows2.length ≤ LIM := by show _ ≤ 16777216; omega
          have q2 : rows.length + rows2.length + 1 ≤ LIM := by show _ ≤ 16777216; omega
          simp! [q1, q2, List.length_append, give_f]
          rw [cut_pst0]
          exact ⟨rows ++ rows2 ++ [.put j (dk s5 k.flds.length)], s6, ks, by simp [Rw.d], rfl, rfl, (hrows.app hrows2).app (.one hput (fun _ h => by cases h)), by simp; omega, by simp; omega⟩
        · simp! [h4, eqB_tnil (purTF k.flds), map_isEmpty, hfe', p_taken, f0, f1, hix, give_f, hL, hL2, List.length_append, p_b, p_setb hbx]
          rw [cut_pst0]
          exact ⟨rows ++ [.get j (dk s5 k.flds.length)] ++ [.store bx], _, ks.set bx (some g), by simp [Rw.d], by rw [← set_kD], by simp, (hrows.app (.one hget (fun _ h => by cases h))).app (.one hbx' (fun _ h => by cases h)), by simp, by simp; omega⟩
end
end MP

set_option linter.all false
set_option maxRecDepth 100000
set_option maxHeartbeats 4000000
/-! The maker of programs: branches, blocks. -/
namespace MP
open MG
local macro_rules
  | `(tactic| simp! [$a,*]) => `(tactic| simp -dsimp only [wpE_var, wpE_k, wpE_nil, wpE_cons, wpE_lst, wpE_op1, wpE_op2, wpE_and, wpE_or, wpE_ite, wpE_chain, wpE_slc, wpE_rev, wpE_bi, wpE_bm, wpE_call, wpE_meth, wpE_make, wpE_fld, wpE_comp, wpE_rng, wpE_rrng, wpE_enum, wpE_zip, wpE_dict, wpE_frz, asgW_var, asgW_fld, asgW_op2, asgW_nil, asgW_cons, wsS_skip, wsS_seq, wsS_ex, wsS_asg, wsS_ret, wsS_ife, wsS_for, wsS_while, wsS_raise, wsS_try0, wsS_try1, wsS_cont, getE_0, getE_s, putW_0, putW_s, getW_some, WP_ok, WP_err, tupW_tup, blW_t, blW_f, nonW_non, lstW_some, iterW_some, iter_tup, iter_lst, partW_some, part_n, part_v, part_i, part_2, part_b, insW_some, refW_ref, ints2W_int, stoW_some, envW_var, envW_cons, envW_nil, prsW_some, okW_t, fitsT_var, fitsT_fld, fitsT_op2, fitsT_2, fitsT_3, fitsT_6, unp_var, unp_fld, unp_op2, unp_tup, unp_lst, List.map_cons, List.map_nil, List.cons_append, List.nil_append, wipe_nil, wipe_cons, List.set_cons_succ, List.set_cons_zero, isInt_tup, isInt_lst, isInt_int, isInt_str, isInt_bl, isInt_non, isInt_scr, isBool_tup, isBool_lst, isBool_int, isBool_str, isBool_bl, isBool_non, isBool_scr, isStr_tup, isStr_lst, isStr_int, isStr_str, isStr_bl, isStr_non, isStr_scr, isTup_tup, isTup_lst, isTup_int, isTup_str, isTup_bl, isTup_non, isTup_scr, isLst_tup, isLst_lst, isLst_int, isLst_str, isLst_bl, isLst_non, isLst_scr, isTL_tup, isTL_lst, isTL_int, isTL_str, isTL_bl, isTL_non, isTL_scr, isN_tup, notN_tup, isN_lst, notN_lst, isN_int, notN_int, isN_str, notN_str, isN_bl, notN_bl, isN_non, notN_non, isN_scr, notN_scr, isN_ref, notN_ref, not_bl, neg_int, len_tup, List.length_map, len_lst, len_scr, pur_int, pur_str, pur_bl, pur_non, pur_tup, pur_lst, purAll_nil, purAll_cons, op2_idx, op2_add, op2_sub, add_int, add_lst, add_tup, List.length_cons, List.length_nil, Nat.reduceAdd, Nat.zero_add, Nat.add_zero, nc0, nc1, nc2, nc3, nc4, nc5, nc6, nc7, nc8, nc9, Int.reduceLT, Int.reduceEq, Int.reduceMod, Int.reduceAdd, Int.reduceSub, op2_eq, op2_ne, op2_lt, op2_le, op2_gt, op2_ge, op2_in, op2_nin, okB_some, id_eq, decide_true, decide_false, decide_not, String.reduceEq, reduceCtorEq, String.reduceAppend, Option.isNone_none, eq_self, bi_tuple, idx_l0, idx_l1, idx_l2, idx_l3, idx_t0, idx_t1, idx_t2, idx_t3, idx_t4, idx_t5, eqB_str, eqB_int, eqB_is, eqB_si, Bool.and_self, eqB_ts, eqB_st, ext_rfl, ext_app, ext_app2, tup_tup, tup_lst, eqB_non, Bool.false_eq_true, if_false, if_true, Bool.not_true, Bool.not_false, and_true, true_and, implies_true, forall_const, $a,*])
  | `(tactic| simp_all! [$a,*]) => `(tactic| simp -dsimp (disch := first | with_reducible assumption | ((try simp only [List.length_map, List.length_append, List.length_cons, List.length_nil, List.length_replicate, List.length_range, List.length_reverse, LIM]) <;> omega)) only [wpE_var, wpE_k, wpE_nil, wpE_cons, wpE_lst, wpE_op1, wpE_op2, wpE_and, wpE_or, wpE_ite, wpE_chain, wpE_slc, wpE_rev, wpE_bi, wpE_bm, wpE_call, wpE_meth, wpE_make, wpE_fld, wpE_comp, wpE_rng, wpE_rrng, wpE_enum, wpE_zip, wpE_dict, wpE_frz, asgW_var, asgW_fld, asgW_op2, asgW_nil, asgW_cons, wsS_skip, wsS_seq, wsS_ex, wsS_asg, wsS_ret, wsS_ife, wsS_for, wsS_while, wsS_raise, wsS_try0, wsS_try1, wsS_cont, getE_0, getE_s, putW_0, putW_s, getW_some, WP_ok, WP_err, tupW_tup, blW_t, blW_f, nonW_non, lstW_some, iterW_some, iter_tup, iter_lst, partW_some, part_n, part_v, part_i, part_2, part_b, insW_some, refW_ref, ints2W_int, stoW_some, envW_var, envW_cons, envW_nil, prsW_some, okW_t, fitsT_var, fitsT_fld, fitsT_op2, fitsT_2, fitsT_3, fitsT_6, unp_var, unp_fld, unp_op2, unp_tup, unp_lst, List.map_cons, List.map_nil, List.cons_append, List.nil_append, wipe_nil, wipe_cons, List.set_cons_succ, List.set_cons_zero, isInt_tup, isInt_lst, isInt_int, isInt_str, isInt_bl, isInt_non, isInt_scr, isBool_tup, isBool_lst, isBool_int, isBool_str, isBool_bl, isBool_non, isBool_scr, isStr_tup, isStr_lst, isStr_int, isStr_str, isStr_bl, isStr_non, isStr_scr, isTup_tup, isTup_lst, isTup_int, isTup_str, isTup_bl, isTup_non, isTup_scr, isLst_tup, isLst_lst, isLst_int, isLst_str, isLst_bl, isLst_non, isLst_scr, isTL_tup, isTL_lst, isTL_int, isTL_str, isTL_bl, isTL_non, isTL_scr, isN_tup, notN_tup, isN_lst, notN_lst, isN_int, notN_int, isN_str, notN_str, isN_bl, notN_bl, isN_non, notN_non, isN_scr, notN_scr, isN_ref, notN_ref, not_bl, neg_int, len_tup, List.length_map, len_lst, len_scr, pur_int, pur_str, pur_bl, pur_non, pur_tup, pur_lst, purAll_nil, purAll_cons, op2_idx, op2_add, op2_sub, add_int, add_lst, add_tup, List.length_cons, List.length_nil, Nat.reduceAdd, Nat.zero_add, Nat.add_zero, nc0, nc1, nc2, nc3, nc4, nc5, nc6, nc7, nc8, nc9, Int.reduceLT, Int.reduceEq, Int.reduceMod, Int.reduceAdd, Int.reduceSub, op2_eq, op2_ne, op2_lt, op2_le, op2_gt, op2_ge, op2_in, op2_nin, okB_some, id_eq, decide_true, decide_false, decide_not, String.reduceEq, reduceCtorEq, String.reduceAppend, Option.isNone_none, eq_self, bi_tuple, idx_l0, idx_l1, idx_l2, idx_l3, idx_t0, idx_t1, idx_t2, idx_t3, idx_t4, idx_t5, eqB_str, eqB_int, eqB_is, eqB_si, Bool.and_self, eqB_ts, eqB_st, ext_rfl, ext_app, ext_app2, tup_tup, tup_lst, eqB_non, Bool.false_eq_true, if_false, if_true, Bool.not_true, Bool.not_false, and_true, true_and, implies_true, forall_const, $a,*])
section
variable {G : GD} {U : Up} {n : Nat} {tl : Store} {s : Rng} {cs : List Kl} {left : Int} {ext : Store} {own : Bool} {nb at_ : Nat} {ks : List (Option Fl)} {hs : List Hd}
def HsOk (cs : List Kl) (hs : List Hd) : Prop := ∀ h ∈ hs, h.b < h.e ∧ h.c < cs.length
/-- what rows, and which state, a maker of rows leaves -/
def GP (tl ext : Store) (cs : List Kl) (nbx : Nat) (hs : List Hd) (at_ bound : Nat) (v : D) (st' : Store) : Prop :=
  ∃ (rows : List Rw) (s' : Rng) (ks' : List (Option Fl)) (hs' : List Hd) (left' : Int), v = .lst (rows.map Rw.d) ∧ st' = pst tl s' cs (ks'.map kD) (hs'.map Hd.d) left' ext ∧ ks'.length = nbx ∧ HsOk cs hs' ∧ hs'.length ≤ hs.length + rows.length ∧ RowsOk cs nbx at_ rows ∧ rows.length ≤ bound
theorem RowsOk.app' {b_ : Nat} {a b : List Rw} (ha : RowsOk cs nb at_ a) (e : at_ + a.length = b_) (hb : RowsOk cs nb b_ b) : RowsOk cs nb at_ (a ++ b) := by
  subst e
  exact ha.app hb
theorem RowsOk.go_ {r : Nat} : RowsOk cs nb at_ [.go r] := .one trivial (fun _ h => by cases h)
theorem RowsOk.iff_ {r : Nat} : RowsOk cs nb at_ [.iff r] := .one trivial (fun _ h => by cases h)
theorem RowsOk.bare_ {r : Nat} : RowsOk cs nb at_ [.bare r] := .one trivial (fun _ h => by cases h)
theorem RowsOk.store_ {b : Nat} (h : b < nb) : RowsOk cs nb at_ [.store b] := .one h (fun _ h => by cases h)
theorem castA (a b : Nat) : (a : Int) + (b : Int) = ((a + b : Nat) : Int) := by omega
theorem cast1 (a : Nat) : (a : Int) + 1 = ((a + 1 : Nat) : Int) := by omega
theorem cast2 (a : Nat) : (a : Int) + 2 = ((a + 2 : Nat) : Int) := by omega
theorem cast0 (a : Nat) : (a : Int) + 0 = (a : Int) := by omega
theorem cast1' (a : Nat) : 1 + (a : Int) = ((1 + a : Nat) : Int) := by omega
theorem int_t {st : Store} : biV G own .int [.bl true] st = .ok (.int 1) st := id rfl
theorem int_f {st : Store} : biV G own .int [.bl false] st = .ok (.int 0) st := id rfl
theorem max_i {st : Store} {i j : Int} : biV G own .max [.int i, .int j] st = .ok (.int (if j > i then j else i)) st := id rfl
theorem min_i {st : Store} {i j : Int} : biV G own .min [.int i, .int j] st = .ok (.int (if j < i then j else i)) st := id rfl
/-- one of three fields -/
theorem fl3 {k m : Nat} (h : k < m) : ∀ e ∈ [D.str "n", D.int 0, D.int k], ∃ f : Fl, e = f.d ∧ f.ok m := by
  intro e he
  simp at he
  rcases he with rfl | rfl | rfl
  · exact ⟨.num, rfl, trivial⟩
  · exact ⟨.of 0, rfl, by show 0 < m; omega⟩
  · exact ⟨.of k, rfl, h⟩
def BRes (G : GD) (U : Up) (tl : Store) (cs : List Kl) (nbx n d L : Nat) (ext : Store) (s : Rng) (ks : List (Option Fl)) (hs : List Hd) (left : Int) (at_ many : Nat) : Prop :=
  WP (callN G U LIB n "_law_block" [.ref 0, .ref (tl.length + 1), .int at_, .int many, .int d] (pst tl s cs (ks.map kD) (hs.map Hd.d) left ext)) (GP tl ext cs nbx hs at_ (many * L)) fun _ _ => False
def BlockOk (G : GD) (U : Up) (tl : Store) (cs : List Kl) (nbx n d L : Nat) : Prop := ∀ (ext : Store) (s : Rng) (ks : List (Option Fl)) (hs : List Hd) (left : Int) (at_ many : Nat), ks.length = nbx → many ≤ 7 → HsOk cs hs → hs.length ≤ 1000000 * (3 - d) →
  BRes G U tl cs nbx n d L ext s ks hs left at_ many
theorem g_branch (hc : ClsOk cs) (hb : ks.length ≤ 6) (hb1 : 1 ≤ ks.length) {d L : Nat} (hB : BlockOk G U tl cs ks.length (n + 3) d L) (hL1 : 40 ≤ L) (hL2 : L ≤ 1000) (hh : HsOk cs hs) (hhl : hs.length + 5000 ≤ 1000000 * (3 - d)) :
    WP (callN G U LIB (n + 4) "_law_branch" [.ref 0, .ref (tl.length + 1), .int at_, .int d] (pst tl s cs (ks.map kD) (hs.map Hd.d) left ext)) (GP tl ext cs ks.length hs at_ (20 + 3 * L)) fun _ _ => False := by
  unfold BlockOk at hB
  refine wp_call l__law_branch rfl ?_
  dsimp only [f__law_branch, List.map_cons, List.map_nil, List.replicate_succ, List.replicate_zero, List.cons_append, List.nil_append, Nat.reduceSub]
  have c6 := hc.c6
  have c1 := hc.c1
  have n0 : (0 : Int) < ks.length := by omega
  have n1 : (ks.length : Int) < 1073741824 := by omega
  have m0 : (0 : Int) < cs.length := by omega
  have m1 : (cs.length : Int) < 1073741824 := by omega
  have t4 := dk_lt s (m := 4) (by decide)
  have c4 : dk s 4 = 0 ∨ dk s 4 = 1 ∨ dk s 4 = 2 ∨ dk s 4 = 3 := by omega
  have tc := dk_lt (dn s 4) m0
  obtain ⟨w, ew⟩ : ∃ w, w = dk s 4 := ⟨_, rfl⟩
  obtain ⟨ot, eo⟩ : ∃ ot, ot = dk (dn s 4) cs.length := ⟨_, rfl⟩
  obtain ⟨s2, es2⟩ : ∃ s2, s2 = dn (dn s 4) cs.length := ⟨_, rfl⟩
  rw [← ew] at c4
  rw [← eo] at tc
  have hot : ot < cs.length := by omega
  rcases c4 with h4 | h4 | h4 | h4
  · -- an if, of two worths or of two blocks
    simp! [p_taken, p_cls, len_cls, m0, m1, ← es2, ← ew, ← eo, h4, int_t, give_f]
    refine WP.use (g_worth (n := n + 1) (at_ := at_) hc hb .num trivial) ?_
    rintro _ _ ⟨head, s3, rfl, rfl, hhead, hd1, hd3⟩
    have t2 := dk_lt s3 (m := 2) (by decide)
    by_cases hz : dk s3 2 = 0
    · have tb := dk_lt (dn s3 2) n0
      have r2 := rgok 0 2 (by decide)
      simp! [h4, p_taken, hz, p_b, p_lenb, n0, n1, r2, rg2]
      obtain ⟨bx, eb⟩ : ∃ bx, bx = dk (dn s3 2) ks.length := ⟨_, rfl⟩
      rw [← eb] at tb ⊢
      refine wdraw_eachP Fl.d (Fl.ok cs.length) (by decide) (fun m x => below_fl x) ?_ ?_
      · intro j x acc s5 _
        have u3 := dk_lt s5 (m := 3) (by decide)
        obtain ⟨e, he, f, rfl, hf⟩ := idx_ex (G := G) (st := pst tl (dn s5 3) cs (ks.map kD) (hs.map Hd.d) left (ext ++ [.lst acc])) (l := [.str "n", .int 0, .int ot]) (i := dk s5 3) (fun e => ∃ f : Fl, e = f.d ∧ f.ok cs.length) (by simp <;> omega) (fl3 hot)
        simp! [p_taken, give_f, he]
        exact ⟨f, _, rfl, hf, rfl⟩
      · intro xs s5 hxl hxs
        obtain ⟨k0, k1, rfl⟩ : ∃ k0 k1, xs = [k0, k1] := by
          match xs, hxl with
          | [a, b], _ => exact ⟨a, b, rfl⟩
        have hk0 := hxs k0 (by simp)
        have hk1 := hxs k1 (by simp)
        simp! [castA, cast1, cast2, cast0]
        refine WP.use (g_worth (n := n + 1) hc hb k0 hk0) ?_
        rintro _ _ ⟨first, s6, rfl, rfl, hfirst, hf1, hf3⟩
        have q1 : first.length + 1 ≤ LIM := by show _ ≤ 16777216; omega
        simp! [give_f, q1, List.length_append, castA, cast1, cast2, cast0]
        refine WP.use (g_worth (n := n + 1) hc hb k1 hk1) ?_
        rintro _ _ ⟨second, s7, rfl, rfl, hsec, hs1, hs3⟩
        have q2 : second.length + 1 ≤ LIM := by show _ ≤ 16777216; omega
        obtain ⟨kz, hkz⟩ : ∃ k, cs[0]? = some k := ⟨_, List.getElem?_eq_getElem c1⟩
        have ek : ∀ st, idxV G st (clsD cs) (.int 0) = some kz.d := fun st => idx_cls (i := 0) hkz
        have hpk : purAll 60 [k0.d, k1.d] = true := by simp [purAll, pur_fl]
        have hbx : RwOk cs ks.length (.store bx) := by show bx < ks.length; omega
        have hbx2 : RwOk cs ks.length (.load bx) := by show bx < ks.length; omega
        have his : RwOk cs ks.length (.is_ ot) := hot
        by_cases hfe : kz.flds = []
        · simp! [give_f, q2, p_cls, ek, Kl.d, hfe, eqB_tnil (l := []) rfl, List.isEmpty]
          cases hnn : ([k0.d, k1.d].any fun y => eqv y (.str "n")) with
          | true =>
            simp_all! [mem_lst (G := G) (x := .str "n") (l := [k0.d, k1.d]) rfl hpk, hnn, int_t, int_f, op2_mul, mul_lst (j := 1) (m := 1) rfl (by decide), mul_lst (j := 0) (m := 0) rfl (by decide), List.replicate_one, List.replicate_zero, give_f, castA, cast1, cast2, cast0]
            rw [cut_pst0]
            refine ⟨head ++ [.iff (at_ + head.length + (first.length + 1) + 2)] ++ (first ++ [.store bx]) ++ [.go (at_ + head.length + (first.length + 1) + 2 + (second.length + 1))] ++ (second ++ [.store bx]) ++ [.load bx, .drop], _, ks, hs, left, by simp [Rw.d], rfl, rfl, hh, by simp <;> omega, ?_, by simp <;> omega⟩
            refine ((((hhead.app .iff_).app' (by simp <;> omega) (hfirst.app (.one hbx (fun _ h => by cases h)))).app .go_).app' (by simp <;> omega) (hsec.app (.one hbx (fun _ h => by cases h)))).app (.simple ?_)
            intro w hw
            simp at hw
            rcases hw with rfl | rfl
            · exact ⟨hbx, fun _ h => by cases h⟩
            · exact ⟨trivial, fun _ h => by cases h⟩
          | false =>
            simp_all! [mem_lst (G := G) (x := .str "n") (l := [k0.d, k1.d]) rfl hpk, hnn, int_t, int_f, op2_mul, mul_lst (j := 1) (m := 1) rfl (by decide), mul_lst (j := 0) (m := 0) rfl (by decide), List.replicate_one, List.replicate_zero, give_f, castA, cast1, cast2, cast0]
            rw [cut_pst0]
            refine ⟨head ++ [.iff (at_ + head.length + (first.length + 1) + 2)] ++ (first ++ [.store bx]) ++ [.go (at_ + head.length + (first.length + 1) + 2 + (second.length + 1))] ++ (second ++ [.store bx]) ++ [.load bx, .is_ ot, .drop], _, ks, hs, left, by simp [Rw.d], rfl, rfl, hh, by simp <;> omega, ?_, by simp <;> omega⟩
            refine ((((hhead.app .iff_).app' (by simp <;> omega) (hfirst.app (.one hbx (fun _ h => by cases h)))).app .go_).app' (by simp <;> omega) (hsec.app (.one hbx (fun _ h => by cases h)))).app (.simple ?_)
            intro w hw
            simp at hw
            rcases hw with rfl | rfl | rfl
            · exact ⟨hbx, fun _ h => by cases h⟩
            · exact ⟨his, fun _ h => by cases h⟩
            · exact ⟨trivial, fun _ h => by cases h⟩
        · have hfe' : kz.flds.isEmpty = false := by
            cases hq : kz.flds with
            | nil => exact absurd hq hfe
            | cons _ _ => rfl
          have hget : RwOk cs ks.length (.get 0 0) := ⟨kz, hkz, List.length_pos_iff.mpr hfe⟩
          have u2 := dk_lt s7 (m := 2) (by decide)
          by_cases hy : dk s7 2 = 0
          · simp! [give_f, q2, p_cls, ek, Kl.d, eqB_tnil (purTF kz.flds), map_isEmpty, hfe', p_taken, hy]
            cases hnn : ([k0.d, k1.d].any fun y => eqv y (.str "n")) with
            | true =>
              simp_all! [mem_lst (G := G) (x := .str "n") (l := [k0.d, k1.d]) rfl hpk, hnn, int_t, int_f, op2_mul, mul_lst (j := 1) (m := 1) rfl (by decide), mul_lst (j := 0) (m := 0) rfl (by decide), List.replicate_one, List.replicate_zero, give_f, castA, cast1, cast2, cast0]
              rw [cut_pst0]
              refine ⟨head ++ [.iff (at_ + head.length + (first.length + 1) + 2)] ++ (first ++ [.store bx]) ++ [.go (at_ + head.length + (first.length + 1) + 2 + (second.length + 1))] ++ (second ++ [.store bx]) ++ [.load bx, .drop], _, ks, hs, left, by simp [Rw.d], rfl, rfl, hh, by simp <;> omega, ?_, by simp <;> omega⟩
              refine ((((hhead.app .iff_).app' (by simp <;> omega) (hfirst.app (.one hbx (fun _ h => by cases h)))).app .go_).app' (by simp <;> omega) (hsec.app (.one hbx (fun _ h => by cases h)))).app (.simple ?_)
              intro w hw
              simp at hw
              rcases hw with rfl | rfl
              · exact ⟨hbx, fun _ h => by cases h⟩
              · exact ⟨trivial, fun _ h => by cases h⟩
            | false =>
              simp_all! [mem_lst (G := G) (x := .str "n") (l := [k0.d, k1.d]) rfl hpk, hnn, int_t, int_f, op2_mul, mul_lst (j := 1) (m := 1) rfl (by decide), mul_lst (j := 0) (m := 0) rfl (by decide), List.replicate_one, List.replicate_zero, give_f, castA, cast1, cast2, cast0]
              rw [cut_pst0]
              refine ⟨head ++ [.iff (at_ + head.length + (first.length + 1) + 2)] ++ (first ++ [.store bx]) ++ [.go (at_ + head.length + (first.length + 1) + 2 + (second.length + 1))] ++ (second ++ [.store bx]) ++ [.load bx, .get 0 0, .drop], _, ks, hs, left, by simp [Rw.d], rfl, rfl, hh, by simp <;> omega, ?_, by simp <;> omega⟩
              refine ((((hhead.app .iff_).app' (by simp <;> omega) (hfirst.app (.one hbx (fun _ h => by cases h)))).app .go_).app' (by simp <;> omega) (hsec.app (.one hbx (fun _ h => by cases h)))).app (.simple ?_)
              intro w hw
              simp at hw
              rcases hw with rfl | rfl | rfl
              · exact ⟨hbx, fun _ h => by cases h⟩
              · exact ⟨hget, fun _ h => by cases h⟩
              · exact ⟨trivial, fun _ h => by cases h⟩
          · have hy' : ((dk s7 2 : Nat) : Int) ≠ 0 := by omega
            simp! [give_f, q2, p_cls, ek, Kl.d, eqB_tnil (purTF kz.flds), map_isEmpty, hfe', p_taken, hy']
            cases hnn : ([k0.d, k1.d].any fun y => eqv y (.str "n")) with
            | true =>
              simp_all! [mem_lst (G := G) (x := .str "n") (l := [k0.d, k1.d]) rfl hpk, hnn, int_t, int_f, op2_mul, mul_lst (j := 1) (m := 1) rfl (by decide), mul_lst (j := 0) (m := 0) rfl (by decide), List.replicate_one, List.replicate_zero, give_f, castA, cast1, cast2, cast0]
              rw [cut_pst0]
              refine ⟨head ++ [.iff (at_ + head.length + (first.length + 1) + 2)] ++ (first ++ [.store bx]) ++ [.go (at_ + head.length + (first.length + 1) + 2 + (second.length + 1))] ++ (second ++ [.store bx]) ++ [.load bx, .drop], _, ks, hs, left, by simp [Rw.d], rfl, rfl, hh, by simp <;> omega, ?_, by simp <;> omega⟩
              refine ((((hhead.app .iff_).app' (by simp <;> omega) (hfirst.app (.one hbx (fun _ h => by cases h)))).app .go_).app' (by simp <;> omega) (hsec.app (.one hbx (fun _ h => by cases h)))).app (.simple ?_)
              intro w hw
              simp at hw
              rcases hw with rfl | rfl
              · exact ⟨hbx, fun _ h => by cases h⟩
              · exact ⟨trivial, fun _ h => by cases h⟩
            | false =>
              simp_all! [mem_lst (G := G) (x := .str "n") (l := [k0.d, k1.d]) rfl hpk, hnn, int_t, int_f, op2_mul, mul_lst (j := 1) (m := 1) rfl (by decide), mul_lst (j := 0) (m := 0) rfl (by decide), List.replicate_one, List.replicate_zero, give_f, castA, cast1, cast2, cast0]
              rw [cut_pst0]
              refine ⟨head ++ [.iff (at_ + head.length + (first.length + 1) + 2)] ++ (first ++ [.store bx]) ++ [.go (at_ + head.length + (first.length + 1) + 2 + (second.length + 1))] ++ (second ++ [.store bx]) ++ [.load bx, .is_ ot, .drop], _, ks, hs, left, by simp [Rw.d], rfl, rfl, hh, by simp <;> omega, ?_, by simp <;> omega⟩
              refine ((((hhead.app .iff_).app' (by simp <;> omega) (hfirst.app (.one hbx (fun _ h => by cases h)))).app .go_).app' (by simp <;> omega) (hsec.app (.one hbx (fun _ h => by cases h)))).app (.simple ?_)
              intro w hw
              simp at hw
              rcases hw with rfl | rfl | rfl
              · exact ⟨hbx, fun _ h => by cases h⟩
              · exact ⟨his, fun _ h => by cases h⟩
              · exact ⟨trivial, fun _ h => by cases h⟩
    · have hz' : ((dk s3 2 : Nat) : Int) ≠ 0 := by omega
      have u2 := dk_lt (dn s3 2) (m := 2) (by decide)
      simp! [h4, p_taken, hz', int_t, castA, cast1, cast2, cast0, cast1']
      refine WP.use (Q := GP tl ext cs _ _ _ _) (hB ext (dn (dn s3 2) 2) ks hs left (at_ + head.length + 1) (1 + dk (dn s3 2) 2) rfl (by omega) hh (by omega)) ?_
      rintro _ _ ⟨first, s5, ks5, hs5, left5, rfl, rfl, hk5, hh5, hl5, hf, hfl⟩
      have hfl' : first.length ≤ 2 * L := Nat.le_trans hfl (Nat.mul_le_mul_right L (by omega))
      have v2 := dk_lt s5 (m := 2) (by decide)
      simp! [h4, p_taken, int_t, castA, cast1, cast2, cast0, cast1']
      refine WP.use (Q := GP tl ext cs _ _ _ _) (hB ext (dn s5 2) ks5 hs5 left5 (at_ + head.length + 1 + first.length + 1) (dk s5 2) hk5 (by omega) hh5 (by omega)) ?_
      rintro _ _ ⟨second, s6, ks6, hs6, left6, rfl, rfl, hk6, hh6, hl6, hg, hgl⟩
      have hgl' : second.length ≤ 1 * L := Nat.le_trans hgl (Nat.mul_le_mul_right L (by omega))
      simp_all! [h4, give_f, castA, cast1, cast2, cast0, cast1']
      rw [cut_len (by simp [pst_len])]
      refine ⟨head ++ [.iff (at_ + head.length + 1 + first.length + 1)] ++ first ++ [.go (at_ + head.length + 1 + first.length + 1 + second.length)] ++ second, s6, ks6, hs6, left6, by simp [Rw.d], rfl, hk6, hh6, by simp; omega, ?_, by simp; omega⟩
      exact (((hhead.app .iff_).app' (by simp <;> omega) hf).app .go_).app' (by simp <;> omega) hg
  · -- a while
    simp! [p_taken, p_cls, len_cls, m0, m1, ← es2, ← ew, ← eo, h4, int_t, give_f]
    refine WP.use (g_worth (n := n + 1) (at_ := at_) hc hb .num trivial) ?_
    rintro _ _ ⟨head, s3, rfl, rfl, hhead, hd1, hd3⟩
    have u2 := dk_lt s3 (m := 2) (by decide)
    simp! [h4, p_taken, int_t, castA, cast1, cast2, cast0, cast1']
    refine WP.use (Q := GP tl ext cs _ _ _ _) (hB ext (dn s3 2) ks hs left (at_ + head.length + 1) (1 + dk s3 2) rfl (by omega) hh (by omega)) ?_
    rintro _ _ ⟨first, s5, ks5, hs5, left5, rfl, rfl, hk5, hh5, hl5, hf, hfl⟩
    have hfl' : first.length ≤ 2 * L := Nat.le_trans hfl (Nat.mul_le_mul_right L (by omega))
    simp_all! [h4, p_taken, int_t, give_f, castA, cast1, cast2, cast0, cast1']
    rw [cut_len (by simp [pst_len])]
    refine ⟨head ++ [.iff (at_ + head.length + 1 + first.length + 1)] ++ first ++ [.go at_], s5, ks5, hs5, left5, by simp [Rw.d], rfl, hk5, hh5, by simp; omega, ?_, by simp; omega⟩
    exact ((hhead.app .iff_).app' (by simp <;> omega) hf).app .go_
  · -- a look for none
    have h0 : Fl.ok cs.length (.of 0) := by show 0 < cs.length; omega
    simp! [p_taken, p_cls, len_cls, m0, m1, ← es2, ← ew, ← eo, h4, int_f, give_f]
    refine WP.use (g_worth (n := n + 1) (at_ := at_) hc hb (.of 0) h0) ?_
    rintro _ _ ⟨head, s3, rfl, rfl, hhead, hd1, hd3⟩
    have u2 := dk_lt s3 (m := 2) (by decide)
    simp! [h4, p_taken, int_t, castA, cast1, cast2, cast0, cast1']
    refine WP.use (Q := GP tl ext cs _ _ _ _) (hB ext (dn s3 2) ks hs left (at_ + head.length + 1) (1 + dk s3 2) rfl (by omega) hh (by omega)) ?_
    rintro _ _ ⟨first, s5, ks5, hs5, left5, rfl, rfl, hk5, hh5, hl5, hf, hfl⟩
    have hfl' : first.length ≤ 2 * L := Nat.le_trans hfl (Nat.mul_le_mul_right L (by omega))
    have v2 := dk_lt s5 (m := 2) (by decide)
    simp! [h4, p_taken, int_t, castA, cast1, cast2, cast0, cast1']
    refine WP.use (Q := GP tl ext cs _ _ _ _) (hB ext (dn s5 2) ks5 hs5 left5 (at_ + head.length + 1 + first.length + 1) (dk s5 2) hk5 (by omega) hh5 (by omega)) ?_
    rintro _ _ ⟨second, s6, ks6, hs6, left6, rfl, rfl, hk6, hh6, hl6, hg, hgl⟩
    have hgl' : second.length ≤ 1 * L := Nat.le_trans hgl (Nat.mul_le_mul_right L (by omega))
    simp_all! [h4, give_f, castA, cast1, cast2, cast0, cast1']
    rw [cut_len (by simp [pst_len])]
    refine ⟨head ++ [.bare (at_ + head.length + 1 + first.length + 1)] ++ first ++ [.go (at_ + head.length + 1 + first.length + 1 + second.length)] ++ second, s6, ks6, hs6, left6, by simp [Rw.d], rfl, hk6, hh6, by simp; omega, ?_, by simp; omega⟩
    exact (((hhead.app .bare_).app' (by simp <;> omega) hf).app .go_).app' (by simp <;> omega) hg
  · -- a try
    have u2 := dk_lt s2 (m := 2) (by decide)
    simp! [p_taken, p_cls, len_cls, m0, m1, ← es2, ← ew, ← eo, h4, int_f, give_f, castA, cast1, cast2, cast0, cast1']
    refine WP.use (Q := GP tl ext cs _ _ _ _) (hB ext (dn s2 2) ks hs left at_ (1 + dk s2 2) rfl (by omega) hh (by omega)) ?_
    rintro _ _ ⟨first, s5, ks5, hs5, left5, rfl, rfl, hk5, hh5, hl5, hf, hfl⟩
    have hfl' : first.length ≤ 2 * L := Nat.le_trans hfl (Nat.mul_le_mul_right L (by omega))
    have v2 := dk_lt s5 (m := 2) (by decide)
    obtain ⟨e, he, c, rfl, hcc⟩ := idx_ex (G := G) (st := pst tl (dn s5 2) cs (ks5.map kD) (hs5.map Hd.d) left5 ext) (l := [.int 0, .int ot]) (i := dk s5 2) (fun e => ∃ c : Nat, e = .int c ∧ c < cs.length) (by simp; omega) (by
      intro e he
      simp at he
      rcases he with rfl | rfl
      · exact ⟨0, rfl, by omega⟩
      · exact ⟨ot, rfl, hot⟩)
    obtain ⟨en, hen, hen2⟩ : ∃ en : Nat, (if ((at_ + first.length + 1 : Nat) : Int) - 1 > ((at_ + 1 : Nat) : Int) then ((at_ + first.length + 1 : Nat) : Int) - 1 else ((at_ + 1 : Nat) : Int)) = (en : Int) ∧ at_ < en := by
      refine ⟨max (at_ + 1) (at_ + first.length), ?_, by omega⟩
      split <;> omega
    have b0 : (0 : Int) < ks5.length := by omega
    have b1 : (ks5.length : Int) < 1073741824 := by omega
    have tb := dk_lt (dn s5 2) b0
    have t3 := dk_lt (dn (dn s5 2) ks5.length) (m := 3) (by decide)
    have c3 : dk (dn (dn s5 2) ks5.length) 3 = 0 ∨ dk (dn (dn s5 2) ks5.length) 3 = 1 ∨ dk (dn (dn s5 2) ks5.length) 3 = 2 := by omega
    have hhn : HsOk cs (hs5 ++ [Hd.mk at_ en (at_ + first.length + 1) c]) := by
      intro h hm
      rcases List.mem_append.mp hm with hm | hm
      · exact hh5 h hm
      · simp at hm
        subst hm
        exact ⟨hen2, hcc⟩
    have hdd : hs5.map Hd.d ++ [D.tup [.int at_, .int en, .int ((at_ + first.length + 1 : Nat) : Int), .int c]] = (hs5 ++ [Hd.mk at_ en (at_ + first.length + 1) c]).map Hd.d := by simp [Hd.d]
    have hlh : (hs5.map Hd.d).length < LIM := by rw [List.length_map]; show _ < 16777216; omega
    obtain ⟨bx, eb⟩ : ∃ bx, bx = dk (dn s5 2) ks5.length := ⟨_, rfl⟩
    rw [← eb] at tb
    have hbx : bx < ks.length := by omega
    rcases c3 with h3 | h3 | h3
    · simp_all! [h4, p_taken, p_h, p_rcvh, give_f, castA, cast1, cast2, cast0, cast1', max_i, hen, he, p_apph hlh, hdd, p_b, p_lenb, b0, b1, h3, int_f, ← eb]
      rw [cut_len (by simp [pst_len])]
      refine ⟨first ++ [.go (at_ + first.length + 1 + 1)] ++ [.drop], _, ks5, _, left5, by simp [Rw.d], rfl, hk5, hhn, by simp; omega, ?_, by simp; omega⟩
      exact (hf.app .go_).app (.one trivial (fun _ h => by cases h))
    · simp_all! [h4, p_taken, p_h, p_rcvh, give_f, castA, cast1, cast2, cast0, cast1', max_i, hen, he, p_apph hlh, hdd, p_b, p_lenb, b0, b1, h3, int_f, ← eb]
      rw [cut_len (by simp [pst_len])]
      refine ⟨first ++ [.go (at_ + first.length + 1 + 1)] ++ [.store bx], _, ks5, _, left5, by simp [Rw.d], rfl, hk5, hhn, by simp; omega, ?_, by simp; omega⟩
      exact (hf.app .go_).app (.store_ hbx)
    · simp_all! [h4, p_taken, p_h, p_rcvh, give_f, castA, cast1, cast2, cast0, cast1', max_i, hen, he, p_apph hlh, hdd, p_b, p_lenb, b0, b1, h3, int_f, ← eb]
      rw [cut_len (by simp [pst_len])]
      refine ⟨first ++ [.go (at_ + first.length + 1 + 2)] ++ [.is_ ot, .drop], _, ks5, _, left5, by simp [Rw.d], rfl, hk5, hhn, by simp; omega, ?_, by simp; omega⟩
      refine (hf.app .go_).app (.simple ?_)
      intro w hw
      simp at hw
      rcases hw with rfl | rfl
      · exact ⟨hot, fun _ h => by cases h⟩
      · exact ⟨trivial, fun _ h => by cases h⟩
/-! ### the last list behind the maker's store -/
variable {bs hsD : List D}
theorem pe_at {l : List D} : (pst tl s cs bs hsD left (ext ++ [.lst l]))[tl.length + 4 + ext.length]? = some (.lst l) := by
  rw [← pst_app, ← pst_len (s := s) (cs := cs) (bs := bs) (hs := hsD) (left := left) (ext := ext)]
  exact get_last
theorem pe_set {l : List D} {o : O} : (pst tl s cs bs hsD left (ext ++ [.lst l])).set (tl.length + 4 + ext.length) o = pst tl s cs bs hsD left (ext ++ [o]) := by
  rw [← pst_app, ← pst_len (s := s) (cs := cs) (bs := bs) (hs := hsD) (left := left) (ext := ext), set_last, pst_app]
theorem pe_len {l : List D} : biV G own .len [.ref (tl.length + 4 + ext.length)] (pst tl s cs bs hsD left (ext ++ [.lst l])) = .ok (.int l.length) (pst tl s cs bs hsD left (ext ++ [.lst l])) := by
  have e : ∀ x st, biV G own .len [x] st = okB st (fun n : Nat => .int n) (lenV st x) := fun _ _ => rfl
  rw [e]
  simp only [lenV, pe_at]
  rfl
theorem pe_rcv {l : List D} : recv .extend (pst tl s cs bs hsD left (ext ++ [.lst l])) (.ref (tl.length + 4 + ext.length)) = true := by
  simp [recv, lstOf, pe_at]
theorem pe_ext {l es : List D} (h : l.length + es.length ≤ LIM) : biV G own .extend [.ref (tl.length + 4 + ext.length), .lst es] (pst tl s cs bs hsD left (ext ++ [.lst l])) = .ok .non (pst tl s cs bs hsD left (ext ++ [.lst (l ++ es)])) := by
  have e2 : ∀ x y st, biV G own .extend [x, y] st = objL st x fun r ds => onL st y fun es => if ds.length + es.length ≤ LIM then .ok .non (st.set r (.lst (ds ++ es))) else .bad := fun _ _ _ => rfl
  rw [e2]
  simp only [objL, pe_at, onL, lstOf, h, if_true, pe_set]
theorem pe_frz {l : List D} : freeze (tl.length + 4 + ext.length) (pst tl s cs bs hsD left (ext ++ [.lst l])) = .ok (.lst l) (pst tl s cs bs hsD left (ext ++ [.dead])) := by
  simp only [freeze, pe_at, pe_set]
theorem below_hds {m : Nat} {hs : List Hd} : belowAll m (hs.map Hd.d) = true := belowAll_map (fun w => by simp [Hd.d, below, belowAll]) _
end
end MP

set_option linter.all false
set_option maxRecDepth 100000
set_option maxHeartbeats 4000000
/-! The maker of programs: blocks. -/
namespace MP
open MG
local macro_rules
  | `(tactic| simp! [$a,*]) => `(tactic| simp -dsimp only [wpE_var, wpE_k, wpE_nil, wpE_cons, wpE_lst, wpE_op1, wpE_op2, wpE_and, wpE_or, wpE_ite, wpE_chain, wpE_slc, wpE_rev, wpE_bi, wpE_bm, wpE_call, wpE_meth, wpE_make, wpE_fld, wpE_comp, wpE_rng, wpE_rrng, wpE_enum, wpE_zip, wpE_dict, wpE_frz, asgW_var, asgW_fld, asgW_op2, asgW_nil, asgW_cons, wsS_skip, wsS_seq, wsS_ex, wsS_asg, wsS_ret, wsS_ife, wsS_for, wsS_while, wsS_raise, wsS_try0, wsS_try1, wsS_cont, getE_0, getE_s, putW_0, putW_s, getW_some, WP_ok, WP_err, tupW_tup, blW_t, blW_f, nonW_non, lstW_some, iterW_some, iter_tup, iter_lst, partW_some, part_n, part_v, part_i, part_2, part_b, insW_some, refW_ref, ints2W_int, stoW_some, envW_var, envW_cons, envW_nil, prsW_some, okW_t, fitsT_var, fitsT_fld, fitsT_op2, fitsT_2, fitsT_3, fitsT_6, unp_var, unp_fld, unp_op2, unp_tup, unp_lst, List.map_cons, List.map_nil, List.cons_append, List.nil_append, wipe_nil, wipe_cons, List.set_cons_succ, List.set_cons_zero, isInt_tup, isInt_lst, isInt_int, isInt_str, isInt_bl, isInt_non, isInt_scr, isBool_tup, isBool_lst, isBool_int, isBool_str, isBool_bl, isBool_non, isBool_scr, isStr_tup, isStr_lst, isStr_int, isStr_str, isStr_bl, isStr_non, isStr_scr, isTup_tup, isTup_lst, isTup_int, isTup_str, isTup_bl, isTup_non, isTup_scr, isLst_tup, isLst_lst, isLst_int, isLst_str, isLst_bl, isLst_non, isLst_scr, isTL_tup, isTL_lst, isTL_int, isTL_str, isTL_bl, isTL_non, isTL_scr, isN_tup, notN_tup, isN_lst, notN_lst, isN_int, notN_int, isN_str, notN_str, isN_bl, notN_bl, isN_non, notN_non, isN_scr, notN_scr, isN_ref, notN_ref, not_bl, neg_int, len_tup, List.length_map, len_lst, len_scr, pur_int, pur_str, pur_bl, pur_non, pur_tup, pur_lst, purAll_nil, purAll_cons, op2_idx, op2_add, op2_sub, add_int, add_lst, add_tup, List.length_cons, List.length_nil, Nat.reduceAdd, Nat.zero_add, Nat.add_zero, nc0, nc1, nc2, nc3, nc4, nc5, nc6, nc7, nc8, nc9, Int.reduceLT, Int.reduceEq, Int.reduceMod, Int.reduceAdd, Int.reduceSub, op2_eq, op2_ne, op2_lt, op2_le, op2_gt, op2_ge, op2_in, op2_nin, okB_some, id_eq, decide_true, decide_false, decide_not, String.reduceEq, reduceCtorEq, String.reduceAppend, Option.isNone_none, eq_self, bi_tuple, idx_l0, idx_l1, idx_l2, idx_l3, idx_t0, idx_t1, idx_t2, idx_t3, idx_t4, idx_t5, eqB_str, eqB_int, eqB_is, eqB_si, Bool.and_self, eqB_ts, eqB_st, ext_rfl, ext_app, ext_app2, tup_tup, tup_lst, eqB_non, Bool.false_eq_true, if_false, if_true, Bool.not_true, Bool.not_false, and_true, true_and, implies_true, forall_const, $a,*])
  | `(tactic| simp_all! [$a,*]) => `(tactic| simp -dsimp (disch := first | with_reducible assumption | ((try simp only [List.length_map, List.length_append, List.length_cons, List.length_nil, List.length_replicate, List.length_range, List.length_reverse, LIM]) <;> omega)) only [wpE_var, wpE_k, wpE_nil, wpE_cons, wpE_lst, wpE_op1, wpE_op2, wpE_and, wpE_or, wpE_ite, wpE_chain, wpE_slc, wpE_rev, wpE_bi, wpE_bm, wpE_call, wpE_meth, wpE_make, wpE_fld, wpE_comp, wpE_rng, wpE_rrng, wpE_enum, wpE_zip, wpE_dict, wpE_frz, asgW_var, asgW_fld, asgW_op2, asgW_nil, asgW_cons, wsS_skip, wsS_seq, wsS_ex, wsS_asg, wsS_ret, wsS_ife, wsS_for, wsS_while, wsS_raise, wsS_try0, wsS_try1, wsS_cont, getE_0, getE_s, putW_0, putW_s, getW_some, WP_ok, WP_err, tupW_tup, blW_t, blW_f, nonW_non, lstW_some, iterW_some, iter_tup, iter_lst, partW_some, part_n, part_v, part_i, part_2, part_b, insW_some, refW_ref, ints2W_int, stoW_some, envW_var, envW_cons, envW_nil, prsW_some, okW_t, fitsT_var, fitsT_fld, fitsT_op2, fitsT_2, fitsT_3, fitsT_6, unp_var, unp_fld, unp_op2, unp_tup, unp_lst, List.map_cons, List.map_nil, List.cons_append, List.nil_append, wipe_nil, wipe_cons, List.set_cons_succ, List.set_cons_zero, isInt_tup, isInt_lst, isInt_int, isInt_str, isInt_bl, isInt_non, isInt_scr, isBool_tup, isBool_lst, isBool_int, isBool_str, isBool_bl, isBool_non, isBool_scr, isStr_tup, isStr_lst, isStr_int, isStr_str, isStr_bl, isStr_non, isStr_scr, isTup_tup, isTup_lst, isTup_int, isTup_str, isTup_bl, isTup_non, isTup_scr, isLst_tup, isLst_lst, isLst_int, isLst_str, isLst_bl, isLst_non, isLst_scr, isTL_tup, isTL_lst, isTL_int, isTL_str, isTL_bl, isTL_non, isTL_scr, isN_tup, notN_tup, isN_lst, notN_lst, isN_int, notN_int, isN_str, notN_str, isN_bl, notN_bl, isN_non, notN_non, isN_scr, notN_scr, isN_ref, notN_ref, not_bl, neg_int, len_tup, List.length_map, len_lst, len_scr, pur_int, pur_str, pur_bl, pur_non, pur_tup, pur_lst, purAll_nil, purAll_cons, op2_idx, op2_add, op2_sub, add_int, add_lst, add_tup, List.length_cons, List.length_nil, Nat.reduceAdd, Nat.zero_add, Nat.add_zero, nc0, nc1, nc2, nc3, nc4, nc5, nc6, nc7, nc8, nc9, Int.reduceLT, Int.reduceEq, Int.reduceMod, Int.reduceAdd, Int.reduceSub, op2_eq, op2_ne, op2_lt, op2_le, op2_gt, op2_ge, op2_in, op2_nin, okB_some, id_eq, decide_true, decide_false, decide_not, String.reduceEq, reduceCtorEq, String.reduceAppend, Option.isNone_none, eq_self, bi_tuple, idx_l0, idx_l1, idx_l2, idx_l3, idx_t0, idx_t1, idx_t2, idx_t3, idx_t4, idx_t5, eqB_str, eqB_int, eqB_is, eqB_si, Bool.and_self, eqB_ts, eqB_st, ext_rfl, ext_app, ext_app2, tup_tup, tup_lst, eqB_non, Bool.false_eq_true, if_false, if_true, Bool.not_true, Bool.not_false, and_true, true_and, implies_true, forall_const, $a,*])
section
variable {G : GD} {U : Up} {n : Nat} {tl : Store} {s : Rng} {cs : List Kl} {left : Int} {ext : Store} {own : Bool} {nb at_ : Nat} {ks : List (Option Fl)} {hs : List Hd}
theorem g_block1 (hc : ClsOk cs) (hb : nb ≤ 6) (hb1 : 1 ≤ nb) {d L : Nat} (hd : d ≤ 2) (hL1 : 40 ≤ L) (hL2 : L ≤ 1000) (hbr : ∀ d', d = d' + 1 → BlockOk G U tl cs nb (n + 3) d' L) : BlockOk G U tl cs nb (n + 5) d (20 + 3 * L) := by
  intro ext s ks hs left at_ many hks hm hh hhl
  show WP _ _ _
  refine wp_call l__law_block rfl ?_
  dsimp only [f__law_block, List.map_cons, List.map_nil, List.replicate_succ, List.replicate_zero, List.cons_append, List.nil_append, Nat.reduceSub]
  have r1 := rgok 0 (many : Int) (by omega)
  simp! [give_t, pst_len, pst_app, r1]
  refine wfor (fun i ρ st => ∃ (rows : List Rw) (s' : Rng) (ks' : List (Option Fl)) (hs' : List Hd) (left' : Int) (a b c : Option D), ρ = [some (.ref 0), some (.ref (tl.length + 1)), some (.int at_), some (.int many), some (.int d), some (.ref (tl.length + 4 + ext.length)), a, b, c] ∧ st = pst tl s' cs (ks'.map kD) (hs'.map Hd.d) left' (ext ++ [.lst (rows.map Rw.d)]) ∧ ks'.length = nb ∧ HsOk cs hs' ∧ hs'.length ≤ hs.length + rows.length ∧ RowsOk cs nb at_ rows ∧ rows.length ≤ i * (20 + 3 * L)) ⟨[], s, ks, hs, left, _, _, _, rfl, rfl, hks, hh, by simp, .nil, by simp⟩ ?_ ?_
  · rintro i x ρ _ hx ⟨rows, s', ks', hs', left', a, b, c, rfl, rfl, hk', hh', hl', hr, hrl⟩
    obtain ⟨rfl, him⟩ := rg_get hx
    refine ⟨rfl, ?_⟩
    have hrb : rows.length ≤ 7 * 3020 := by
      refine Nat.le_trans hrl (Nat.le_trans (Nat.mul_le_mul_right _ (show i ≤ 7 by omega)) ?_)
      omega
    have t8 := dk_lt s' (m := 8) (by decide)
    by_cases hleft : 0 < left'
    · by_cases h5 : ((dk s' 8 : Nat) : Int) < 5
      · simp! [p_taken, p_left, hleft, h5, pe_len, castA, cast1, cast2, cast0, cast1']
        refine WP.use (g_assign (n := n + 1) hc (by omega) (by omega)) ?_
        rintro _ _ ⟨new, s2, ks2, rfl, rfl, hk2, hnew, hn1, hn2⟩
        simp_all! [p_left, p_setl, pe_rcv, pe_ext, give_f]
        refine ⟨rows ++ new, s2, ks2, hs', left' - new.length, _, _, _, rfl, by rw [List.map_append], by omega, hh', by simp; omega, hr.app (by rw [← hk']; exact hnew), ?_⟩
        rw [List.length_append, Nat.add_mul]
        omega
      · by_cases h0 : d = 0
        · subst h0
          simp! [p_taken, p_left, hleft, h5, pe_len, castA, cast1, cast2, cast0, cast1']
          refine WP.use (g_assign (n := n + 1) hc (by omega) (by omega)) ?_
          rintro _ _ ⟨new, s2, ks2, rfl, rfl, hk2, hnew, hn1, hn2⟩
          simp_all! [p_left, p_setl, pe_rcv, pe_ext, give_f]
          refine ⟨rows ++ new, s2, ks2, hs', left' - new.length, _, _, _, rfl, by rw [List.map_append], by omega, hh', by simp; omega, hr.app (by rw [← hk']; exact hnew), ?_⟩
          rw [List.length_append, Nat.add_mul]
          omega
        · have h0' : ((d : Int) = 0) = False := eq_false (by omega)
          by_cases h8 : left' < 8
          · simp! [p_taken, p_left, hleft, h5, h0', h8, pe_len, castA, cast1, cast2, cast0, cast1']
            refine WP.use (g_assign (n := n + 1) hc (by omega) (by omega)) ?_
            rintro _ _ ⟨new, s2, ks2, rfl, rfl, hk2, hnew, hn1, hn2⟩
            simp_all! [p_left, p_setl, pe_rcv, pe_ext, give_f]
            refine ⟨rows ++ new, s2, ks2, hs', left' - new.length, _, _, _, rfl, by rw [List.map_append], by omega, hh', by simp; omega, hr.app (by rw [← hk']; exact hnew), ?_⟩
            rw [List.length_append, Nat.add_mul]
            omega
          · obtain ⟨d', rfl⟩ : ∃ d', d = d' + 1 := ⟨d - 1, by omega⟩
            by_cases hw : dk s' 8 = 5
            · have hz : Fl.ok cs.length (.of 0) := by have := hc.c1; show 0 < cs.length; omega
              simp! [p_taken, p_left, hleft, h5, h0', h8, hw, pe_len, castA, cast1, cast2, cast0, cast1']
              refine WP.use (g_worth (n := n + 2) (ks := ks') (at_ := at_ + rows.length) hc (by omega) (.of 0) hz) ?_
              rintro _ _ ⟨new, s2, rfl, rfl, hnew, hn1, hn2⟩
              simp_all! [p_left, p_setl, pe_rcv, pe_ext, give_f]
              refine ⟨rows ++ (new ++ [.throw]), s2, ks', hs', _, _, _, _, rfl, by rw [show (rows ++ (new ++ [Rw.throw])).map Rw.d = rows.map Rw.d ++ (new.map Rw.d ++ [D.tup [.str "throw"]]) by simp [Rw.d]], hk', hh', by simp; omega, hr.app (by rw [← hk']; exact hnew.app (.one trivial (fun _ h => by cases h))), ?_⟩
              rw [List.length_append, List.length_append, Nat.add_mul]
              simp
              omega
            · have hw' : (((dk s' 8 : Nat) : Int) = 5) = False := eq_false (by omega)
              have ed : ((d' + 1 : Nat) : Int) - 1 = (d' : Int) := by omega
              simp! [p_taken, p_left, hleft, h5, h0', h8, hw', pe_len, castA, cast1, cast2, cast0, cast1', ed]
              refine WP.use (g_branch (n := n) (ks := ks') (hs := hs') (at_ := at_ + rows.length) (d := d') (L := L) hc (by omega) (by omega) (by rw [hk']; exact hbr d' rfl) hL1 hL2 hh' (by omega)) ?_
              rintro _ _ ⟨new, s2, ks2, hs2, left2, rfl, rfl, hk2, hh2, hl2, hnew, hnl⟩
              simp_all! [p_left, p_setl, pe_rcv, pe_ext, give_f]
              refine ⟨rows ++ new, s2, ks2, hs2, left2 - new.length, _, _, _, rfl, by rw [List.map_append], by omega, hh2, by simp; omega, hr.app (by rw [← hk']; exact hnew), ?_⟩
              rw [List.length_append, Nat.add_mul]
              omega
    · simp! [p_taken, p_left, hleft]
      refine ⟨rows, dn s' 8, ks', hs', left', _, _, _, rfl, rfl, hk', hh', hl', hr, ?_⟩
      rw [Nat.add_mul]
      omega
  · rintro ρ _ ⟨rows, s', ks', hs', left', a, b, c, rfl, rfl, hk', hh', hl', hr, hrl⟩
    rw [rg_len] at hrl
    refine ⟨rfl, ?_⟩
    simp! [pe_frz]
    rw [cut_pst (below_rws _) belowKs below_hds]
    exact ⟨rows, s', ks', hs', left', rfl, rfl, hk', hh', hl', hr, hrl⟩
theorem g_block (hc : ClsOk cs) (hb : nb ≤ 6) (hb1 : 1 ≤ nb) : BlockOk G U tl cs nb (n + 9) 2 1340 :=
  g_block1 (n := n + 4) hc hb hb1 (by decide) (L := 440) (by decide) (by decide) fun d1 e1 => by
    have : d1 = 1 := by omega
    subst this
    exact g_block1 (n := n + 2) hc hb hb1 (by decide) (L := 140) (by decide) (by decide) fun d0 e0 => by
      have : d0 = 0 := by omega
      subst this
      exact g_block1 (n := n) hc hb hb1 (by decide) (L := 40) (by decide) (by decide) fun d' e' => by omega
end
end MP

set_option linter.all false
set_option maxRecDepth 100000
set_option maxHeartbeats 4000000
/-! The maker of programs, whole: first, what it does with its rows. -/
namespace MP
open MG
def Rw.word : Rw → String
  | .num _ => "num" | .non => "none" | .ask => "ask" | .new _ => "new" | .birth _ => "birth" | .load _ => "load" | .store _ => "store" | .dup => "dup" | .drop => "drop" | .swap => "swap"
  | .add => "add" | .take => "take" | .get _ _ => "get" | .put _ _ => "put" | .cast _ => "cast" | .is_ _ => "is" | .go _ => "go" | .iff _ => "if" | .bare _ => "bare" | .throw => "throw" | .give => "give" | .end_ => "end"
/-- where a row may jump -/
def Rw.goal : Rw → Option Nat
  | .go r => some r
  | .iff r => some r
  | .bare r => some r
  | _ => none
section
variable {G : GD} {U : Up} {n : Nat} {st tl : Store} {s : Rng} {cs : List Kl} {left : Int} {ext : Store} {own : Bool} {nb at_ : Nat} {ks : List (Option Fl)} {hs : List Hd} {bs hsD : List D}
theorem idx_word (w : Rw) : idxV G st w.d (.int 0) = some (.str w.word) := by
  cases w <;> exact idx_t0
theorem word_new (w : Rw) : decide (w.word = "new") = w.isNew := by
  cases w <;> rfl
theorem mem_jump (w : Rw) : memB G st (.str w.word) (.tup [.str "go", .str "if", .str "bare"]) = some w.goal.isSome := by
  cases w <;> rfl
theorem idx_goal {w : Rw} {r : Nat} (h : w.goal = some r) : idxV G st w.d (.int 1) = some (.int r) := by
  cases w <;> simp [Rw.goal] at h <;> subst h <;> exact idx_t1
theorem RowsOk.take {rows : List Rw} (h : RowsOk cs nb at_ rows) (m : Nat) : RowsOk cs nb at_ (rows.take m) := by
  refine ⟨fun w hw => h.ok w (List.mem_of_mem_take hw), fun j r e => ?_⟩
  have hj : j < m := by
    have := (List.getElem?_eq_some_iff.mp e).1
    rw [List.length_take] at this
    omega
  rw [List.getElem?_take_of_lt hj] at e
  obtain ⟨h1, h2, w, h3, h4⟩ := h.bi j r e
  exact ⟨h1, h2, w, by rw [List.getElem?_take_of_lt (by omega)]; exact h3, h4⟩
/-- a row that makes nothing is replaced by one that is no birth -/
theorem RowsOk.set {rows : List Rw} (h : RowsOk cs nb at_ rows) {i : Nat} {w v : Rw} (hi : rows[i]? = some v) (hv : v.isNew = false) (hw : RwOk cs nb w) (hb : ∀ r, w ≠ .birth r) : RowsOk cs nb at_ (rows.set i w) := by
  refine ⟨fun x hx => ?_, fun j r e => ?_⟩
  · rcases List.mem_or_eq_of_mem_set hx with hx | rfl
    · exact h.ok x hx
    · exact hw
  · by_cases hij : i = j
    · subst hij
      rw [List.getElem?_set_self (List.getElem?_eq_some_iff.mp hi).1] at e
      cases e
      exact absurd rfl (hb r)
    · rw [List.getElem?_set_ne hij] at e
      obtain ⟨h1, h2, x, h3, h4⟩ := h.bi j r e
      refine ⟨h1, h2, x, ?_, h4⟩
      by_cases hir : i = r - at_
      · rw [← hir] at h3
        rw [hi] at h3
        cases h3
        rw [hv] at h4
        cases h4
      · rw [List.getElem?_set_ne hir]
        exact h3
/-! ### the rows' list, behind another one -/
theorem q_at {a : O} {l : List D} : (pst tl s cs bs hsD left [a, .lst l])[tl.length + 4 + 1]? = some (.lst l) := by
  have := pe_at (tl := tl) (s := s) (cs := cs) (bs := bs) (hsD := hsD) (left := left) (ext := [a]) (l := l)
  exact this
theorem q_set {a : O} {l : List D} {o : O} : (pst tl s cs bs hsD left [a, .lst l]).set (tl.length + 4 + 1) o = pst tl s cs bs hsD left [a, o] := by
  have := pe_set (tl := tl) (s := s) (cs := cs) (bs := bs) (hsD := hsD) (left := left) (ext := [a]) (l := l) (o := o)
  exact this
theorem q_len {a : O} {l : List D} : biV G own .len [.ref (tl.length + 4 + 1)] (pst tl s cs bs hsD left [a, .lst l]) = .ok (.int l.length) (pst tl s cs bs hsD left [a, .lst l]) := by
  have := pe_len (G := G) (own := own) (tl := tl) (s := s) (cs := cs) (bs := bs) (hsD := hsD) (left := left) (ext := [a]) (l := l)
  exact this
theorem q_get {a : O} {l : List D} {i : Nat} : idxV G (pst tl s cs bs hsD left [a, .lst l]) (.ref (tl.length + 4 + 1)) (.int i) = l[i]? := by
  simp only [idxV, q_at]
  by_cases h : i < l.length
  · simp [itemAt, place, h]
  · simp [itemAt, place, h]
theorem q_put {a : O} {l : List D} {i : Nat} {d : D} (h : i < l.length) : setIdx G (pst tl s cs bs hsD left [a, .lst l]) (.ref (tl.length + 4 + 1)) (.int i) d = some (pst tl s cs bs hsD left [a, .lst (l.set i d)]) := by
  have e : place l.length i = some i := by simp [place, h]
  simp only [setIdx, q_at, e, Option.map_some, q_set]
theorem q_tup {a : O} {l : List D} : toTuple (pst tl s cs bs hsD left [a, .lst l]) (.ref (tl.length + 4 + 1)) = .ok (.tup l) (pst tl s cs bs hsD left [a, .lst l]) := by
  simp [toTuple, onL, lstOf, q_at]
theorem o_len {l : List D} : biV G own .len [.ref (tl.length + 4)] (pst tl s cs bs hsD left [.lst l]) = .ok (.int l.length) (pst tl s cs bs hsD left [.lst l]) := by
  have := pe_len (G := G) (own := own) (tl := tl) (s := s) (cs := cs) (bs := bs) (hsD := hsD) (left := left) (ext := []) (l := l)
  exact this
theorem o_at {l : List D} : (pst tl s cs bs hsD left [.lst l])[tl.length + 4]? = some (.lst l) := by
  have := pe_at (tl := tl) (s := s) (cs := cs) (bs := bs) (hsD := hsD) (left := left) (ext := []) (l := l)
  exact this
theorem o_add {l m : List D} (h : l.length + m.length ≤ LIM) : addV true (pst tl s cs bs hsD left [.lst l]) (.ref (tl.length + 4)) (.lst m) = .ok (.ref (tl.length + 4 + 1)) (pst tl s cs bs hsD left [.lst l, .lst (l ++ m)]) := by
  simp only [addV, lstOf, o_at, h, if_true, give_t, pst_app]
  rw [pst_len]
  rfl
theorem iter_h : iterOf (pst tl s cs bs hsD left ext) (.ref (tl.length + 3)) = some (hsD, some (tl.length + 3, hsD)) := by
  simp only [iterOf, pst_2]
theorem stay_h : stays (pst tl s cs bs hsD left ext) (some (tl.length + 3, hsD)) = true := by
  simp only [stays, pst_2, sameAll_refl]
end
end MP

set_option linter.all false
set_option maxRecDepth 100000
set_option maxHeartbeats 4000000
/-! The maker of programs, whole. -/
namespace MP
open MG
local macro_rules
  | `(tactic| simp! [$a,*]) => `(tactic| simp -dsimp only [wpE_var, wpE_k, wpE_nil, wpE_cons, wpE_lst, wpE_op1, wpE_op2, wpE_and, wpE_or, wpE_ite, wpE_chain, wpE_slc, wpE_rev, wpE_bi, wpE_bm, wpE_call, wpE_meth, wpE_make, wpE_fld, wpE_comp, wpE_rng, wpE_rrng, wpE_enum, wpE_zip, wpE_dict, wpE_frz, asgW_var, asgW_fld, asgW_op2, asgW_nil, asgW_cons, wsS_skip, wsS_seq, wsS_ex, wsS_asg, wsS_ret, wsS_ife, wsS_for, wsS_while, wsS_raise, wsS_try0, wsS_try1, wsS_cont, getE_0, getE_s, putW_0, putW_s, getW_some, WP_ok, WP_err, tupW_tup, blW_t, blW_f, nonW_non, lstW_some, iterW_some, iter_tup, iter_lst, partW_some, part_n, part_v, part_i, part_2, part_b, insW_some, refW_ref, ints2W_int, stoW_some, envW_var, envW_cons, envW_nil, prsW_some, okW_t, fitsT_var, fitsT_fld, fitsT_op2, fitsT_2, fitsT_3, fitsT_6, unp_var, unp_fld, unp_op2, unp_tup, unp_lst, List.map_cons, List.map_nil, List.cons_append, List.nil_append, wipe_nil, wipe_cons, List.set_cons_succ, List.set_cons_zero, isInt_tup, isInt_lst, isInt_int, isInt_str, isInt_bl, isInt_non, isInt_scr, isBool_tup, isBool_lst, isBool_int, isBool_str, isBool_bl, isBool_non, isBool_scr, isStr_tup, isStr_lst, isStr_int, isStr_str, isStr_bl, isStr_non, isStr_scr, isTup_tup, isTup_lst, isTup_int, isTup_str, isTup_bl, isTup_non, isTup_scr, isLst_tup, isLst_lst, isLst_int, isLst_str, isLst_bl, isLst_non, isLst_scr, isTL_tup, isTL_lst, isTL_int, isTL_str, isTL_bl, isTL_non, isTL_scr, isN_tup, notN_tup, isN_lst, notN_lst, isN_int, notN_int, isN_str, notN_str, isN_bl, notN_bl, isN_non, notN_non, isN_scr, notN_scr, isN_ref, notN_ref, not_bl, neg_int, len_tup, List.length_map, len_lst, len_scr, pur_int, pur_str, pur_bl, pur_non, pur_tup, pur_lst, purAll_nil, purAll_cons, op2_idx, op2_add, op2_sub, add_int, add_lst, add_tup, List.length_cons, List.length_nil, Nat.reduceAdd, Nat.zero_add, Nat.add_zero, nc0, nc1, nc2, nc3, nc4, nc5, nc6, nc7, nc8, nc9, Int.reduceLT, Int.reduceEq, Int.reduceMod, Int.reduceAdd, Int.reduceSub, op2_eq, op2_ne, op2_lt, op2_le, op2_gt, op2_ge, op2_in, op2_nin, okB_some, id_eq, decide_true, decide_false, decide_not, String.reduceEq, reduceCtorEq, String.reduceAppend, Option.isNone_none, eq_self, bi_tuple, idx_l0, idx_l1, idx_l2, idx_l3, idx_t0, idx_t1, idx_t2, idx_t3, idx_t4, idx_t5, eqB_str, eqB_int, eqB_is, eqB_si, Bool.and_self, eqB_ts, eqB_st, ext_rfl, ext_app, ext_app2, tup_tup, tup_lst, eqB_non, Bool.false_eq_true, if_false, if_true, Bool.not_true, Bool.not_false, and_true, true_and, implies_true, forall_const, $a,*])
  | `(tactic| simp_all! [$a,*]) => `(tactic| simp -dsimp (disch := first | with_reducible assumption | ((try simp only [List.length_map, List.length_append, List.length_cons, List.length_nil, List.length_replicate, List.length_range, List.length_reverse, LIM]) <;> omega)) only [wpE_var, wpE_k, wpE_nil, wpE_cons, wpE_lst, wpE_op1, wpE_op2, wpE_and, wpE_or, wpE_ite, wpE_chain, wpE_slc, wpE_rev, wpE_bi, wpE_bm, wpE_call, wpE_meth, wpE_make, wpE_fld, wpE_comp, wpE_rng, wpE_rrng, wpE_enum, wpE_zip, wpE_dict, wpE_frz, asgW_var, asgW_fld, asgW_op2, asgW_nil, asgW_cons, wsS_skip, wsS_seq, wsS_ex, wsS_asg, wsS_ret, wsS_ife, wsS_for, wsS_while, wsS_raise, wsS_try0, wsS_try1, wsS_cont, getE_0, getE_s, putW_0, putW_s, getW_some, WP_ok, WP_err, tupW_tup, blW_t, blW_f, nonW_non, lstW_some, iterW_some, iter_tup, iter_lst, partW_some, part_n, part_v, part_i, part_2, part_b, insW_some, refW_ref, ints2W_int, stoW_some, envW_var, envW_cons, envW_nil, prsW_some, okW_t, fitsT_var, fitsT_fld, fitsT_op2, fitsT_2, fitsT_3, fitsT_6, unp_var, unp_fld, unp_op2, unp_tup, unp_lst, List.map_cons, List.map_nil, List.cons_append, List.nil_append, wipe_nil, wipe_cons, List.set_cons_succ, List.set_cons_zero, isInt_tup, isInt_lst, isInt_int, isInt_str, isInt_bl, isInt_non, isInt_scr, isBool_tup, isBool_lst, isBool_int, isBool_str, isBool_bl, isBool_non, isBool_scr, isStr_tup, isStr_lst, isStr_int, isStr_str, isStr_bl, isStr_non, isStr_scr, isTup_tup, isTup_lst, isTup_int, isTup_str, isTup_bl, isTup_non, isTup_scr, isLst_tup, isLst_lst, isLst_int, isLst_str, isLst_bl, isLst_non, isLst_scr, isTL_tup, isTL_lst, isTL_int, isTL_str, isTL_bl, isTL_non, isTL_scr, isN_tup, notN_tup, isN_lst, notN_lst, isN_int, notN_int, isN_str, notN_str, isN_bl, notN_bl, isN_non, notN_non, isN_scr, notN_scr, isN_ref, notN_ref, not_bl, neg_int, len_tup, List.length_map, len_lst, len_scr, pur_int, pur_str, pur_bl, pur_non, pur_tup, pur_lst, purAll_nil, purAll_cons, op2_idx, op2_add, op2_sub, add_int, add_lst, add_tup, List.length_cons, List.length_nil, Nat.reduceAdd, Nat.zero_add, Nat.add_zero, nc0, nc1, nc2, nc3, nc4, nc5, nc6, nc7, nc8, nc9, Int.reduceLT, Int.reduceEq, Int.reduceMod, Int.reduceAdd, Int.reduceSub, op2_eq, op2_ne, op2_lt, op2_le, op2_gt, op2_ge, op2_in, op2_nin, okB_some, id_eq, decide_true, decide_false, decide_not, String.reduceEq, reduceCtorEq, String.reduceAppend, Option.isNone_none, eq_self, bi_tuple, idx_l0, idx_l1, idx_l2, idx_l3, idx_t0, idx_t1, idx_t2, idx_t3, idx_t4, idx_t5, eqB_str, eqB_int, eqB_is, eqB_si, Bool.and_self, eqB_ts, eqB_st, ext_rfl, ext_app, ext_app2, tup_tup, tup_lst, eqB_non, Bool.false_eq_true, if_false, if_true, Bool.not_true, Bool.not_false, and_true, true_and, implies_true, forall_const, $a,*])
section
variable {G : GD} {U : Up} {n : Nat} {st tl : Store} {s : Rng} {cs : List Kl} {left : Int} {ext : Store} {own : Bool} {nb at_ : Nat} {ks : List (Option Fl)} {hs : List Hd} {bs hsD : List D}
theorem flat3 {a b c d e f : D} : flatPairs [a, b, c, d, e, f] = some [(a, b), (c, d), (e, f)] := id rfl
theorem keys3 {a c e : String} {b d f : D} : (List.all [(D.str a, b), (D.str c, d), (D.str e, f)] (fun p => keyK p.1) && decide (3 ≤ 15)) = true := id rfl
theorem list_t {l : List D} : biV G false .list [.tup l] st = .ok (.lst l) st := id rfl
theorem mul_non {j : Int} {m : Nat} (e : j = m) (h : m ≤ 1000) : mulV false st (.lst [.non]) (.int j) = .ok (.lst (List.replicate m .non)) st := mul_lst e h
theorem add_own {a b : List D} (h : a.length + b.length ≤ LIM) : addV true st (.lst a) (.lst b) = .ok (.ref st.length) (st ++ [.lst (a ++ b)]) := by
  simp only [addV, lstOf, h, if_true, give_t]
theorem let_eq {α : Type} {P : Prop} (a : α) (h : ∀ x, x = a → P) : P := h a rfl
theorem mul_i {i j : Int} (h1 : -1000 < j) (h2 : j < 1000) : mulV own st (.int i) (.int j) = .ok (.int (i * j)) st := by
  simp only [mulV]
  rw [if_pos (.inr ⟨by omega, by omega⟩)]
theorem dictSt {X : List (D × D)} {l : List D} : (tl ++ [O.dK []] ++ [O.lst l] ++ [O.lst []]).set tl.length (.dK X) = tl ++ [.dK X, .lst l, .lst []] := by simp
theorem dput3 {a b c : D} : dputAll [] [(D.str "classes", a), (D.str "b", b), (D.str "handlers", c)] = [(D.str "classes", a), (D.str "b", b), (D.str "handlers", c)] := id rfl
theorem set_left {l : List D} {z : Int} : setIdx G (rowO s :: (tl ++ [.dK [(D.str "classes", clsD cs), (D.str "b", .ref (tl.length + 2)), (D.str "handlers", .ref (tl.length + 3))], .lst l, .lst []])) (.ref (tl.length + 1)) (.str "left") (.int z) = some (pst tl s cs l [] z []) := by
  have e : (rowO s :: (tl ++ [O.dK [(D.str "classes", clsD cs), (D.str "b", .ref (tl.length + 2)), (D.str "handlers", .ref (tl.length + 3))], O.lst l, O.lst []]))[tl.length + 1]? = some (.dK [(D.str "classes", clsD cs), (D.str "b", .ref (tl.length + 2)), (D.str "handlers", .ref (tl.length + 3))]) := by simp
  simp only [setIdx, e, keyK, Bool.true_and]
  have e1 : dput [(D.str "classes", clsD cs), (D.str "b", .ref (tl.length + 2)), (D.str "handlers", .ref (tl.length + 3))] (.str "left") (.int z) = pD (tl.length + 1) cs z := rfl
  rw [e1]
  simp [pst]
theorem slc_takeF {ds : List D} {k : Nat} {i : Int} (h : i = k) : slV false (.lst ds) none (some i) st = .ok (.lst (ds.take k)) st := by
  subst h
  have : cut ds none (some (k : Int)) = ds.take k := by
    simp only [cut, cutAt, List.drop_zero]
    rw [if_neg (by omega)]
    simp
  simp only [slV, lstOf, this, give_f]
theorem below_pg {m : Nat} (p : Pg) : below m p.d = true := by
  have q2 : belowAll m (p.rows.map Rw.d) = true := belowAll_map below_rw _
  have q3 : belowAll m (p.hs.map Hd.d) = true := below_hds
  simp [Pg.d, below, belowAll, below_cls, q2, q3, belowAll_map below_fl]
theorem WP.of_eq {r : Res D} {d : D} {st : Store} {Q : QD} {E : QE} (e : r = .ok d st) (h : Q d st) : WP r Q E := by rw [e]; exact h
theorem slc_take {ds : List D} {k : Nat} {i : Int} (h : i = k) : slV true (.lst ds) none (some i) st = .ok (.ref st.length) (st ++ [.lst (ds.take k)]) := by
  subst h
  have : cut ds none (some (k : Int)) = ds.take k := by
    simp only [cut, cutAt, List.drop_zero]
    rw [if_neg (by omega)]
    simp
  simp only [slV, lstOf, this, give_t]
theorem g_program (hA : ∀ (s : Rng), WP (callN G U LIB (n + 11) "_law_any_program" [.ref 0] (rowO s :: tl)) (fun v st' => ∃ (p : Pg) (s' : Rng), v = p.d ∧ st' = rowO s' :: tl ∧ p.Ok) fun _ _ => False) :
    WP (callN G U LIB (n + 12) "_law_program" [.ref 0] (rowO s :: tl)) (fun v st' => ∃ (p : Pg) (s' : Rng), v = p.d ∧ st' = rowO s' :: tl ∧ p.Ok) fun _ _ => False := by
  refine wp_call l__law_program rfl ?_
  dsimp only [f__law_program, List.map_cons, List.map_nil, List.replicate_succ, List.replicate_zero, List.cons_append, List.nil_append, Nat.reduceSub]
  by_cases h65 : dk s 6 = 5
  · simp! [c_taken, h65]
    refine WP.use (hA _) ?_
    rintro _ _ ⟨p, s', rfl, rfl, hp⟩
    rw [cut_row0]
    exact ⟨p, s', rfl, rfl, hp⟩
  have h65' : ((dk s 6 : Nat) : Int) ≠ 5 := by omega
  have t4 := dk_lt (dn s 6) (m := 4) (by decide)
  have t3 := dk_lt (dn (dn s 6) 4) (m := 3) (by decide)
  obtain ⟨odd, hodd, ho1⟩ : ∃ odd : Nat, ((dk (dn s 6) 4 : Nat) : Int) / 3 = (odd : Int) ∧ odd ≤ 1 := ⟨dk (dn s 6) 4 / 3, by omega, by omega⟩
  obtain ⟨few, hfew⟩ : ∃ few, few = dk (dn (dn s 6) 4) 3 := ⟨_, rfl⟩
  rw [← hfew] at t3
  simp! [c_taken, h65', op2_fdiv (show (0 : Int) < 3 ∧ (3 : Int) < 1073741824 by decide), hodd, ← hfew]
  refine WP.use (g_classes (n := n + 9)) ?_
  rintro _ _ ⟨cs, s1, rfl, rfl, hc⟩
  have c6 := hc.c6
  have c1 := hc.c1
  have m0 : (0 : Int) < cs.length := by omega
  have m1 : (cs.length : Int) < 1073741824 := by omega
  have u3 := dk_lt s1 (m := 3) (by decide)
  obtain ⟨e, he, q, rfl, hq0, hq5⟩ := idx_ex (G := G) (st := rowO (dn s1 3) :: tl) (l := [.int 3, .int 3, .int 5]) (i := dk s1 3) (fun e => ∃ q : Int, e = .int q ∧ 0 < q ∧ q ≤ 5) (by simp; omega) (by
    intro e he
    simp at he
    rcases he with rfl | rfl
    · exact ⟨3, rfl, by decide, by decide⟩
    · exact ⟨5, rfl, by decide, by decide⟩)
  have hq1 : q < 1073741824 := by omega
  have tm := dk_lt (dn s1 3) hq0
  obtain ⟨many, hmany⟩ : ∃ many, many = dk (dn s1 3) q := ⟨_, rfl⟩
  rw [← hmany] at tm
  have r1 := rgok 0 (many : Int) (by omega)
  simp! [c_taken, give_f, he, hq0, hq1, ← hmany, r1]
  refine wdraw_each Fl.d (Fl.ok cs.length) (by rw [rg_len]; show _ ≤ 16777216; omega) (fun x => below_fl x) ?_ ?_
  · intro j x acc s2 _
    have w2 := dk_lt (dn s2 cs.length) (m := 2) (by decide)
    obtain ⟨e, he, f, rfl, hf⟩ := idx_ex (G := G) (st := rowO (dn (dn s2 cs.length) 2) :: (tl ++ [.lst acc])) (l := [.str "n", .int (dk s2 cs.length)]) (i := dk (dn s2 cs.length) 2) (fun e => ∃ f : Fl, e = f.d ∧ f.ok cs.length) (by simp; omega) (fl_pick (by have := dk_lt s2 m0; omega))
    simp! [c_taken, give_f, len_cls, m0, m1, he]
    exact ⟨f, _, rfl, hf, rfl⟩
  intro par s3 hpl hpar
  rw [rg_len] at hpl
  have hp4 : par.length ≤ 4 := by omega
  -- the boxes
  have w2 := dk_lt s3 (m := 2) (by decide)
  obtain ⟨e, he, q2, rfl, hq20, hq26⟩ := idx_ex (G := G) (st := rowO (dn s3 2) :: tl) (l := [.int 4, .int 6]) (i := dk s3 2) (fun e => ∃ q : Int, e = .int q ∧ 0 < q ∧ q ≤ 6) (by simp; omega) (by
    intro e he
    simp at he
    rcases he with rfl | rfl
    · exact ⟨4, rfl, by decide, by decide⟩
    · exact ⟨6, rfl, by decide, by decide⟩)
  have hq21 : q2 < 1073741824 := by omega
  have tb := dk_lt (dn s3 2) hq20
  obtain ⟨nb, hnb, hnb1, hnb6, hnbp⟩ : ∃ nb : Nat, (if ((if (par.length : Int) > 1 then (par.length : Int) else 1) + (dk (dn s3 2) q2 : Int)) < 6 then ((if (par.length : Int) > 1 then (par.length : Int) else 1) + (dk (dn s3 2) q2 : Int)) else 6) = (nb : Int) ∧ 1 ≤ nb ∧ nb ≤ 6 ∧ par.length ≤ nb := by
    refine ⟨min 6 (max 1 par.length + dk (dn s3 2) q2), ?_, by omega, by omega, by omega⟩
    split <;> split at * <;> omega
  have en : (nb : Int) - (par.length : Int) = ((nb - par.length : Nat) : Int) := by omega
  simp_all! [c_taken, give_f, he, hq20, hq21, max_i, min_i, hnb, list_t, op2_mul, en, mul_non rfl, add_own, give_t, flat3, keys3]
  refine ⟨by simp, ?_⟩
  obtain ⟨ks, eks, hksl⟩ : ∃ ks : List (Option Fl), par.map Fl.d ++ List.replicate (nb - par.length) D.non = ks.map kD ∧ ks.length = nb := by
    refine ⟨par.map some ++ List.replicate (nb - par.length) none, ?_, by simp; omega⟩
    simp [kD, Function.comp_def]
  obtain ⟨lf, hlf⟩ : ∃ lf : Int, ∀ st, idxV G st (.lst [.int 8, .int 16, .int 26]) (.int few) = some (.int lf) := by
    have : few = 0 ∨ few = 1 ∨ few = 2 := by omega
    rcases this with rfl | rfl | rfl
    · exact ⟨8, fun st => idx_l0⟩
    · exact ⟨16, fun st => idx_l1⟩
    · exact ⟨26, fun st => idx_l2⟩
  obtain ⟨mn, hmn7, hmn⟩ : ∃ mn : Nat, mn ≤ 7 ∧ ∀ st, idxV G st (.lst [.int 2, .int 4, .int 7]) (.int few) = some (.int mn) := by
    have : few = 0 ∨ few = 1 ∨ few = 2 := by omega
    rcases this with rfl | rfl | rfl
    · exact ⟨2, by decide, fun st => idx_l0⟩
    · exact ⟨4, by decide, fun st => idx_l1⟩
    · exact ⟨7, by decide, fun st => idx_l2⟩
  rw [dictSt]
  obtain ⟨s5, es5⟩ : ∃ s5, s5 = dn (dn s3 2) q2 := ⟨_, rfl⟩
  simp! [← es5, eks, hlf, give_f, dput3, List.length_append, set_left, hmn]
  refine WP.use (Q := GP tl [] cs nb [] 0 (mn * 1340)) (g_block (n := n + 2) (G := G) (U := U) (tl := tl) hc hnb6 hnb1 [] s5 ks [] lf 0 mn hksl hmn7 (fun _ h => by cases h) (by simp)) ?_
  rintro _ _ ⟨rows0, s6, ks6, hs6, left6, rfl, rfl, hk6, hh6, hl6, hr0, hr0l⟩
  have hr0b : rows0.length ≤ 7 * 1340 := Nat.le_trans hr0l (Nat.mul_le_mul_right _ hmn7)
  simp! [slc_take (k := 36) (i := 36) rfl, pst_len, pst_app, ← List.map_take, o_len, give_f]
  obtain ⟨rt, ert⟩ : ∃ rt, rt = rows0.take 36 := ⟨_, rfl⟩
  have hrt : RowsOk cs nb 0 rt := by rw [ert]; exact hr0.take 36
  have hrtl : rt.length ≤ 36 := by rw [ert, List.length_take]; omega
  rw [← ert]
  subst hk6
  refine WP.use (g_worth (n := n + 9) (at_ := rt.length) hc (by omega) .num trivial) ?_
  rintro _ _ ⟨tw, s7, rfl, rfl, htw, ht1, ht3⟩
  have w2 := dk_lt s7 (m := 2) (by decide)
  have qL : tw.length + 1 ≤ LIM := by show _ ≤ 16777216; omega
  obtain ⟨e, he, tr, rfl, htr, htr1, htr4⟩ := idx_ex (G := G) (st := pst tl (dn s7 2) cs (ks6.map kD) (hs6.map Hd.d) left6 [.lst (rt.map Rw.d)]) (l := [.lst [.tup [.str "end"]], .lst (tw.map Rw.d ++ [.tup [.str "give"]])]) (i := dk s7 2) (fun e => ∃ tr : List Rw, e = .lst (tr.map Rw.d) ∧ RowsOk cs ks6.length rt.length tr ∧ 1 ≤ tr.length ∧ tr.length ≤ 4) (by simp; omega) (by
    intro e he
    simp at he
    rcases he with rfl | rfl
    · exact ⟨[.end_], rfl, RowsOk.one (w := .end_) trivial (fun _ h => by cases h), by simp, by simp⟩
    · exact ⟨tw ++ [.give], by simp [Rw.d], htw.app (RowsOk.one (w := .give) trivial (fun _ h => by cases h)), by simp, by simp; omega⟩)
  have qL2 : (rt.map Rw.d).length + (tr.map Rw.d).length ≤ LIM := by rw [List.length_map, List.length_map]; show _ ≤ 16777216; omega
  refine let_eq (rt ++ tr) fun rows erows => ?_
  have hrows : RowsOk cs ks6.length 0 rows := by rw [erows]; exact hrt.app' (by simp) htr
  have hrl1 : 1 ≤ rows.length := by rw [erows, List.length_append]; omega
  have hrl40 : rows.length ≤ 40 := by rw [erows, List.length_append]; omega
  have x2 := dk_lt (dn s7 2) (m := 2) (by decide)
  have etot : (odd : Int) * (1 + (dk (dn s7 2) 2 : Int)) = ((odd * (1 + dk (dn s7 2) 2) : Nat) : Int) := by simp
  have ht2 : odd * (1 + dk (dn s7 2) 2) ≤ 1 * 2 := Nat.mul_le_mul ho1 (by omega)
  refine let_eq (odd * (1 + dk (dn s7 2) 2)) fun tot htot => ?_
  rw [← htot] at etot ht2
  have r2 := rgok 0 (tot : Int) (by omega)
  have mulk : ∀ st : Store, mulV false st (.int odd) (.int (1 + (dk (dn s7 2) 2 : Int))) = .ok (.int ((odd : Int) * (1 + (dk (dn s7 2) 2 : Int)))) st := fun st => mul_i (by omega) (by omega)
  have eapp : rt.map Rw.d ++ tr.map Rw.d = rows.map Rw.d := by rw [erows, List.map_append]
  simp! [give_f, p_taken, he, o_add qL2, qL, eapp, op2_mul, mulk, etot, r2]
  have nb0 : (0 : Int) < ks6.length := by omega
  have nb1 : (ks6.length : Int) < 1073741824 := by omega
  refine wfor (fun i ρ st => ∃ (rows' : List Rw) (s' : Rng) (a b c d : Option D), ρ = [some (.ref 0), some (.int many), some (.tup (par.map Fl.d)), some (.int ks6.length), some (.ref (tl.length + 1)), some (.ref (tl.length + 4 + 1)), a, none, some (.int odd), some (.int few), some (clsD cs), b, c, d, none] ∧ st = pst tl s' cs (ks6.map kD) (hs6.map Hd.d) left6 [.lst (rt.map Rw.d), .lst (rows'.map Rw.d)] ∧ rows'.length = rows.length ∧ RowsOk cs ks6.length 0 rows') ⟨rows, _, _, _, _, _, rfl, rfl, rfl, hrows⟩ ?_ ?_
  · rintro i x ρ _ hx ⟨rows', s', a, b, c, d, rfl, rfl, hl', hr'⟩
    refine ⟨rfl, ?_⟩
    have l0 : (0 : Int) < rows'.length := by omega
    have l1 : (rows'.length : Int) < 1073741824 := by omega
    have ta := dk_lt s' l0
    have tg := dk_lt (dn s' rows'.length) l0
    obtain ⟨at1, eat⟩ : ∃ at1, at1 = dk s' rows'.length := ⟨_, rfl⟩
    obtain ⟨gl, egl⟩ : ∃ gl, gl = dk (dn s' rows'.length) rows'.length := ⟨_, rfl⟩
    obtain ⟨s8, es8⟩ : ∃ s8, s8 = dn (dn s' rows'.length) rows'.length := ⟨_, rfl⟩
    rw [← eat] at ta
    rw [← egl] at tg
    have tb1 := dk_lt s8 nb0
    have tb2 := dk_lt (dn s8 ks6.length) nb0
    obtain ⟨w, hw⟩ : ∃ w, rows'[at1]? = some w := ⟨_, List.getElem?_eq_getElem (by omega)⟩
    have hget : (rows'.map Rw.d)[at1]? = some w.d := by rw [List.getElem?_map, hw]; rfl
    have hat : at1 < (rows'.map Rw.d).length := by rw [List.length_map]; omega
    cases hnew : w.isNew with
    | true =>
      simp_all! [p_taken, q_len, l0, l1, nb0, nb1, ← eat, ← egl, ← es8, give_f, q_get, hget, idx_word, word_new, hnew]
      exact ⟨rows', _, _, _, _, _, rfl, rfl, hl', hr'⟩
    | false =>
      have t14 := dk_lt (dn (dn s8 ks6.length) ks6.length) (m := 14) (by decide)
      obtain ⟨e, he, v, rfl, hv1, hv2⟩ := idx_ex (G := G) (st := pst tl (dn (dn (dn s8 ks6.length) ks6.length) 14) cs (ks6.map kD) (hs6.map Hd.d) left6 [.lst (rt.map Rw.d), .lst (rows'.map Rw.d)]) (l := [.tup [.str "none"], .tup [.str "load", .int (dk s8 ks6.length)], .tup [.str "dup"], .tup [.str "drop"], .tup [.str "swap"], .tup [.str "add"], .tup [.str "throw"], .tup [.str "store", .int (dk (dn s8 ks6.length) ks6.length)], .tup [.str "is", .int 0], .tup [.str "cast", .int 0], .tup [.str "go", .int gl], .tup [.str "if", .int gl], .tup [.str "end"], .tup [.str "bare", .int gl]]) (i := dk (dn (dn s8 ks6.length) ks6.length) 14) (fun e => ∃ v : Rw, e = v.d ∧ RwOk cs ks6.length v ∧ ∀ r, v ≠ .birth r) (by simp; omega) (by
        intro e he
        simp only [List.mem_cons, List.not_mem_nil, or_false] at he
        rcases he with rfl | rfl | rfl | rfl | rfl | rfl | rfl | rfl | rfl | rfl | rfl | rfl | rfl | rfl
        · exact ⟨.non, rfl, trivial, fun _ h => by cases h⟩
        · exact ⟨.load _, rfl, by show _ < _; omega, fun _ h => by cases h⟩
        · exact ⟨.dup, rfl, trivial, fun _ h => by cases h⟩
        · exact ⟨.drop, rfl, trivial, fun _ h => by cases h⟩
        · exact ⟨.swap, rfl, trivial, fun _ h => by cases h⟩
        · exact ⟨.add, rfl, trivial, fun _ h => by cases h⟩
        · exact ⟨.throw, rfl, trivial, fun _ h => by cases h⟩
        · exact ⟨.store _, rfl, by show _ < _; omega, fun _ h => by cases h⟩
        · exact ⟨.is_ 0, rfl, by show _ < _; omega, fun _ h => by cases h⟩
        · exact ⟨.cast 0, rfl, by show _ < _; omega, fun _ h => by cases h⟩
        · exact ⟨.go gl, rfl, trivial, fun _ h => by cases h⟩
        · exact ⟨.iff gl, rfl, trivial, fun _ h => by cases h⟩
        · exact ⟨.end_, rfl, trivial, fun _ h => by cases h⟩
        · exact ⟨.bare gl, rfl, trivial, fun _ h => by cases h⟩)
      simp_all! [p_taken, q_len, l0, l1, nb0, nb1, ← eat, ← egl, ← es8, give_f, q_get, hget, idx_word, word_new, hnew, he, q_put hat]
      exact ⟨rows'.set at1 v, _, _, _, _, _, rfl, by rw [List.map_set], by simpa using hl', hr'.set hw hnew hv1 hv2⟩
  rintro ρ _ ⟨rows1, s9, a, b, c, d, rfl, rfl, hl1, hr1⟩
  refine ⟨rfl, ?_⟩
  have r3 := rgok 0 (rows1.length : Int) (by omega)
  simp! [q_len, r3]
  refine wfor (fun i ρ st => ∃ (rows' : List Rw) (a : Option D), ρ = [some (.ref 0), some (.int many), some (.tup (par.map Fl.d)), some (.int ks6.length), some (.ref (tl.length + 1)), some (.ref (tl.length + 4 + 1)), a, none, some (.int odd), some (.int few), some (clsD cs), b, c, d, none] ∧ st = pst tl s9 cs (ks6.map kD) (hs6.map Hd.d) left6 [.lst (rt.map Rw.d), .lst (rows'.map Rw.d)] ∧ rows'.length = rows.length ∧ RowsOk cs ks6.length 0 rows' ∧ ∀ j, j < i → ∀ w, rows'[j]? = some w → ∀ r, w.goal = some r → r < rows.length) ⟨rows1, _, rfl, rfl, hl1, hr1, fun j h => by omega⟩ ?_ ?_
  · rintro i x ρ _ hx ⟨rows', a, rfl, rfl, hl', hr', hg'⟩
    obtain ⟨rfl, hi⟩ := rg_get hx
    refine ⟨rfl, ?_⟩
    obtain ⟨w, hw⟩ : ∃ w, rows'[i]? = some w := ⟨_, List.getElem?_eq_getElem (by omega)⟩
    have hget : (rows'.map Rw.d)[i]? = some w.d := by rw [List.getElem?_map, hw]; rfl
    have hat : i < (rows'.map Rw.d).length := by rw [List.length_map]; omega
    cases hgo : w.goal with
    | none =>
      simp! [q_get, hget, idx_word, mem_jump, hgo, Option.isSome_none]
      refine ⟨rows', _, rfl, rfl, hl', hr', fun j hj v hv r hr => ?_⟩
      by_cases hji : j = i
      · subst hji
        rw [hw] at hv
        cases hv
        rw [hgo] at hr
        cases hr
      · exact hg' j (by omega) v hv r hr
    | some g =>
      by_cases hgl : g < rows'.length
      · have e1 : decide ((rows'.length : Int) ≤ (g : Int)) = false := decide_eq_false (by omega)
        simp! [q_get, hget, idx_word, mem_jump, hgo, Option.isSome_some, idx_goal hgo, q_len, e1]
        refine ⟨rows', _, rfl, rfl, hl', hr', fun j hj v hv r hr => ?_⟩
        by_cases hji : j = i
        · subst hji
          rw [hw] at hv
          cases hv
          rw [hgo] at hr
          cases hr
          omega
        · exact hg' j (by omega) v hv r hr
      · have e1 : decide ((rows'.length : Int) ≤ (g : Int)) = true := decide_eq_true (by omega)
        have hnn : w.isNew = false := by cases w <;> first | rfl | (simp [Rw.goal] at hgo)
        simp! [q_get, hget, idx_word, mem_jump, hgo, Option.isSome_some, idx_goal hgo, q_len, e1, q_put hat]
        refine ⟨rows'.set i .end_, _, rfl, by rw [List.map_set]; rfl, by simpa using hl', hr'.set hw hnn trivial (fun _ h => by cases h), fun j hj v hv r hr => ?_⟩
        by_cases hji : i = j
        · subst hji
          rw [List.getElem?_set_self (by omega)] at hv
          cases hv
          cases hr
        · rw [List.getElem?_set_ne hji] at hv
          exact hg' j (by omega) v hv r hr
  rintro ρ _ ⟨rows2, a, rfl, rfl, hl2, hr2, hg2⟩
  rw [rg_len, hl1] at hg2
  refine ⟨rfl, ?_⟩
  simp! [p_h, iter_h]
  have hhl : hs6.length ≤ LIM := by
    have : ([] : List Hd).length = 0 := rfl
    show _ ≤ 16777216
    omega
  refine wpure Hd.d hs6 (fun h => decide (h.g < rows2.length) && decide (h.e ≤ rows2.length)) Hd.d hhl (fun acc => by rw [pst_app]; exact stay_h) ?_ (fun h _ _ => by simp [Hd.d, below, belowAll]) ?_
  · intro h hm acc
    have e1 : decide ((h.g : Int) < (rows2.length : Int)) = decide (h.g < rows2.length) := by simp
    have e2 : decide ((h.e : Int) ≤ (rows2.length : Int)) = decide (h.e ≤ rows2.length) := by simp
    have ql : ∀ own, biV G own .len [.ref (tl.length + 4 + 1)] (pst tl s9 cs (ks6.map kD) (hs6.map Hd.d) left6 [.lst (rt.map Rw.d), .lst (rows2.map Rw.d), .lst acc]) = .ok (.int rows2.length) (pst tl s9 cs (ks6.map kD) (hs6.map Hd.d) left6 [.lst (rt.map Rw.d), .lst (rows2.map Rw.d), .lst acc]) := by
      intro own
      have e : (pst tl s9 cs (ks6.map kD) (hs6.map Hd.d) left6 [.lst (rt.map Rw.d), .lst (rows2.map Rw.d), .lst acc])[tl.length + 4 + 1]? = some (.lst (rows2.map Rw.d)) := by
        rw [show [O.lst (rt.map Rw.d), .lst (rows2.map Rw.d), .lst acc] = [O.lst (rt.map Rw.d), .lst (rows2.map Rw.d)] ++ [.lst acc] from rfl, ← pst_app]
        exact at_app q_at _
      have e' : ∀ x st, biV G own .len [x] st = okB st (fun n : Nat => .int n) (lenV st x) := fun _ _ => rfl
      rw [e']
      simp only [lenV, e, List.length_map]
      rfl
    cases hb1 : decide (h.g < rows2.length) with
    | false => simp! [pst_app, Hd.d, ql, e1, hb1, Bool.false_and, false_implies]
    | true => simp! [pst_app, Hd.d, ql, e1, hb1, e2, Bool.true_and]
  obtain ⟨hs7, ehs7⟩ : ∃ hs7, hs7 = (hs6.filter fun h => decide (h.g < rows2.length) && decide (h.e ≤ rows2.length)).take 4 := ⟨_, rfl⟩
  have hh7 : ∀ h ∈ hs7, h.b < h.e ∧ h.e ≤ rows2.length ∧ h.g < rows2.length ∧ h.c < cs.length := by
    intro h hm
    rw [ehs7] at hm
    have hm := List.mem_of_mem_take hm
    obtain ⟨hm1, hm2⟩ := List.mem_filter.mp hm
    simp at hm2
    exact ⟨(hh6 h hm1).1, hm2.2, hm2.1, (hh6 h hm1).2⟩
  have hh74 : hs7.length ≤ 4 := by rw [ehs7, List.length_take]; omega
  have y9 := dk_lt s9 (m := 9) (by decide)
  have y3 := dk_lt (dn s9 9) (m := 3) (by decide)
  obtain ⟨e, he, room, rfl, hroom⟩ := idx_ex (G := G) (st := pst tl (dn (dn s9 9) 3) cs (ks6.map kD) (hs6.map Hd.d) left6 [.lst (rt.map Rw.d), .lst (rows2.map Rw.d)]) (l := [.int 8, .int 3, .int (dk s9 9)]) (i := dk (dn s9 9) 3) (fun e => ∃ room : Nat, e = .int room ∧ room ≤ 8) (by simp; omega) (by
    intro e he
    simp at he
    rcases he with rfl | rfl | rfl
    · exact ⟨8, rfl, by decide⟩
    · exact ⟨3, rfl, by decide⟩
    · exact ⟨dk s9 9, rfl, by omega⟩)
  simp! [slc_takeF (k := 4) (i := 4) rfl, ← List.map_take, ← ehs7, p_taken, give_f, he, q_tup]
  have hv : below (tl.length + 1) (Pg.d ⟨cs, par, ks6.length, room, rows2, hs7⟩) = true := below_pg _
  have := cut_row (s := s) (tl := tl) (s' := dn (dn s9 9) 3) (g := [.dK (pD (tl.length + 1) cs left6), .lst (ks6.map kD), .lst (hs6.map Hd.d)] ++ [.lst (rt.map Rw.d), .lst (rows2.map Rw.d)]) hv
  refine WP.of_eq this ⟨⟨cs, par, ks6.length, room, rows2, hs7⟩, _, rfl, rfl, ?_⟩
  refine ⟨hc.wc, hc.c1, hc.c6, hc.fl, hp4, hpar, ⟨hnbp, hnb6⟩, hroom, by show 1 ≤ rows2.length; omega, by show rows2.length ≤ 40; omega, ?_, hh74, hh7⟩
  intro w hw
  obtain ⟨j, hj, ej⟩ := List.mem_iff_getElem.mp hw
  have hj : j < rows2.length := hj
  have ej' : rows2[j]? = some w := by rw [List.getElem?_eq_getElem hj, ej]
  have hok := hr2.ok w hw
  have hgl : ∀ r, w.goal = some r → r < rows2.length := fun r hr => by
    have := hg2 j (by omega) w ej' r hr
    omega
  cases w with
  | go r => exact hgl r rfl
  | iff r => exact hgl r rfl
  | bare r => exact hgl r rfl
  | birth r =>
    obtain ⟨h1, h2, w, h3, h4⟩ := hr2.bi j r ej'
    exact ⟨w, by simpa using h3, h4⟩
  | _ => exact hok
end
end MP

set_option linter.all false
set_option maxRecDepth 100000
set_option maxHeartbeats 4000000
/-! Any programs: their rows. -/
namespace MP
open MG
local macro_rules
  | `(tactic| simp! [$a,*]) => `(tactic| simp -dsimp only [wpE_var, wpE_k, wpE_nil, wpE_cons, wpE_lst, wpE_op1, wpE_op2, wpE_and, wpE_or, wpE_ite, wpE_chain, wpE_slc, wpE_rev, wpE_bi, wpE_bm, wpE_call, wpE_meth, wpE_make, wpE_fld, wpE_comp, wpE_rng, wpE_rrng, wpE_enum, wpE_zip, wpE_dict, wpE_frz, asgW_var, asgW_fld, asgW_op2, asgW_nil, asgW_cons, wsS_skip, wsS_seq, wsS_ex, wsS_asg, wsS_ret, wsS_ife, wsS_for, wsS_while, wsS_raise, wsS_try0, wsS_try1, wsS_cont, getE_0, getE_s, putW_0, putW_s, getW_some, WP_ok, WP_err, tupW_tup, blW_t, blW_f, nonW_non, lstW_some, iterW_some, iter_tup, iter_lst, partW_some, part_n, part_v, part_i, part_2, part_b, insW_some, refW_ref, ints2W_int, stoW_some, envW_var, envW_cons, envW_nil, prsW_some, okW_t, fitsT_var, fitsT_fld, fitsT_op2, fitsT_2, fitsT_3, fitsT_6, unp_var, unp_fld, unp_op2, unp_tup, unp_lst, List.map_cons, List.map_nil, List.cons_append, List.nil_append, wipe_nil, wipe_cons, List.set_cons_succ, List.set_cons_zero, isInt_tup, isInt_lst, isInt_int, isInt_str, isInt_bl, isInt_non, isInt_scr, isBool_tup, isBool_lst, isBool_int, isBool_str, isBool_bl, isBool_non, isBool_scr, isStr_tup, isStr_lst, isStr_int, isStr_str, isStr_bl, isStr_non, isStr_scr, isTup_tup, isTup_lst, isTup_int, isTup_str, isTup_bl, isTup_non, isTup_scr, isLst_tup, isLst_lst, isLst_int, isLst_str, isLst_bl, isLst_non, isLst_scr, isTL_tup, isTL_lst, isTL_int, isTL_str, isTL_bl, isTL_non, isTL_scr, isN_tup, notN_tup, isN_lst, notN_lst, isN_int, notN_int, isN_str, notN_str, isN_bl, notN_bl, isN_non, notN_non, isN_scr, notN_scr, isN_ref, notN_ref, not_bl, neg_int, len_tup, List.length_map, len_lst, len_scr, pur_int, pur_str, pur_bl, pur_non, pur_tup, pur_lst, purAll_nil, purAll_cons, op2_idx, op2_add, op2_sub, add_int, add_lst, add_tup, List.length_cons, List.length_nil, Nat.reduceAdd, Nat.zero_add, Nat.add_zero, nc0, nc1, nc2, nc3, nc4, nc5, nc6, nc7, nc8, nc9, Int.reduceLT, Int.reduceEq, Int.reduceMod, Int.reduceAdd, Int.reduceSub, op2_eq, op2_ne, op2_lt, op2_le, op2_gt, op2_ge, op2_in, op2_nin, okB_some, id_eq, decide_true, decide_false, decide_not, String.reduceEq, reduceCtorEq, String.reduceAppend, Option.isNone_none, eq_self, bi_tuple, idx_l0, idx_l1, idx_l2, idx_l3, idx_t0, idx_t1, idx_t2, idx_t3, idx_t4, idx_t5, eqB_str, eqB_int, eqB_is, eqB_si, Bool.and_self, eqB_ts, eqB_st, ext_rfl, ext_app, ext_app2, tup_tup, tup_lst, eqB_non, Bool.false_eq_true, if_false, if_true, Bool.not_true, Bool.not_false, and_true, true_and, implies_true, forall_const, $a,*])
/-- how many there are to be named, by the word -/
def szD (nb nn many kn np : Nat) : List (D × D) := [(D.str "num", D.int 1000), (D.str "load", D.int ((nb : Nat) : Int)), (D.str "store", D.int ((nb : Nat) : Int)), (D.str "birth", D.int ((nn : Nat) : Int)), (D.str "go", D.int ((many : Nat) : Int)), (D.str "if", D.int ((many : Nat) : Int)), (D.str "bare", D.int ((many : Nat) : Int)), (D.str "new", D.int ((kn : Nat) : Int)), (D.str "cast", D.int ((kn : Nat) : Int)), (D.str "is", D.int ((kn : Nat) : Int)), (D.str "get", D.int ((np : Nat) : Int)), (D.str "put", D.int ((np : Nat) : Int))]
theorem sz_num {nb nn many kn np : Nat} : dget (szD nb nn many kn np) (.str "num") = some (.int 1000) := id rfl
theorem sz_none {nb nn many kn np : Nat} : dget (szD nb nn many kn np) (.str "none") = none := id rfl
theorem sz_ask {nb nn many kn np : Nat} : dget (szD nb nn many kn np) (.str "ask") = none := id rfl
theorem sz_new {nb nn many kn np : Nat} : dget (szD nb nn many kn np) (.str "new") = some (.int kn) := id rfl
theorem sz_birth {nb nn many kn np : Nat} : dget (szD nb nn many kn np) (.str "birth") = some (.int nn) := id rfl
theorem sz_load {nb nn many kn np : Nat} : dget (szD nb nn many kn np) (.str "load") = some (.int nb) := id rfl
theorem sz_store {nb nn many kn np : Nat} : dget (szD nb nn many kn np) (.str "store") = some (.int nb) := id rfl
theorem sz_dup {nb nn many kn np : Nat} : dget (szD nb nn many kn np) (.str "dup") = none := id rfl
theorem sz_drop {nb nn many kn np : Nat} : dget (szD nb nn many kn np) (.str "drop") = none := id rfl
theorem sz_swap {nb nn many kn np : Nat} : dget (szD nb nn many kn np) (.str "swap") = none := id rfl
theorem sz_add {nb nn many kn np : Nat} : dget (szD nb nn many kn np) (.str "add") = none := id rfl
theorem sz_take {nb nn many kn np : Nat} : dget (szD nb nn many kn np) (.str "take") = none := id rfl
theorem sz_get {nb nn many kn np : Nat} : dget (szD nb nn many kn np) (.str "get") = some (.int np) := id rfl
theorem sz_put {nb nn many kn np : Nat} : dget (szD nb nn many kn np) (.str "put") = some (.int np) := id rfl
theorem sz_cast {nb nn many kn np : Nat} : dget (szD nb nn many kn np) (.str "cast") = some (.int kn) := id rfl
theorem sz_is {nb nn many kn np : Nat} : dget (szD nb nn many kn np) (.str "is") = some (.int kn) := id rfl
theorem sz_go {nb nn many kn np : Nat} : dget (szD nb nn many kn np) (.str "go") = some (.int many) := id rfl
theorem sz_if {nb nn many kn np : Nat} : dget (szD nb nn many kn np) (.str "if") = some (.int many) := id rfl
theorem sz_bare {nb nn many kn np : Nat} : dget (szD nb nn many kn np) (.str "bare") = some (.int many) := id rfl
theorem sz_throw {nb nn many kn np : Nat} : dget (szD nb nn many kn np) (.str "throw") = none := id rfl
theorem sz_give {nb nn many kn np : Nat} : dget (szD nb nn many kn np) (.str "give") = none := id rfl
theorem sz_end {nb nn many kn np : Nat} : dget (szD nb nn many kn np) (.str "end") = none := id rfl

section
variable {G : GD} {U : Up} {n : Nat} {st tl : Store} {s : Rng} {own : Bool} {nb nn many kn np : Nat} {A Q : Nat}
theorem flat5 {a b c d e f g h i j : D} : flatPairs [a, b, c, d, e, f, g, h, i, j] = some [(a, b), (c, d), (e, f), (g, h), (i, j)] := id rfl
theorem flat2 {a b c d : D} : flatPairs [a, b, c, d] = some [(a, b), (c, d)] := id rfl
theorem keys5 {a c e g i : String} {b d f h j : D} : (List.all [(D.str a, b), (D.str c, d), (D.str e, f), (D.str g, h), (D.str i, j)] (fun p => keyK p.1) && true) = true := id rfl
theorem keys2 {a c : String} {b d : D} : (List.all [(D.str a, b), (D.str c, d)] (fun p => keyK p.1) && true) = true := id rfl
theorem dputA : dputAll [] [(D.str "num", D.int 1000), (D.str "load", D.int ((nb : Nat) : Int)), (D.str "store", D.int ((nb : Nat) : Int)), (D.str "birth", D.int ((nn : Nat) : Int)), (D.str "go", D.int ((many : Nat) : Int))] = [(D.str "num", D.int 1000), (D.str "load", D.int ((nb : Nat) : Int)), (D.str "store", D.int ((nb : Nat) : Int)), (D.str "birth", D.int ((nn : Nat) : Int)), (D.str "go", D.int ((many : Nat) : Int))] := id rfl
theorem dputB : dputAll [] [(D.str "if", D.int ((many : Nat) : Int)), (D.str "bare", D.int ((many : Nat) : Int)), (D.str "new", D.int ((kn : Nat) : Int)), (D.str "cast", D.int ((kn : Nat) : Int)), (D.str "is", D.int ((kn : Nat) : Int))] = [(D.str "if", D.int ((many : Nat) : Int)), (D.str "bare", D.int ((many : Nat) : Int)), (D.str "new", D.int ((kn : Nat) : Int)), (D.str "cast", D.int ((kn : Nat) : Int)), (D.str "is", D.int ((kn : Nat) : Int))] := id rfl
theorem dputC : dputAll [] [(D.str "get", D.int ((np : Nat) : Int)), (D.str "put", D.int ((np : Nat) : Int))] = [(D.str "get", D.int ((np : Nat) : Int)), (D.str "put", D.int ((np : Nat) : Int))] := id rfl
theorem dputAB : dputAll [(D.str "num", D.int 1000), (D.str "load", D.int ((nb : Nat) : Int)), (D.str "store", D.int ((nb : Nat) : Int)), (D.str "birth", D.int ((nn : Nat) : Int)), (D.str "go", D.int ((many : Nat) : Int))] [(D.str "if", D.int ((many : Nat) : Int)), (D.str "bare", D.int ((many : Nat) : Int)), (D.str "new", D.int ((kn : Nat) : Int)), (D.str "cast", D.int ((kn : Nat) : Int)), (D.str "is", D.int ((kn : Nat) : Int))] = [(D.str "num", D.int 1000), (D.str "load", D.int ((nb : Nat) : Int)), (D.str "store", D.int ((nb : Nat) : Int)), (D.str "birth", D.int ((nn : Nat) : Int)), (D.str "go", D.int ((many : Nat) : Int)), (D.str "if", D.int ((many : Nat) : Int)), (D.str "bare", D.int ((many : Nat) : Int)), (D.str "new", D.int ((kn : Nat) : Int)), (D.str "cast", D.int ((kn : Nat) : Int)), (D.str "is", D.int ((kn : Nat) : Int))] := id rfl
theorem dputAC : dputAll [(D.str "num", D.int 1000), (D.str "load", D.int ((nb : Nat) : Int)), (D.str "store", D.int ((nb : Nat) : Int)), (D.str "birth", D.int ((nn : Nat) : Int)), (D.str "go", D.int ((many : Nat) : Int)), (D.str "if", D.int ((many : Nat) : Int)), (D.str "bare", D.int ((many : Nat) : Int)), (D.str "new", D.int ((kn : Nat) : Int)), (D.str "cast", D.int ((kn : Nat) : Int)), (D.str "is", D.int ((kn : Nat) : Int))] [(D.str "get", D.int ((np : Nat) : Int)), (D.str "put", D.int ((np : Nat) : Int))] = szD nb nn many kn np := id rfl
theorem get_1 {o : O} {a b : O} : (o :: (tl ++ [a, b]))[tl.length + 1]? = some a := by simp
theorem upd_1 {o : O} {a b : List (D × D)} (h : a.length + b.length ≤ 1000) : biV G own .upd [.ref (tl.length + 1), .ref (tl.length + 1 + 1)] (o :: (tl ++ [.dK a, .dK b])) = .ok .non (o :: (tl ++ [.dK (dputAll a b), .dK b])) := by
  have e1 : (o :: (tl ++ [O.dK a, .dK b]))[tl.length + 1]? = some (.dK a) := by simp
  have e2 : (o :: (tl ++ [O.dK a, .dK b]))[tl.length + 2]? = some (.dK b) := by
    rw [show tl.length + 2 = (tl.length + 1) + 1 from rfl, List.getElem?_cons_succ, List.getElem?_append_right (by omega)]
    simp
  have e3 : ∀ x y st, biV G own .upd [x, y] st = updL st x y := fun _ _ _ => rfl
  rw [e3]
  simp only [updL, e1, e2]
  rw [if_pos ⟨by omega, h⟩]
  simp
theorem upd_2 {o : O} {a c : List (D × D)} {b : O} (h : a.length + c.length ≤ 1000) : biV G own .upd [.ref (tl.length + 1), .ref (tl.length + 1 + 1 + 1)] (o :: (tl ++ [.dK a, b, .dK c])) = .ok .non (o :: (tl ++ [.dK (dputAll a c), b, .dK c])) := by
  have e1 : (o :: (tl ++ [O.dK a, b, .dK c]))[tl.length + 1]? = some (.dK a) := by simp
  have e2 : (o :: (tl ++ [O.dK a, b, .dK c]))[tl.length + 3]? = some (.dK c) := by
    rw [show tl.length + 3 = (tl.length + 2) + 1 from rfl, List.getElem?_cons_succ, List.getElem?_append_right (by omega)]
    simp
  have e3 : ∀ x y st, biV G own .upd [x, y] st = updL st x y := fun _ _ _ => rfl
  rw [e3]
  simp only [updL, e1, e2]
  rw [if_pos ⟨by omega, h⟩]
  simp
theorem rcv_u {o a b : O} {kvs : List (D × D)} (h : a = .dK kvs) : recv .upd (o :: (tl ++ [a])) (.ref (tl.length + 1)) = true := by
  subst h
  simp [recv]
/-- what is known of the maker's dict -/
structure AP (tl : Store) (A Q nb kn many : Nat) (news : List Nat) (prs : List (Nat × Nat)) : Prop where
  d : tl[A]? = some (.dK [(.str "boxes", .int nb), (.str "kinds", .int kn), (.str "pairs", .ref (Q + 1)), (.str "many", .int many), (.str "news", .lst (news.map fun k => D.int (k : Nat)))])
  q : tl[Q]? = some (.lst (prs.map fun p => D.tup [.int p.1, .int p.2]))
variable {news : List Nat} {prs : List (Nat × Nat)}
theorem AP.at {o : O} (h : AP tl A Q nb kn many news prs) (g : Store) : (o :: (tl ++ g))[A + 1]? = some (.dK [(.str "boxes", .int nb), (.str "kinds", .int kn), (.str "pairs", .ref (Q + 1)), (.str "many", .int many), (.str "news", .lst (news.map fun k => D.int (k : Nat)))]) := by
  rw [List.getElem?_cons_succ]; exact at_app h.d g
theorem AP.boxes {o : O} {g : Store} (h : AP tl A Q nb kn many news prs) : idxV G (o :: (tl ++ g)) (.ref (A + 1)) (.str "boxes") = some (.int nb) := by
  simp only [idxV, dictAt, h.at g, keyK, if_true]; rfl
theorem AP.kinds {o : O} {g : Store} (h : AP tl A Q nb kn many news prs) : idxV G (o :: (tl ++ g)) (.ref (A + 1)) (.str "kinds") = some (.int kn) := by
  simp only [idxV, dictAt, h.at g, keyK, if_true]; rfl
theorem AP.pairs {o : O} {g : Store} (h : AP tl A Q nb kn many news prs) : idxV G (o :: (tl ++ g)) (.ref (A + 1)) (.str "pairs") = some (.ref (Q + 1)) := by
  simp only [idxV, dictAt, h.at g, keyK, if_true]; rfl
theorem AP.mny {o : O} {g : Store} (h : AP tl A Q nb kn many news prs) : idxV G (o :: (tl ++ g)) (.ref (A + 1)) (.str "many") = some (.int many) := by
  simp only [idxV, dictAt, h.at g, keyK, if_true]; rfl
theorem AP.nws {o : O} {g : Store} (h : AP tl A Q nb kn many news prs) : idxV G (o :: (tl ++ g)) (.ref (A + 1)) (.str "news") = some (.lst (news.map fun k => D.int (k : Nat))) := by
  simp only [idxV, dictAt, h.at g, keyK, if_true]; rfl
theorem AP.qat {o : O} (h : AP tl A Q nb kn many news prs) (g : Store) : (o :: (tl ++ g))[Q + 1]? = some (.lst (prs.map fun p => D.tup [.int p.1, .int p.2])) := by
  rw [List.getElem?_cons_succ]; exact at_app h.q g
theorem AP.lenq {o : O} {g : Store} (h : AP tl A Q nb kn many news prs) : biV G own .len [.ref (Q + 1)] (o :: (tl ++ g)) = .ok (.int prs.length) (o :: (tl ++ g)) := by
  have e : ∀ x st, biV G own .len [x] st = okB st (fun n : Nat => .int n) (lenV st x) := fun _ _ => rfl
  rw [e]
  simp only [lenV, h.qat g, List.length_map]
  rfl
theorem AP.idxq {o : O} {g : Store} (h : AP tl A Q nb kn many news prs) {i : Nat} {p : Nat × Nat} (hp : prs[i]? = some p) : idxV G (o :: (tl ++ g)) (.ref (Q + 1)) (.int i) = some (.tup [.int p.1, .int p.2]) := by
  have hi := (List.getElem?_eq_some_iff.mp hp).1
  have hpe := (List.getElem?_eq_some_iff.mp hp).2
  simp only [idxV, h.qat g]
  simp [itemAt, place, hi, hpe]
def rowWords : List String := ["num", "none", "ask", "new", "birth", "load", "store", "dup", "drop", "swap", "add", "take", "get", "put", "cast", "is", "go", "if", "bare", "throw", "give", "end"]
/-- what row there may be -/
def AnyOk (nb kn many : Nat) (news : List Nat) (prs : List (Nat × Nat)) : Rw → Prop
  | .num n => n ≤ 999
  | .new c => c < kn
  | .birth r => r ∈ news
  | .load b => b < nb
  | .store b => b < nb
  | .get c f => (c, f) ∈ prs
  | .put c f => (c, f) ∈ prs
  | .cast c => c < kn
  | .is_ c => c < kn
  | .go r => r < many
  | .iff r => r < many
  | .bare r => r < many
  | _ => True
theorem a1 {o x : O} : (o :: (tl ++ [x]))[tl.length + 1]? = some x := by simp
theorem a2 {o a x : O} : (o :: (tl ++ [a, x]))[tl.length + 1 + 1]? = some x := by
  rw [List.getElem?_cons_succ, List.getElem?_append_right (by omega)]; simp
theorem a3 {o a b x : O} : (o :: (tl ++ [a, b, x]))[tl.length + 1 + 1 + 1]? = some x := by
  rw [List.getElem?_cons_succ, List.getElem?_append_right (by omega)]; simp
theorem b1 {x y : O} : (tl ++ [x]).set tl.length y = tl ++ [y] := set_last
theorem b2 {a x y : O} : (tl ++ [a, x]).set (tl.length + 1) y = tl ++ [a, y] := by
  rw [List.set_append_right _ _ (by omega)]; simp
theorem b3 {a b x y : O} : (tl ++ [a, b, x]).set (tl.length + 1 + 1) y = tl ++ [a, b, y] := by
  rw [List.set_append_right _ _ (by omega), show tl.length + 1 + 1 - tl.length = 2 by omega]; rfl
theorem r1 {o : O} {kvs : List (D × D)} {g : Store} : recv .upd (o :: (tl ++ (.dK kvs :: g))) (.ref (tl.length + 1)) = true := by
  simp [recv]
theorem r2 {o : O} {kvs : List (D × D)} {g : Store} : recv .get2 (o :: (tl ++ (.dK kvs :: g))) (.ref (tl.length + 1)) = true := by
  simp [recv]
theorem gt2 {o : O} {kvs : List (D × D)} {g : Store} {k : String} {z : D} : biV G own .get2 [.ref (tl.length + 1), .str k, z] (o :: (tl ++ (.dK kvs :: g))) = .ok ((dget kvs (.str k)).getD z) (o :: (tl ++ (.dK kvs :: g))) := by
  have e : (o :: (tl ++ (O.dK kvs :: g)))[tl.length + 1]? = some (.dK kvs) := by simp
  have e3 : ∀ x y z st, biV G own .get2 [x, y, z] st = getL G st x y z := fun _ _ _ _ => rfl
  rw [e3]
  simp only [getL, dictAt, e, keyK, if_true]
theorem ix2 {o : O} {kvs : List (D × D)} {g : Store} {k : String} : idxV G (o :: (tl ++ (.dK kvs :: g))) (.ref (tl.length + 1)) (.str k) = dget kvs (.str k) := by
  have e : (o :: (tl ++ (O.dK kvs :: g)))[tl.length + 1]? = some (.dK kvs) := by simp
  simp only [idxV, dictAt, e, keyK, if_true]
  rfl
theorem mm2 {o : O} {kvs : List (D × D)} {g : Store} {k : String} : memB G (o :: (tl ++ (.dK kvs :: g))) (.str k) (.ref (tl.length + 1)) = some (dget kvs (.str k)).isSome := by
  have e : (o :: (tl ++ (O.dK kvs :: g)))[tl.length + 1]? = some (.dK kvs) := by simp
  simp only [memB, dictAt, e, keyK, if_true]
  rfl
theorem tk2 {g : Store} (m : Int) (h0 : 0 < m) (h1 : m < 1073741824) : callN G U LIB (n + 1) "_law_taken" [.ref 0, .int m] (rowO s :: (tl ++ g)) = .ok (.int (dk s m)) (rowO (dn s m) :: (tl ++ g)) := c_taken m h0 h1
theorem mem_gp {w : String} : memB G st (.str w) (.tup [.str "get", .str "put"]) = some (decide ("get" = w) || decide ("put" = w)) := by
  simp only [memB, flat, List.all_cons, List.all_nil, Bool.and_self, if_true, List.any_cons, List.any_nil, eqv, Bool.or_false]
  congr 2
theorem LIM_le : (1 + 2 ≤ LIM) = True := eq_true (by decide)
theorem ap0 {o : O} (h : AP tl A Q nb kn many news prs) : (o :: tl)[A + 1]? = some (.dK [(.str "boxes", .int nb), (.str "kinds", .int kn), (.str "pairs", .ref (Q + 1)), (.str "many", .int many), (.str "news", .lst (news.map fun k => D.int (k : Nat)))]) := by
  rw [List.getElem?_cons_succ]; exact h.d
theorem g_any_row (h : AP tl A Q nb kn many news prs) (hn : nb ≤ 1000) (hk1 : 1 ≤ kn) (hk : kn ≤ 1000) (hm1 : 1 ≤ many) (hm : many ≤ 1000) (hnl : news.length ≤ 1000) (hpl : prs.length ≤ 1000) (w : String) (hw : w ∈ rowWords) :
    WP (callN G U LIB (n + 2) "_law_any_row" [.ref 0, .ref (A + 1), .str w] (rowO s :: tl)) (fun v st' => ∃ (r : Rw) (s' : Rng), v = r.d ∧ st' = rowO s' :: tl ∧ AnyOk nb kn many news prs r ∧ (w = "new" → r.isNew = true)) fun _ _ => False := by
  refine wp_call l__law_any_row rfl ?_
  dsimp only [f__law_any_row, List.map_cons, List.map_nil, List.replicate_succ, List.replicate_zero, List.cons_append, List.nil_append, Nat.reduceSub]
  simp! [h.boxes, h.kinds, h.mny, h.nws, h.pairs, h.lenq, flat5, keys5, flat2, keys2, a1, a2, a3, b1, b2, b3, dputA, dputB, dputC, r1, List.length_append, List.append_assoc, upd_1, upd_2, Nat.reduceLeDiff, dputAB, dputAC]
  simp only [rowWords, List.mem_cons, List.not_mem_nil, or_false] at hw
  rcases hw with rfl | rfl | rfl | rfl | rfl | rfl | rfl | rfl | rfl | rfl | rfl | rfl | rfl | rfl | rfl | rfl | rfl | rfl | rfl | rfl | rfl | rfl
  · -- num
    have t := dk_lt s (m := 1000) (by decide)
    simp! [r2, gt2, mm2, ix2, tk2, Option.getD_some, Option.getD_none, Option.isSome_some, Option.isSome_none, mem_gp, Bool.or_false, Bool.or_true, Bool.false_or, Bool.true_or, sz_num]
    rw [cut_row (by simp [below, belowAll])]
    exact ⟨.num (dk s 1000), _, rfl, rfl, by show _ ≤ 999; omega, fun h => by simp at h⟩
  · -- none
    simp! [r2, gt2, mm2, ix2, tk2, Option.getD_some, Option.getD_none, Option.isSome_some, Option.isSome_none, mem_gp, Bool.or_false, Bool.or_true, Bool.false_or, Bool.true_or, sz_none]
    rw [cut_row (by simp [below, belowAll])]
    exact ⟨.non, s, rfl, rfl, trivial, fun h => by simp at h⟩
  · -- ask
    simp! [r2, gt2, mm2, ix2, tk2, Option.getD_some, Option.getD_none, Option.isSome_some, Option.isSome_none, mem_gp, Bool.or_false, Bool.or_true, Bool.false_or, Bool.true_or, sz_ask]
    rw [cut_row (by simp [below, belowAll])]
    exact ⟨.ask, s, rfl, rfl, trivial, fun h => by simp at h⟩
  · -- new
    by_cases hz : kn = 0
    · omega
    · have z0 : (((kn : Nat) : Int) = 0) = False := eq_false (by omega)
      have z1 : (0 : Int) < (kn : Nat) := by omega
      have z2 : ((kn : Nat) : Int) < 1073741824 := by omega
      have t := dk_lt s z1
      simp! [r2, gt2, mm2, ix2, tk2, Option.getD_some, Option.getD_none, Option.isSome_some, Option.isSome_none, mem_gp, Bool.or_false, Bool.or_true, Bool.false_or, Bool.true_or, sz_new, z0, z1, z2]
      rw [cut_row (by simp [below, belowAll])]
      exact ⟨.new (dk s (kn : Nat)), _, rfl, rfl, by show _ < _; omega, fun h => by first | rfl | (simp at h)⟩
  · -- birth
    by_cases hz : news.length = 0
    · simp! [r2, gt2, mm2, ix2, tk2, Option.getD_some, Option.getD_none, Option.isSome_some, Option.isSome_none, mem_gp, Bool.or_false, Bool.or_true, Bool.false_or, Bool.true_or, sz_birth, hz]
      rw [cut_row (by simp [below, belowAll])]
      exact ⟨.end_, s, rfl, rfl, trivial, fun h => by simp at h⟩
    · have z0 : (((news.length : Nat) : Int) = 0) = False := eq_false (by omega)
      have z1 : (0 : Int) < (news.length : Nat) := by omega
      have z2 : ((news.length : Nat) : Int) < 1073741824 := by omega
      have t := dk_lt s z1
      obtain ⟨p, hp⟩ : ∃ p, news[dk s (news.length : Nat)]? = some p := ⟨_, List.getElem?_eq_getElem (by omega)⟩
      have hix : ∀ st, idxV G st (.lst (news.map fun k => D.int (k : Nat))) (.int (dk s (news.length : Nat))) = some (.int p) := by
        intro st
        rw [idx_ln, List.getElem?_map, hp]
        rfl
      simp! [r2, gt2, mm2, ix2, tk2, Option.getD_some, Option.getD_none, Option.isSome_some, Option.isSome_none, mem_gp, Bool.or_false, Bool.or_true, Bool.false_or, Bool.true_or, sz_birth, z0, z1, z2, h.nws, hix]
      rw [cut_row (by simp [below, belowAll])]
      exact ⟨.birth p, _, rfl, rfl, List.mem_of_getElem? hp, fun h => by simp at h⟩
  · -- load
    by_cases hz : nb = 0
    · simp! [r2, gt2, mm2, ix2, tk2, Option.getD_some, Option.getD_none, Option.isSome_some, Option.isSome_none, mem_gp, Bool.or_false, Bool.or_true, Bool.false_or, Bool.true_or, sz_load, hz]
      rw [cut_row (by simp [below, belowAll])]
      exact ⟨.end_, s, rfl, rfl, trivial, fun h => by simp at h⟩
    · have z0 : (((nb : Nat) : Int) = 0) = False := eq_false (by omega)
      have z1 : (0 : Int) < (nb : Nat) := by omega
      have z2 : ((nb : Nat) : Int) < 1073741824 := by omega
      have t := dk_lt s z1
      simp! [r2, gt2, mm2, ix2, tk2, Option.getD_some, Option.getD_none, Option.isSome_some, Option.isSome_none, mem_gp, Bool.or_false, Bool.or_true, Bool.false_or, Bool.true_or, sz_load, z0, z1, z2]
      rw [cut_row (by simp [below, belowAll])]
      exact ⟨.load (dk s (nb : Nat)), _, rfl, rfl, by show _ < _; omega, fun h => by first | rfl | (simp at h)⟩
  · -- store
    by_cases hz : nb = 0
    · simp! [r2, gt2, mm2, ix2, tk2, Option.getD_some, Option.getD_none, Option.isSome_some, Option.isSome_none, mem_gp, Bool.or_false, Bool.or_true, Bool.false_or, Bool.true_or, sz_store, hz]
      rw [cut_row (by simp [below, belowAll])]
      exact ⟨.end_, s, rfl, rfl, trivial, fun h => by simp at h⟩
    · have z0 : (((nb : Nat) : Int) = 0) = False := eq_false (by omega)
      have z1 : (0 : Int) < (nb : Nat) := by omega
      have z2 : ((nb : Nat) : Int) < 1073741824 := by omega
      have t := dk_lt s z1
      simp! [r2, gt2, mm2, ix2, tk2, Option.getD_some, Option.getD_none, Option.isSome_some, Option.isSome_none, mem_gp, Bool.or_false, Bool.or_true, Bool.false_or, Bool.true_or, sz_store, z0, z1, z2]
      rw [cut_row (by simp [below, belowAll])]
      exact ⟨.store (dk s (nb : Nat)), _, rfl, rfl, by show _ < _; omega, fun h => by first | rfl | (simp at h)⟩
  · -- dup
    simp! [r2, gt2, mm2, ix2, tk2, Option.getD_some, Option.getD_none, Option.isSome_some, Option.isSome_none, mem_gp, Bool.or_false, Bool.or_true, Bool.false_or, Bool.true_or, sz_dup]
    rw [cut_row (by simp [below, belowAll])]
    exact ⟨.dup, s, rfl, rfl, trivial, fun h => by simp at h⟩
  · -- drop
    simp! [r2, gt2, mm2, ix2, tk2, Option.getD_some, Option.getD_none, Option.isSome_some, Option.isSome_none, mem_gp, Bool.or_false, Bool.or_true, Bool.false_or, Bool.true_or, sz_drop]
    rw [cut_row (by simp [below, belowAll])]
    exact ⟨.drop, s, rfl, rfl, trivial, fun h => by simp at h⟩
  · -- swap
    simp! [r2, gt2, mm2, ix2, tk2, Option.getD_some, Option.getD_none, Option.isSome_some, Option.isSome_none, mem_gp, Bool.or_false, Bool.or_true, Bool.false_or, Bool.true_or, sz_swap]
    rw [cut_row (by simp [below, belowAll])]
    exact ⟨.swap, s, rfl, rfl, trivial, fun h => by simp at h⟩
  · -- add
    simp! [r2, gt2, mm2, ix2, tk2, Option.getD_some, Option.getD_none, Option.isSome_some, Option.isSome_none, mem_gp, Bool.or_false, Bool.or_true, Bool.false_or, Bool.true_or, sz_add]
    rw [cut_row (by simp [below, belowAll])]
    exact ⟨.add, s, rfl, rfl, trivial, fun h => by simp at h⟩
  · -- take
    simp! [r2, gt2, mm2, ix2, tk2, Option.getD_some, Option.getD_none, Option.isSome_some, Option.isSome_none, mem_gp, Bool.or_false, Bool.or_true, Bool.false_or, Bool.true_or, sz_take]
    rw [cut_row (by simp [below, belowAll])]
    exact ⟨.take, s, rfl, rfl, trivial, fun h => by simp at h⟩
  · -- get
    by_cases hz : prs.length = 0
    · simp! [r2, gt2, mm2, ix2, tk2, Option.getD_some, Option.getD_none, Option.isSome_some, Option.isSome_none, mem_gp, Bool.or_false, Bool.or_true, Bool.false_or, Bool.true_or, sz_get, hz]
      rw [cut_row (by simp [below, belowAll])]
      exact ⟨.end_, s, rfl, rfl, trivial, fun h => by simp at h⟩
    · have z0 : (((prs.length : Nat) : Int) = 0) = False := eq_false (by omega)
      have z1 : (0 : Int) < (prs.length : Nat) := by omega
      have z2 : ((prs.length : Nat) : Int) < 1073741824 := by omega
      have t := dk_lt s z1
      obtain ⟨p, hp⟩ : ∃ p, prs[dk s (prs.length : Nat)]? = some p := ⟨_, List.getElem?_eq_getElem (by omega)⟩
      simp! [r2, gt2, mm2, ix2, tk2, Option.getD_some, Option.getD_none, Option.isSome_some, Option.isSome_none, mem_gp, Bool.or_false, Bool.or_true, Bool.false_or, Bool.true_or, sz_get, z0, z1, z2, h.pairs, h.idxq hp, LIM_le]
      rw [cut_row (by simp [below, belowAll])]
      exact ⟨.get p.1 p.2, _, rfl, rfl, List.mem_of_getElem? hp, fun h => by simp at h⟩
  · -- put
    by_cases hz : prs.length = 0
    · simp! [r2, gt2, mm2, ix2, tk2, Option.getD_some, Option.getD_none, Option.isSome_some, Option.isSome_none, mem_gp, Bool.or_false, Bool.or_true, Bool.false_or, Bool.true_or, sz_put, hz]
      rw [cut_row (by simp [below, belowAll])]
      exact ⟨.end_, s, rfl, rfl, trivial, fun h => by simp at h⟩
    · have z0 : (((prs.length : Nat) : Int) = 0) = False := eq_false (by omega)
      have z1 : (0 : Int) < (prs.length : Nat) := by omega
      have z2 : ((prs.length : Nat) : Int) < 1073741824 := by omega
      have t := dk_lt s z1
      obtain ⟨p, hp⟩ : ∃ p, prs[dk s (prs.length : Nat)]? = some p := ⟨_, List.getElem?_eq_getElem (by omega)⟩
      simp! [r2, gt2, mm2, ix2, tk2, Option.getD_some, Option.getD_none, Option.isSome_some, Option.isSome_none, mem_gp, Bool.or_false, Bool.or_true, Bool.false_or, Bool.true_or, sz_put, z0, z1, z2, h.pairs, h.idxq hp, LIM_le]
      rw [cut_row (by simp [below, belowAll])]
      exact ⟨.put p.1 p.2, _, rfl, rfl, List.mem_of_getElem? hp, fun h => by simp at h⟩
  · -- cast
    by_cases hz : kn = 0
    · simp! [r2, gt2, mm2, ix2, tk2, Option.getD_some, Option.getD_none, Option.isSome_some, Option.isSome_none, mem_gp, Bool.or_false, Bool.or_true, Bool.false_or, Bool.true_or, sz_cast, hz]
      rw [cut_row (by simp [below, belowAll])]
      exact ⟨.end_, s, rfl, rfl, trivial, fun h => by simp at h⟩
    · have z0 : (((kn : Nat) : Int) = 0) = False := eq_false (by omega)
      have z1 : (0 : Int) < (kn : Nat) := by omega
      have z2 : ((kn : Nat) : Int) < 1073741824 := by omega
      have t := dk_lt s z1
      simp! [r2, gt2, mm2, ix2, tk2, Option.getD_some, Option.getD_none, Option.isSome_some, Option.isSome_none, mem_gp, Bool.or_false, Bool.or_true, Bool.false_or, Bool.true_or, sz_cast, z0, z1, z2]
      rw [cut_row (by simp [below, belowAll])]
      exact ⟨.cast (dk s (kn : Nat)), _, rfl, rfl, by show _ < _; omega, fun h => by first | rfl | (simp at h)⟩
  · -- is
    by_cases hz : kn = 0
    · simp! [r2, gt2, mm2, ix2, tk2, Option.getD_some, Option.getD_none, Option.isSome_some, Option.isSome_none, mem_gp, Bool.or_false, Bool.or_true, Bool.false_or, Bool.true_or, sz_is, hz]
      rw [cut_row (by simp [below, belowAll])]
      exact ⟨.end_, s, rfl, rfl, trivial, fun h => by simp at h⟩
    · have z0 : (((kn : Nat) : Int) = 0) = False := eq_false (by omega)
      have z1 : (0 : Int) < (kn : Nat) := by omega
      have z2 : ((kn : Nat) : Int) < 1073741824 := by omega
      have t := dk_lt s z1
      simp! [r2, gt2, mm2, ix2, tk2, Option.getD_some, Option.getD_none, Option.isSome_some, Option.isSome_none, mem_gp, Bool.or_false, Bool.or_true, Bool.false_or, Bool.true_or, sz_is, z0, z1, z2]
      rw [cut_row (by simp [below, belowAll])]
      exact ⟨.is_ (dk s (kn : Nat)), _, rfl, rfl, by show _ < _; omega, fun h => by first | rfl | (simp at h)⟩
  · -- go
    by_cases hz : many = 0
    · simp! [r2, gt2, mm2, ix2, tk2, Option.getD_some, Option.getD_none, Option.isSome_some, Option.isSome_none, mem_gp, Bool.or_false, Bool.or_true, Bool.false_or, Bool.true_or, sz_go, hz]
      rw [cut_row (by simp [below, belowAll])]
      exact ⟨.end_, s, rfl, rfl, trivial, fun h => by simp at h⟩
    · have z0 : (((many : Nat) : Int) = 0) = False := eq_false (by omega)
      have z1 : (0 : Int) < (many : Nat) := by omega
      have z2 : ((many : Nat) : Int) < 1073741824 := by omega
      have t := dk_lt s z1
      simp! [r2, gt2, mm2, ix2, tk2, Option.getD_some, Option.getD_none, Option.isSome_some, Option.isSome_none, mem_gp, Bool.or_false, Bool.or_true, Bool.false_or, Bool.true_or, sz_go, z0, z1, z2]
      rw [cut_row (by simp [below, belowAll])]
      exact ⟨.go (dk s (many : Nat)), _, rfl, rfl, by show _ < _; omega, fun h => by first | rfl | (simp at h)⟩
  · -- if
    by_cases hz : many = 0
    · simp! [r2, gt2, mm2, ix2, tk2, Option.getD_some, Option.getD_none, Option.isSome_some, Option.isSome_none, mem_gp, Bool.or_false, Bool.or_true, Bool.false_or, Bool.true_or, sz_if, hz]
      rw [cut_row (by simp [below, belowAll])]
      exact ⟨.end_, s, rfl, rfl, trivial, fun h => by simp at h⟩
    · have z0 : (((many : Nat) : Int) = 0) = False := eq_false (by omega)
      have z1 : (0 : Int) < (many : Nat) := by omega
      have z2 : ((many : Nat) : Int) < 1073741824 := by omega
      have t := dk_lt s z1
      simp! [r2, gt2, mm2, ix2, tk2, Option.getD_some, Option.getD_none, Option.isSome_some, Option.isSome_none, mem_gp, Bool.or_false, Bool.or_true, Bool.false_or, Bool.true_or, sz_if, z0, z1, z2]
      rw [cut_row (by simp [below, belowAll])]
      exact ⟨.iff (dk s (many : Nat)), _, rfl, rfl, by show _ < _; omega, fun h => by first | rfl | (simp at h)⟩
  · -- bare
    by_cases hz : many = 0
    · simp! [r2, gt2, mm2, ix2, tk2, Option.getD_some, Option.getD_none, Option.isSome_some, Option.isSome_none, mem_gp, Bool.or_false, Bool.or_true, Bool.false_or, Bool.true_or, sz_bare, hz]
      rw [cut_row (by simp [below, belowAll])]
      exact ⟨.end_, s, rfl, rfl, trivial, fun h => by simp at h⟩
    · have z0 : (((many : Nat) : Int) = 0) = False := eq_false (by omega)
      have z1 : (0 : Int) < (many : Nat) := by omega
      have z2 : ((many : Nat) : Int) < 1073741824 := by omega
      have t := dk_lt s z1
      simp! [r2, gt2, mm2, ix2, tk2, Option.getD_some, Option.getD_none, Option.isSome_some, Option.isSome_none, mem_gp, Bool.or_false, Bool.or_true, Bool.false_or, Bool.true_or, sz_bare, z0, z1, z2]
      rw [cut_row (by simp [below, belowAll])]
      exact ⟨.bare (dk s (many : Nat)), _, rfl, rfl, by show _ < _; omega, fun h => by first | rfl | (simp at h)⟩
  · -- throw
    simp! [r2, gt2, mm2, ix2, tk2, Option.getD_some, Option.getD_none, Option.isSome_some, Option.isSome_none, mem_gp, Bool.or_false, Bool.or_true, Bool.false_or, Bool.true_or, sz_throw]
    rw [cut_row (by simp [below, belowAll])]
    exact ⟨.throw, s, rfl, rfl, trivial, fun h => by simp at h⟩
  · -- give
    simp! [r2, gt2, mm2, ix2, tk2, Option.getD_some, Option.getD_none, Option.isSome_some, Option.isSome_none, mem_gp, Bool.or_false, Bool.or_true, Bool.false_or, Bool.true_or, sz_give]
    rw [cut_row (by simp [below, belowAll])]
    exact ⟨.give, s, rfl, rfl, trivial, fun h => by simp at h⟩
  · -- end
    simp! [r2, gt2, mm2, ix2, tk2, Option.getD_some, Option.getD_none, Option.isSome_some, Option.isSome_none, mem_gp, Bool.or_false, Bool.or_true, Bool.false_or, Bool.true_or, sz_end]
    rw [cut_row (by simp [below, belowAll])]
    exact ⟨.end_, s, rfl, rfl, trivial, fun h => by simp at h⟩
end
end MP

set_option linter.all false
set_option maxRecDepth 100000
set_option maxHeartbeats 4000000
/-! Any programs. -/
namespace MP
open MG
local macro_rules
  | `(tactic| simp! [$a,*]) => `(tactic| simp -dsimp only [wpE_var, wpE_k, wpE_nil, wpE_cons, wpE_lst, wpE_op1, wpE_op2, wpE_and, wpE_or, wpE_ite, wpE_chain, wpE_slc, wpE_rev, wpE_bi, wpE_bm, wpE_call, wpE_meth, wpE_make, wpE_fld, wpE_comp, wpE_rng, wpE_rrng, wpE_enum, wpE_zip, wpE_dict, wpE_frz, asgW_var, asgW_fld, asgW_op2, asgW_nil, asgW_cons, wsS_skip, wsS_seq, wsS_ex, wsS_asg, wsS_ret, wsS_ife, wsS_for, wsS_while, wsS_raise, wsS_try0, wsS_try1, wsS_cont, getE_0, getE_s, putW_0, putW_s, getW_some, WP_ok, WP_err, tupW_tup, blW_t, blW_f, nonW_non, lstW_some, iterW_some, iter_tup, iter_lst, partW_some, part_n, part_v, part_i, part_2, part_b, insW_some, refW_ref, ints2W_int, stoW_some, envW_var, envW_cons, envW_nil, prsW_some, okW_t, fitsT_var, fitsT_fld, fitsT_op2, fitsT_2, fitsT_3, fitsT_6, unp_var, unp_fld, unp_op2, unp_tup, unp_lst, List.map_cons, List.map_nil, List.cons_append, List.nil_append, wipe_nil, wipe_cons, List.set_cons_succ, List.set_cons_zero, isInt_tup, isInt_lst, isInt_int, isInt_str, isInt_bl, isInt_non, isInt_scr, isBool_tup, isBool_lst, isBool_int, isBool_str, isBool_bl, isBool_non, isBool_scr, isStr_tup, isStr_lst, isStr_int, isStr_str, isStr_bl, isStr_non, isStr_scr, isTup_tup, isTup_lst, isTup_int, isTup_str, isTup_bl, isTup_non, isTup_scr, isLst_tup, isLst_lst, isLst_int, isLst_str, isLst_bl, isLst_non, isLst_scr, isTL_tup, isTL_lst, isTL_int, isTL_str, isTL_bl, isTL_non, isTL_scr, isN_tup, notN_tup, isN_lst, notN_lst, isN_int, notN_int, isN_str, notN_str, isN_bl, notN_bl, isN_non, notN_non, isN_scr, notN_scr, isN_ref, notN_ref, not_bl, neg_int, len_tup, List.length_map, len_lst, len_scr, pur_int, pur_str, pur_bl, pur_non, pur_tup, pur_lst, purAll_nil, purAll_cons, op2_idx, op2_add, op2_sub, add_int, add_lst, add_tup, List.length_cons, List.length_nil, Nat.reduceAdd, Nat.zero_add, Nat.add_zero, nc0, nc1, nc2, nc3, nc4, nc5, nc6, nc7, nc8, nc9, Int.reduceLT, Int.reduceEq, Int.reduceMod, Int.reduceAdd, Int.reduceSub, op2_eq, op2_ne, op2_lt, op2_le, op2_gt, op2_ge, op2_in, op2_nin, okB_some, id_eq, decide_true, decide_false, decide_not, String.reduceEq, reduceCtorEq, String.reduceAppend, Option.isNone_none, eq_self, bi_tuple, idx_l0, idx_l1, idx_l2, idx_l3, idx_t0, idx_t1, idx_t2, idx_t3, idx_t4, idx_t5, eqB_str, eqB_int, eqB_is, eqB_si, Bool.and_self, eqB_ts, eqB_st, ext_rfl, ext_app, ext_app2, tup_tup, tup_lst, eqB_non, Bool.false_eq_true, if_false, if_true, Bool.not_true, Bool.not_false, and_true, true_and, implies_true, forall_const, $a,*])
section
variable {G : GD} {U : Up} {n : Nat} {st tl : Store} {s : Rng} {own : Bool}
theorem app_a {o : O} {l : List D} {y : D} {g : Store} (h : l.length < LIM) : biV G own .append [.ref (tl.length + 1), y] (o :: (tl ++ (.lst l :: g))) = .ok .non (o :: (tl ++ (.lst (l ++ [y]) :: g))) := by
  have e : (o :: (tl ++ (O.lst l :: g)))[tl.length + 1]? = some (.lst l) := by simp
  have e2 : ∀ x st, biV G own .append [x, y] st = objL st x fun r ds => if ds.length < LIM then .ok .non (st.set r (.lst (ds ++ [y]))) else .bad := fun _ _ => rfl
  rw [e2]
  simp only [objL, e, h, if_true]
  simp
theorem rcv_a {o : O} {l : List D} {g : Store} : recv .append (o :: (tl ++ (.lst l :: g))) (.ref (tl.length + 1)) = true := by
  simp [recv, lstOf]
theorem tup_a {o : O} {l : List D} {g : Store} : toTuple (o :: (tl ++ (.lst l :: g))) (.ref (tl.length + 1)) = .ok (.tup l) (o :: (tl ++ (.lst l :: g))) := by
  simp [toTuple, onL, lstOf]
theorem ext_b {o a : O} {l es : List D} (h : l.length + es.length ≤ LIM) : biV G own .extend [.ref (tl.length + 1 + 1), .lst es] (o :: (tl ++ [a, .lst l])) = .ok .non (o :: (tl ++ [a, .lst (l ++ es)])) := by
  have e : (o :: (tl ++ [a, O.lst l]))[tl.length + 1 + 1]? = some (.lst l) := a2
  have e2 : ∀ x y st, biV G own .extend [x, y] st = objL st x fun r ds => onL st y fun es => if ds.length + es.length ≤ LIM then .ok .non (st.set r (.lst (ds ++ es))) else .bad := fun _ _ _ => rfl
  rw [e2]
  simp only [objL, e, onL, lstOf, h, if_true]
  rw [List.set_cons_succ, b2]
theorem rcv_b {o a : O} {l : List D} : recv .extend (o :: (tl ++ [a, .lst l])) (.ref (tl.length + 1 + 1)) = true := by
  have e : (o :: (tl ++ [a, O.lst l]))[tl.length + 1 + 1]? = some (.lst l) := a2
  simp [recv, lstOf, e]
theorem a4 {o a b c x : O} : (o :: (tl ++ [a, b, c, x]))[tl.length + 1 + 1 + 1 + 1]? = some x := by
  rw [List.getElem?_cons_succ, List.getElem?_append_right (by omega), show tl.length + 1 + 1 + 1 - tl.length = 3 by omega]; rfl
theorem b4 {a b c x y : O} : (tl ++ [a, b, c, x]).set (tl.length + 1 + 1 + 1) y = tl ++ [a, b, c, y] := by
  rw [List.set_append_right _ _ (by omega), show tl.length + 1 + 1 + 1 - tl.length = 3 by omega]; rfl
theorem app_d {o a b c : O} {l : List D} {y : D} (h : l.length < LIM) : biV G own .append [.ref (tl.length + 1 + 1 + 1 + 1), y] (o :: (tl ++ [a, b, c, .lst l])) = .ok .non (o :: (tl ++ [a, b, c, .lst (l ++ [y])])) := by
  have e2 : ∀ x st, biV G own .append [x, y] st = objL st x fun r ds => if ds.length < LIM then .ok .non (st.set r (.lst (ds ++ [y]))) else .bad := fun _ _ => rfl
  rw [e2]
  simp only [objL, a4, h, if_true]
  rw [List.set_cons_succ, b4]
theorem rcv_d {o a b c : O} {l : List D} : recv .append (o :: (tl ++ [a, b, c, .lst l])) (.ref (tl.length + 1 + 1 + 1 + 1)) = true := by
  simp [recv, lstOf, a4]
theorem tup_d {o a b c : O} {l : List D} : toTuple (o :: (tl ++ [a, b, c, .lst l])) (.ref (tl.length + 1 + 1 + 1 + 1)) = .ok (.tup l) (o :: (tl ++ [a, b, c, .lst l])) := by
  simp [toTuple, onL, lstOf, a4]
theorem set_d {o a b : O} {kvs : List (D × D)} {k : String} {v : D} (h : kvs.length < 100000) : setIdx G (o :: (tl ++ [a, b, .dK kvs])) (.ref (tl.length + 1 + 1 + 1)) (.str k) v = some (o :: (tl ++ [a, b, .dK (dput kvs (.str k) v)])) := by
  simp only [setIdx, a3, keyK, Bool.true_and]
  rw [if_pos (decide_eq_true h), List.set_cons_succ, b3]
theorem range_b {m : Nat} (h : m ≤ 1000) : biV G false .range [.int m] st = .ok (.lst ((List.range m).map fun k => D.int (k : Nat))) st := by
  have e : ∀ x, biV G false .range [x] st = withI x fun n => if -4611686018427387904 ≤ n ∧ n ≤ LIM then give false (rangeD 0 n.toNat) st else .bad := fun _ => rfl
  rw [e]
  simp only [withI]
  rw [if_pos ⟨by omega, by show (m : Int) ≤ ((16777216 : Nat) : Int); omega⟩, give_f]
  have := rangeD_map m 0
  rw [List.range_eq_range', ← this]
  rfl
theorem fl_any {m : Nat} : ∀ e ∈ (D.str "n" :: (List.range m).map fun k => D.int (k : Nat)), ∃ f : Fl, e = f.d ∧ f.ok m := by
  intro e he
  rcases List.mem_cons.mp he with rfl | he
  · exact ⟨.num, rfl, trivial⟩
  · obtain ⟨k, hk, rfl⟩ := List.mem_map.mp he
    exact ⟨.of k, rfl, show k < m by simpa using hk⟩
theorem fields_app {cs : List Kl} {k : Kl} {m : Nat} {prs : List (Nat × Nat)} (h : ∀ p ∈ prs, ∃ c, cs[p.1]? = some c ∧ p.2 < c.flds.length) (hm : m = k.flds.length) : ∀ p ∈ prs ++ (List.range m).map (fun j => (cs.length, j)), ∃ c, (cs ++ [k])[p.1]? = some c ∧ p.2 < c.flds.length := by
  intro p hp
  rcases List.mem_append.mp hp with hp | hp
  · obtain ⟨c, h1, h2⟩ := h p hp
    exact ⟨c, by rw [List.getElem?_append_left (List.getElem?_eq_some_iff.mp h1).1]; exact h1, h2⟩
  · obtain ⟨j, hj, rfl⟩ := List.mem_map.mp hp
    exact ⟨k, by simp, by rw [← hm]; simpa using hj⟩
theorem below_pr {m : Nat} (p : Nat × Nat) : below m (D.tup [.int p.1, .int p.2]) = true := by simp [below, belowAll]
theorem keys4t {a c e g : String} {b d f h : D} : (List.all [(D.str a, b), (D.str c, d), (D.str e, f), (D.str g, h)] (fun p => keyK p.1) && true) = true := id rfl
theorem dput4 {a b c d : D} : dputAll [] [(D.str "boxes", a), (D.str "kinds", b), (D.str "pairs", c), (D.str "many", d)] = [(D.str "boxes", a), (D.str "kinds", b), (D.str "pairs", c), (D.str "many", d)] := id rfl
theorem dput5 {a b c d e : D} : dput [(D.str "boxes", a), (D.str "kinds", b), (D.str "pairs", c), (D.str "many", d)] (.str "news") e = [(D.str "boxes", a), (D.str "kinds", b), (D.str "pairs", c), (D.str "many", d), (D.str "news", e)] := id rfl
theorem g_any_program : WP (callN G U LIB (n + 3) "_law_any_program" [.ref 0] (rowO s :: tl)) (fun v st' => ∃ (p : Pg) (s' : Rng), v = p.d ∧ st' = rowO s' :: tl ∧ p.Ok) fun _ _ => False := by
  refine wp_call l__law_any_program rfl ?_
  dsimp only [f__law_any_program, List.map_cons, List.map_nil, List.replicate_succ, List.replicate_zero, List.cons_append, List.nil_append, Nat.reduceSub]
  have t6 := dk_lt s (m := 6) (by decide)
  obtain ⟨kn, hkn, hk1, hk6⟩ : ∃ kn : Nat, 1 + ((dk s 6 : Nat) : Int) = (kn : Int) ∧ 1 ≤ kn ∧ kn ≤ 6 := ⟨1 + dk s 6, by omega, by omega, by omega⟩
  have r1 := rgok 0 (kn : Int) (by omega)
  have kz : (0 : Int) < (kn : Int) + 1 := by omega
  have kz1 : (kn : Int) + 1 < 1073741824 := by omega
  have pick : ∀ (s : Rng) (st : Store), ∃ f : Fl, idxV G st (.lst (D.str "n" :: (List.range kn).map fun k => D.int (k : Nat))) (.int (dk s ((kn : Int) + 1))) = some f.d ∧ f.ok kn := by
    intro s st
    have t := dk_lt s kz
    obtain ⟨e, he, f, rfl, hf⟩ := idx_ex (G := G) (st := st) (l := D.str "n" :: (List.range kn).map fun k => D.int (k : Nat)) (i := dk s ((kn : Int) + 1)) (fun e => ∃ f : Fl, e = f.d ∧ f.ok kn) (by simp; omega) fl_any
    exact ⟨f, he, hf⟩
  have lk : 1 + kn ≤ LIM := by show _ ≤ 16777216; omega
  simp! [c_taken, hkn, give_t, List.length_append, List.append_assoc, r1]
  refine wfor (fun i ρ st => ∃ (s' : Rng) (cs : List Kl) (prs : List (Nat × Nat)) (a b : Option D), ρ = [some (.ref 0), a, none, none, none, none, none, some (.int kn), some (.ref (tl.length + 1)), some (.ref (tl.length + 1 + 1)), b, none, none, none, none, none, none] ∧ st = rowO s' :: (tl ++ [.lst (cs.map Kl.d), .lst (prs.map fun p => D.tup [.int p.1, .int p.2])]) ∧ cs.length = i ∧ WC cs ∧ (∀ c ∈ cs, c.flds.length ≤ 3 ∧ ∀ f ∈ c.flds, f.ok kn) ∧ prs.length ≤ 3 * i ∧ ∀ p ∈ prs, ∃ c, cs[p.1]? = some c ∧ p.2 < c.flds.length) ⟨_, [], [], _, _, rfl, rfl, rfl, (fun i c h => by simp at h), (fun _ h => by cases h), (by simp), (fun _ h => by cases h)⟩ ?_ ?_
  · rintro i x ρ _ hd ⟨s', cs, prs, a, b, rfl, rfl, rfl, wc, hf, hpl, hpr⟩
    obtain ⟨rfl, him⟩ := rg_get hd
    refine ⟨rfl, ?_⟩
    have t4 := dk_lt s' (m := 4) (by decide)
    have r2 := rgok 0 (dk s' 4 : Int) (by omega)
    simp! [c_taken, r2]
    refine wdraw_each Fl.d (Fl.ok kn) (by rw [rg_len]; show _ ≤ 16777216; omega) (fun x => below_fl x) ?_ ?_
    · intro j x acc s2 _
      obtain ⟨f, hfi, hfo⟩ := pick s2 (rowO (dn s2 ((kn : Int) + 1)) :: (tl ++ [.lst (cs.map Kl.d), .lst (prs.map fun p => D.tup [.int p.1, .int p.2]), .lst acc]))
      simp! [c_taken, kz, kz1, give_f, range_b (m := kn) (by omega), lk, List.length_range, List.append_assoc, hfi]
      exact ⟨f, _, rfl, hfo, rfl⟩
    · intro xs s2 hxl hxs
      rw [rg_len] at hxl
      have hlen : (cs.map Kl.d).length < LIM := by rw [List.length_map]; show _ < 16777216; omega
      have hx3 : xs.length ≤ 3 := by omega
      have r3 := rgok 0 (xs.length : Int) (by omega)
      have hle : (prs.map fun p => D.tup [.int p.1, .int p.2]).length + ((List.range xs.length).map fun j => D.tup [.int cs.length, .int (j : Nat)]).length ≤ LIM := by
        rw [List.length_map, List.length_map, List.length_range]; show _ ≤ 16777216; omega
      have pr2 : ∀ (Q : QD) (E : QE) (o : O) (l : List D) (ρ : Env) (a : Option D) (b : List (Option D)), ρ = some (.ref 0) :: some (.int cs.length) :: b → True := fun _ _ _ _ _ _ _ _ => trivial
      by_cases hi0 : cs.length = 0
      · have hc : cs = [] := List.length_eq_zero_iff.mp hi0
        subst hc
        simp! [rcv_a, app_a (l := []) (show ([] : List D).length < LIM by decide), rcv_b, r3]
        rw [range_map (n := xs.length) rfl]
        refine wpure (fun k : Nat => D.int (k : Nat)) (List.range xs.length) (fun _ => true) (fun k => D.tup [.int 0, .int (k : Nat)]) (by rw [List.length_range]; show _ ≤ 16777216; omega) (fun _ => rfl) ?_ (fun _ _ _ => by simp [below, belowAll]) ?_
        · intro k hk' acc
          simp! []
        · have hle' : (prs.map fun p => D.tup [.int p.1, .int p.2]).length + ((List.range xs.length).map fun j => D.tup [.int 0, .int (j : Nat)]).length ≤ LIM := by
            rw [List.length_map, List.length_map, List.length_range]; show _ ≤ 16777216; omega
          simp! [filter_tt, ext_b hle']
          refine ⟨s2, [⟨none, xs⟩], prs ++ (List.range xs.length).map (fun j => (0, j)), _, _, rfl, ?_, rfl, ?_, ?_, by simp; omega, ?_⟩
          · simp [Kl.d, optD, Function.comp_def]
          · intro i c h
            cases i with
            | zero => simp at h; subst h; rfl
            | succ i => simp at h
          · intro c hc
            simp at hc
            subst hc
            exact ⟨hx3, hxs⟩
          · exact fields_app (cs := []) (k := ⟨none, xs⟩) hpr rfl
      · have hc0 : (0 : Int) < cs.length := by omega
        have hc1 : (cs.length : Int) < 1073741824 := by omega
        have tk := dk_lt s2 hc0
        simp! [hc0, hc1, c_taken, rcv_a, app_a hlen, rcv_b, r3]
        rw [range_map (n := xs.length) rfl]
        refine wpure (fun k : Nat => D.int (k : Nat)) (List.range xs.length) (fun _ => true) (fun k => D.tup [.int cs.length, .int (k : Nat)]) (by rw [List.length_range]; show _ ≤ 16777216; omega) (fun _ => rfl) ?_ (fun _ _ _ => by simp [below, belowAll]) ?_
        · intro k hk' acc
          simp! []
        · simp! [filter_tt, ext_b hle]
          refine ⟨dn s2 cs.length, cs ++ [⟨some (dk s2 cs.length), xs⟩], prs ++ (List.range xs.length).map (fun j => (cs.length, j)), _, _, rfl, ?_, by simp, ?_, ?_, by simp; omega, ?_⟩
          · simp [Kl.d, optD, Function.comp_def]
          · intro i c h
            by_cases hi : i < cs.length
            · rw [List.getElem?_append_left hi] at h
              exact wc i c h
            · rw [List.getElem?_append_right (by omega)] at h
              have : i - cs.length = 0 := by
                have := (List.getElem?_eq_some_iff.mp h).1
                simp at this
                omega
              rw [this] at h
              simp at h
              subst h
              show dk s2 cs.length < i
              omega
          · intro c hc
            rcases List.mem_append.mp hc with hc | hc
            · exact hf c hc
            · simp at hc
              subst hc
              exact ⟨hx3, hxs⟩
          · exact fields_app hpr rfl
  rintro ρ _ ⟨s1, cs, prs, a, b, rfl, rfl, hlen, wc, hf, hpl, hpr⟩
  rw [rg_len] at hlen hpl
  refine ⟨rfl, ?_⟩
  have t5 := dk_lt s1 (m := 5) (by decide)
  have r2 := rgok 0 (dk s1 5 : Int) (by omega)
  simp! [c_taken, r2]
  refine wdraw_each Fl.d (Fl.ok kn) (by rw [rg_len]; show _ ≤ 16777216; omega) (fun x => below_fl x) ?_ ?_
  · intro j x acc s2 _
    obtain ⟨f, hfi, hfo⟩ := pick s2 (rowO (dn s2 ((kn : Int) + 1)) :: (tl ++ [.lst (cs.map Kl.d), .lst (prs.map fun p => D.tup [.int p.1, .int p.2]), .lst acc]))
    simp! [c_taken, kz, kz1, give_f, range_b (m := kn) (by omega), lk, List.length_range, List.append_assoc, hfi]
    exact ⟨f, _, rfl, hfo, rfl⟩
  intro par s2 hpal hpar
  rw [rg_len] at hpal
  have hp4 : par.length ≤ 4 := by omega
  have q0 : (0 : Int) < 7 - (par.length : Int) := by omega
  have q1 : 7 - (par.length : Int) < 1073741824 := by omega
  have tq := dk_lt s2 q0
  obtain ⟨nb, hnb, hnbp, hnb6⟩ : ∃ nb : Nat, (par.length : Int) + (dk s2 (7 - (par.length : Int)) : Int) = (nb : Int) ∧ par.length ≤ nb ∧ nb ≤ 6 := ⟨par.length + dk s2 (7 - (par.length : Int)), by omega, by omega, by omega⟩
  refine let_eq (dn (dn s2 (7 - (par.length : Int))) 9) fun s3 es3 => ?_
  have t9 := dk_lt (dn s2 (7 - (par.length : Int))) (m := 9) (by decide)
  refine let_eq (dk (dn s2 (7 - (par.length : Int))) 9) fun room eroom => ?_
  rw [← eroom] at t9
  have t40 := dk_lt s3 (m := 40) (by decide)
  obtain ⟨many, hmany, hm1, hm40⟩ : ∃ many : Nat, 1 + ((dk s3 40 : Nat) : Int) = (many : Int) ∧ 1 ≤ many ∧ many ≤ 40 := ⟨1 + dk s3 40, by omega, by omega, by omega⟩
  have r3 := rgok 0 (many : Int) (by omega)
  have l22 : 14 + 8 ≤ LIM := by decide
  simp! [c_taken, q0, q1, hnb, ← es3, ← eroom, give_f, l22, Nat.reduceLeDiff, hmany, r3]
  refine wdraw_each D.str (fun w => w ∈ rowWords) (by rw [rg_len]; show _ ≤ 16777216; omega) (fun x => rfl) ?_ ?_
  · intro j x acc s4 _
    have t22 := dk_lt s4 (m := 22) (by decide)
    obtain ⟨e, he, w, rfl, hw⟩ := idx_ex (G := G) (st := rowO (dn s4 22) :: (tl ++ [.lst (cs.map Kl.d), .lst (prs.map fun p => D.tup [.int p.1, .int p.2]), .lst acc])) (l := [.str "num", .str "none", .str "ask", .str "new", .str "birth", .str "load", .str "store", .str "dup", .str "drop", .str "swap", .str "add", .str "take", .str "get", .str "put", .str "cast", .str "is", .str "go", .str "if", .str "bare", .str "throw", .str "give", .str "end"]) (i := dk s4 22) (fun e => ∃ w, e = D.str w ∧ w ∈ rowWords) (by simp; omega) (by
      intro e he
      have : [.str "num", .str "none", .str "ask", .str "new", .str "birth", .str "load", .str "store", .str "dup", .str "drop", .str "swap", .str "add", .str "take", .str "get", .str "put", .str "cast", .str "is", .str "go", .str "if", .str "bare", .str "throw", .str "give", .str "end"] = rowWords.map D.str := rfl
      rw [this] at he
      obtain ⟨w, hw, rfl⟩ := List.mem_map.mp he
      exact ⟨w, rfl, hw⟩)
    simp! [c_taken, List.append_assoc, he]
    exact ⟨w, _, rfl, hw, rfl⟩
  intro words s4 hwl hwo
  rw [rg_len] at hwl
  have r4 := rgok 0 (words.length : Int) (by omega)
  simp! [flat4, keys4t, Nat.reduceLeDiff, List.length_append, List.append_assoc, a3, b3, dput4, r4]
  rw [range_map (n := words.length) rfl]
  refine wpure (fun k : Nat => D.int (k : Nat)) (List.range words.length) (fun k => decide (words.getD k "" = "new")) (fun k => D.int (k : Nat)) (by rw [List.length_range]; show _ ≤ 16777216; omega) (fun _ => rfl) ?_ (fun _ _ _ => rfl) ?_
  · intro k hk' acc
    have hk' : k < words.length := by simpa using hk'
    have ew : ∀ st, idxV G st (.lst (words.map D.str)) (.int k) = some (.str (words.getD k "")) := by
      intro st
      rw [idx_ln]
      simp [hk']
    simp! [ew]
  obtain ⟨news, enews⟩ : ∃ news, news = (List.range words.length).filter fun k => decide (words.getD k "" = "new") := ⟨_, rfl⟩
  rw [← enews]
  have hnews : ∀ k ∈ news, words[k]? = some "new" := by
    intro k hk
    rw [enews] at hk
    obtain ⟨h1, h2⟩ := List.mem_filter.mp hk
    have h1 : k < words.length := by simpa using h1
    have h2 := of_decide_eq_true h2
    rw [List.getElem?_eq_getElem h1]
    simp [h1] at h2
    rw [h2]
  have hnl : news.length ≤ 40 := by
    rw [enews]
    exact Nat.le_trans (List.length_filter_le _ _) (by simp; omega)
  simp! [set_d (kvs := [(D.str "boxes", D.int (nb : Nat)), (D.str "kinds", D.int (kn : Nat)), (D.str "pairs", D.ref (tl.length + 1 + 1)), (D.str "many", D.int (words.length : Nat))]) (show [(D.str "boxes", D.int (nb : Nat)), (D.str "kinds", D.int (kn : Nat)), (D.str "pairs", D.ref (tl.length + 1 + 1)), (D.str "many", D.int (words.length : Nat))].length < 100000 by simp), dput5]
  have i0 : ∀ (j : Nat) (r : Rw), ([] : List Rw)[j]? = some r → AnyOk nb kn words.length news prs r ∧ (words[j]? = some "new" → r.isNew = true) := fun j r h => by simp at h
  refine wdraw (fun i acc => ∃ xs : List Rw, acc = xs.map Rw.d ∧ xs.length = i ∧ ∀ j r, xs[j]? = some r → AnyOk nb kn words.length news prs r ∧ (words[j]? = some "new" → r.isNew = true)) ⟨[], rfl, rfl, i0⟩ (by rw [List.length_map]; show _ ≤ 16777216; omega) ?_ ?_
  · rintro i d acc s5 hd ⟨xs, rfl, rfl, hxs⟩
    rw [List.getElem?_map] at hd
    cases ew : words[xs.length]? with
    | none => rw [ew] at hd; cases hd
    | some w =>
      rw [ew] at hd
      cases hd
      have ap : AP (tl ++ [O.lst (cs.map Kl.d), O.lst (prs.map fun p => D.tup [.int p.1, .int p.2]), O.dK [(D.str "boxes", D.int (nb : Nat)), (D.str "kinds", D.int (kn : Nat)), (D.str "pairs", D.ref (tl.length + 1 + 1)), (D.str "many", D.int (words.length : Nat)), (D.str "news", D.lst (news.map fun k => D.int (k : Nat)))], .lst (xs.map Rw.d)]) (tl.length + 2) (tl.length + 1) nb kn words.length news prs := by
        constructor
        · rw [List.getElem?_append_right (by omega), show tl.length + 2 - tl.length = 2 by omega]; rfl
        · rw [List.getElem?_append_right (by omega), show tl.length + 1 - tl.length = 1 by omega]; rfl
      simp! [List.append_assoc]
      refine WP.use (g_any_row (n := n) ap (by omega) hk1 (by omega) (by omega) (by omega) (by omega) (by omega) w (hwo w (List.mem_of_getElem? ew))) ?_
      rintro _ _ ⟨r, s6, rfl, rfl, hr1, hr2⟩
      refine ⟨s6, by rw [List.append_assoc]; rfl, xs ++ [r], by simp, by simp, ?_⟩
      intro j q hq
      by_cases hj : j < xs.length
      · rw [List.getElem?_append_left hj] at hq
        exact hxs j q hq
      · rw [List.getElem?_append_right (by omega)] at hq
        have h0 : j - xs.length = 0 := by
          have := (List.getElem?_eq_some_iff.mp hq).1
          simp at this
          omega
        rw [h0] at hq
        simp at hq
        subst hq
        have : j = xs.length := by omega
        subst this
        refine ⟨hr1, fun h => hr2 ?_⟩
        rw [ew] at h
        cases h
        rfl
  rintro acc s5 ⟨rows, rfl, hrl, hrows⟩
  rw [List.length_map] at hrl
  refine ⟨belowAll_map below_rw _, ?_⟩
  have y5 := dk_lt s5 (m := 5) (by decide)
  have r5 := rgok 0 (dk s5 5 : Int) (by omega)
  simp! [give_t, List.length_append, List.append_assoc, c_taken, r5]
  refine wfor (fun i ρ st => ∃ (s' : Rng) (hs : List Hd) (a1 a14 a15 : Option D), ρ = [some (.ref 0), a1, some (.lst (par.map Fl.d)), some (.lst (words.map D.str)), some (.ref (tl.length + 2 + 1)), some (.lst (rows.map Rw.d)), some (.ref (tl.length + 1 + 1 + 1 + 1)), some (.int kn), some (.ref (tl.length + 1)), some (.ref (tl.length + 1 + 1)), b, some (.int nb), some (.int room), none, a14, a15, none] ∧ st = rowO s' :: (tl ++ [O.lst (cs.map Kl.d), O.lst (prs.map fun p => D.tup [.int p.1, .int p.2]), O.dK [(D.str "boxes", D.int (nb : Nat)), (D.str "kinds", D.int (kn : Nat)), (D.str "pairs", D.ref (tl.length + 1 + 1)), (D.str "many", D.int (words.length : Nat)), (D.str "news", D.lst (news.map fun k => D.int (k : Nat)))], .lst (hs.map Hd.d)]) ∧ hs.length = i ∧ ∀ h ∈ hs, h.b < h.e ∧ h.e ≤ rows.length ∧ h.g < rows.length ∧ h.c < cs.length) ⟨_, [], _, _, _, rfl, rfl, rfl, (fun _ h => by cases h)⟩ ?_ ?_
  · rintro i x ρ _ hd ⟨s', hs, a1, a14, a15, rfl, rfl, rfl, hh⟩
    obtain ⟨rfl, him⟩ := rg_get hd
    refine ⟨rfl, ?_⟩
    have l0 : (0 : Int) < rows.length := by omega
    have l1 : (rows.length : Int) < 1073741824 := by omega
    have z1 := dk_lt s' l0
    have z2 := dk_lt (dn s' rows.length) l0
    refine let_eq (dk s' rows.length) fun at1 eat => ?_
    refine let_eq (dk (dn s' rows.length) rows.length) fun gl egl => ?_
    refine let_eq (dn (dn s' rows.length) rows.length) fun s8 es8 => ?_
    rw [← eat] at z1
    rw [← egl] at z2
    have l2 : (0 : Int) < (rows.length : Int) - (at1 : Int) := by omega
    have l3 : (rows.length : Int) - (at1 : Int) < 1073741824 := by omega
    have z3 := dk_lt s8 l2
    have k0 : (0 : Int) < kn := by omega
    have k1 : (kn : Int) < 1073741824 := by omega
    have z4 := dk_lt (dn s8 ((rows.length : Int) - (at1 : Int))) k0
    have hlh : (hs.map Hd.d).length < LIM := by rw [List.length_map]; show _ < 16777216; omega
    simp! [c_taken, l0, l1, ← eat, ← egl, ← es8, l2, l3, k0, k1, rcv_d, app_d hlh]
    refine ⟨dn (dn s8 ((rows.length : Int) - (at1 : Int))) kn, hs ++ [⟨at1, at1 + 1 + dk s8 ((rows.length : Int) - (at1 : Int)), gl, dk (dn s8 ((rows.length : Int) - (at1 : Int))) kn⟩], _, _, _, rfl, ?_, by simp, ?_⟩
    · simp only [List.map_append, List.map_cons, List.map_nil, Hd.d, Int.natCast_add, nc1]
    · intro h hm
      rcases List.mem_append.mp hm with hm | hm
      · exact hh h hm
      · simp at hm
        subst hm
        refine ⟨?_, ?_, ?_, ?_⟩ <;> simp only <;> omega
  rintro ρ _ ⟨s9, hs, a1, a14, a15, rfl, rfl, hhl, hh⟩
  rw [rg_len] at hhl
  refine ⟨rfl, ?_⟩
  simp! [tup_a, tup_d]
  have hv : below (tl.length + 1) (Pg.d ⟨cs, par, nb, room, rows, hs⟩) = true := below_pg _
  have := cut_row (s := s) (tl := tl) (s' := s9) (g := [O.lst (cs.map Kl.d), O.lst (prs.map fun p => D.tup [.int p.1, .int p.2]), O.dK [(D.str "boxes", D.int (nb : Nat)), (D.str "kinds", D.int (kn : Nat)), (D.str "pairs", D.ref (tl.length + 1 + 1)), (D.str "many", D.int (words.length : Nat)), (D.str "news", D.lst (news.map fun k => D.int (k : Nat)))], .lst (hs.map Hd.d)]) hv
  refine WP.of_eq this ⟨⟨cs, par, nb, room, rows, hs⟩, _, rfl, rfl, ?_⟩
  refine ⟨wc, by show 1 ≤ cs.length; omega, by show cs.length ≤ 6; omega, ?_, hp4, ?_, ⟨hnbp, hnb6⟩, by show room ≤ 8; omega, by show 1 ≤ rows.length; omega, by show rows.length ≤ 40; omega, ?_, by show hs.length ≤ 4; omega, hh⟩
  · show ∀ c ∈ cs, c.flds.length ≤ 3 ∧ ∀ f ∈ c.flds, f.ok cs.length
    rw [hlen]; exact hf
  · show ∀ f ∈ par, f.ok cs.length
    rw [hlen]; exact hpar
  · intro w hw
    have hw : w ∈ rows := hw
    obtain ⟨j, hj, ej⟩ := List.mem_iff_getElem.mp hw
    have ej' : rows[j]? = some w := by rw [List.getElem?_eq_getElem hj, ej]
    have hok := (hrows j w ej').1
    cases w with
    | num m => exact hok
    | new c => show c < cs.length; rw [hlen]; exact hok
    | birth r =>
      have hok : r ∈ news := hok
      have hw := hnews r hok
      have hr : r < rows.length := by
        have := (List.getElem?_eq_some_iff.mp hw).1
        omega
      exact ⟨rows[r], by show rows[r]? = _; rw [List.getElem?_eq_getElem hr], (hrows r rows[r] (List.getElem?_eq_getElem hr)).2 hw⟩
    | load b => exact hok
    | store b => exact hok
    | get c f => exact hpr (c, f) hok
    | put c f => exact hpr (c, f) hok
    | cast c => show c < cs.length; rw [hlen]; exact hok
    | is_ c => show c < cs.length; rw [hlen]; exact hok
    | go r => have hok : r < words.length := hok; show r < rows.length; omega
    | iff r => have hok : r < words.length := hok; show r < rows.length; omega
    | bare r => have hok : r < words.length := hok; show r < rows.length; omega
    | _ => trivial
end
end MP

set_option linter.all false
set_option maxRecDepth 100000
set_option maxHeartbeats 4000000
/-! The law's own looks at sorts: by all unlike worths. -/
namespace MP
open MG
local macro_rules
  | `(tactic| simp! [$a,*]) => `(tactic| simp -dsimp only [wpE_var, wpE_k, wpE_nil, wpE_cons, wpE_lst, wpE_op1, wpE_op2, wpE_and, wpE_or, wpE_ite, wpE_chain, wpE_slc, wpE_rev, wpE_bi, wpE_bm, wpE_call, wpE_meth, wpE_make, wpE_fld, wpE_comp, wpE_rng, wpE_rrng, wpE_enum, wpE_zip, wpE_dict, wpE_frz, asgW_var, asgW_fld, asgW_op2, asgW_nil, asgW_cons, wsS_skip, wsS_seq, wsS_ex, wsS_asg, wsS_ret, wsS_ife, wsS_for, wsS_while, wsS_raise, wsS_try0, wsS_try1, wsS_cont, getE_0, getE_s, putW_0, putW_s, getW_some, WP_ok, WP_err, tupW_tup, blW_t, blW_f, nonW_non, lstW_some, iterW_some, iter_tup, iter_lst, partW_some, part_n, part_v, part_i, part_2, part_b, insW_some, refW_ref, ints2W_int, stoW_some, envW_var, envW_cons, envW_nil, prsW_some, okW_t, fitsT_var, fitsT_fld, fitsT_op2, fitsT_2, fitsT_3, fitsT_6, unp_var, unp_fld, unp_op2, unp_tup, unp_lst, List.map_cons, List.map_nil, List.cons_append, List.nil_append, wipe_nil, wipe_cons, List.set_cons_succ, List.set_cons_zero, isInt_tup, isInt_lst, isInt_int, isInt_str, isInt_bl, isInt_non, isInt_scr, isBool_tup, isBool_lst, isBool_int, isBool_str, isBool_bl, isBool_non, isBool_scr, isStr_tup, isStr_lst, isStr_int, isStr_str, isStr_bl, isStr_non, isStr_scr, isTup_tup, isTup_lst, isTup_int, isTup_str, isTup_bl, isTup_non, isTup_scr, isLst_tup, isLst_lst, isLst_int, isLst_str, isLst_bl, isLst_non, isLst_scr, isTL_tup, isTL_lst, isTL_int, isTL_str, isTL_bl, isTL_non, isTL_scr, isN_tup, notN_tup, isN_lst, notN_lst, isN_int, notN_int, isN_str, notN_str, isN_bl, notN_bl, isN_non, notN_non, isN_scr, notN_scr, isN_ref, notN_ref, not_bl, neg_int, len_tup, List.length_map, len_lst, len_scr, pur_int, pur_str, pur_bl, pur_non, pur_tup, pur_lst, purAll_nil, purAll_cons, op2_idx, op2_add, op2_sub, add_int, add_lst, add_tup, List.length_cons, List.length_nil, Nat.reduceAdd, Nat.zero_add, Nat.add_zero, nc0, nc1, nc2, nc3, nc4, nc5, nc6, nc7, nc8, nc9, Int.reduceLT, Int.reduceEq, Int.reduceMod, Int.reduceAdd, Int.reduceSub, op2_eq, op2_ne, op2_lt, op2_le, op2_gt, op2_ge, op2_in, op2_nin, okB_some, id_eq, decide_true, decide_false, decide_not, String.reduceEq, reduceCtorEq, String.reduceAppend, Option.isNone_none, eq_self, bi_tuple, idx_l0, idx_l1, idx_l2, idx_l3, idx_t0, idx_t1, idx_t2, idx_t3, idx_t4, idx_t5, eqB_str, eqB_int, eqB_is, eqB_si, Bool.and_self, eqB_ts, eqB_st, ext_rfl, ext_app, ext_app2, tup_tup, tup_lst, eqB_non, Bool.false_eq_true, if_false, if_true, Bool.not_true, Bool.not_false, and_true, true_and, implies_true, forall_const, $a,*])
  | `(tactic| simp_all! [$a,*]) => `(tactic| simp -dsimp (disch := first | with_reducible assumption | ((try simp only [List.length_map, List.length_append, List.length_cons, List.length_nil, List.length_replicate, List.length_range, List.length_reverse, LIM]) <;> omega)) only [wpE_var, wpE_k, wpE_nil, wpE_cons, wpE_lst, wpE_op1, wpE_op2, wpE_and, wpE_or, wpE_ite, wpE_chain, wpE_slc, wpE_rev, wpE_bi, wpE_bm, wpE_call, wpE_meth, wpE_make, wpE_fld, wpE_comp, wpE_rng, wpE_rrng, wpE_enum, wpE_zip, wpE_dict, wpE_frz, asgW_var, asgW_fld, asgW_op2, asgW_nil, asgW_cons, wsS_skip, wsS_seq, wsS_ex, wsS_asg, wsS_ret, wsS_ife, wsS_for, wsS_while, wsS_raise, wsS_try0, wsS_try1, wsS_cont, getE_0, getE_s, putW_0, putW_s, getW_some, WP_ok, WP_err, tupW_tup, blW_t, blW_f, nonW_non, lstW_some, iterW_some, iter_tup, iter_lst, partW_some, part_n, part_v, part_i, part_2, part_b, insW_some, refW_ref, ints2W_int, stoW_some, envW_var, envW_cons, envW_nil, prsW_some, okW_t, fitsT_var, fitsT_fld, fitsT_op2, fitsT_2, fitsT_3, fitsT_6, unp_var, unp_fld, unp_op2, unp_tup, unp_lst, List.map_cons, List.map_nil, List.cons_append, List.nil_append, wipe_nil, wipe_cons, List.set_cons_succ, List.set_cons_zero, isInt_tup, isInt_lst, isInt_int, isInt_str, isInt_bl, isInt_non, isInt_scr, isBool_tup, isBool_lst, isBool_int, isBool_str, isBool_bl, isBool_non, isBool_scr, isStr_tup, isStr_lst, isStr_int, isStr_str, isStr_bl, isStr_non, isStr_scr, isTup_tup, isTup_lst, isTup_int, isTup_str, isTup_bl, isTup_non, isTup_scr, isLst_tup, isLst_lst, isLst_int, isLst_str, isLst_bl, isLst_non, isLst_scr, isTL_tup, isTL_lst, isTL_int, isTL_str, isTL_bl, isTL_non, isTL_scr, isN_tup, notN_tup, isN_lst, notN_lst, isN_int, notN_int, isN_str, notN_str, isN_bl, notN_bl, isN_non, notN_non, isN_scr, notN_scr, isN_ref, notN_ref, not_bl, neg_int, len_tup, List.length_map, len_lst, len_scr, pur_int, pur_str, pur_bl, pur_non, pur_tup, pur_lst, purAll_nil, purAll_cons, op2_idx, op2_add, op2_sub, add_int, add_lst, add_tup, List.length_cons, List.length_nil, Nat.reduceAdd, Nat.zero_add, Nat.add_zero, nc0, nc1, nc2, nc3, nc4, nc5, nc6, nc7, nc8, nc9, Int.reduceLT, Int.reduceEq, Int.reduceMod, Int.reduceAdd, Int.reduceSub, op2_eq, op2_ne, op2_lt, op2_le, op2_gt, op2_ge, op2_in, op2_nin, okB_some, id_eq, decide_true, decide_false, decide_not, String.reduceEq, reduceCtorEq, String.reduceAppend, Option.isNone_none, eq_self, bi_tuple, idx_l0, idx_l1, idx_l2, idx_l3, idx_t0, idx_t1, idx_t2, idx_t3, idx_t4, idx_t5, eqB_str, eqB_int, eqB_is, eqB_si, Bool.and_self, eqB_ts, eqB_st, ext_rfl, ext_app, ext_app2, tup_tup, tup_lst, eqB_non, Bool.false_eq_true, if_false, if_true, Bool.not_true, Bool.not_false, and_true, true_and, implies_true, forall_const, $a,*])
inductive At where
  | n | z | e | c (k : Nat) | u (k : Nat)
  deriving DecidableEq
def At.d : At → D
  | .n => .str "n"
  | .z => .str "0"
  | .e => .str "e"
  | .c k => .tup [.str "c", .int k]
  | .u k => .tup [.str "u", .int k]
/-- the rows that make things -/
def newsOf (p : Pg) : List Nat := (List.range p.rows.length).filter fun k => (p.rows.getD k .end_).isNew
/-- a class and all below it -/
def lbelow (cs : List Kl) (i : Nat) : List Nat := (List.range' (i + 1) (cs.length - (i + 1))).foldl (fun acc k => if (match parOf cs k with | some q => acc.contains q | none => false) then acc ++ [k] else acc) [i]
def atoms (p : Pg) : So → List At
  | .num => [.n]
  | .non => [.z]
  | .any => [.n, .z] ++ (List.range p.cls.length).map .c
  | .unset => [.n, .z, .e] ++ (List.range p.cls.length).map .c ++ (newsOf p).map .u
  | .of k => [.z] ++ (lbelow p.cls k).map .c
  | .unb k => [.u k]
def lfits (p : Pg) (x y : So) : Bool := if x = y ∨ y = .unset then true else ((atoms p x).filter fun a => !(atoms p y).contains a).isEmpty
section
variable {G : GD} {U : Up} {n : Nat} {st tl : Store} {s : Rng} {own : Bool} {p : Pg} {cs : List Kl}
theorem at_pur {m : Nat} (a : At) : pur (m + 1) a.d = true := by cases a <;> simp [At.d, pur, purAll]
theorem at_below {m : Nat} (a : At) : below m a.d = true := by cases a <;> simp [At.d, below, belowAll]
theorem at_eqv (a b : At) : eqv a.d b.d = decide (a = b) := by
  cases a <;> cases b <;> simp [At.d, eqv, eqvAll, nat_beq]
theorem mem_at (a : At) (l : List At) : memB G st a.d (.lst (l.map At.d)) = some (l.contains a) := by
  rw [mem_lst (at_pur (m := 59) a) (purAll_map (fun x => at_pur (m := 59) x) l)]
  congr 1
  induction l with
  | nil => rfl
  | cons b l ih =>
    simp only [List.map_cons, List.any_cons, ih, at_eqv, List.contains_cons]
    congr 1
    by_cases h : b = a
    · subst h; simp
    · have : a ≠ b := fun e => h e.symm
      simp [h, this]
theorem rg_any (a m : Nat) : rangeD a m = (List.range' a m).map fun k => D.int (k : Nat) := rangeD_map m a
theorem c_news (hp : p.Ok) : callN G U LIB (n + 1) "_law_news" [p.d] st = .ok (.lst ((newsOf p).map fun k => D.int (k : Nat))) st := by
  refine pure_ok l__law_news rfl (by simp only [below]; exact ints_below _) ?_
  dsimp only [f__law_news, List.map_cons, List.map_nil, List.replicate_succ, List.replicate_zero, List.cons_append, List.nil_append, Nat.reduceSub]
  have h40 := hp.r40
  have r1 := rgok 0 (p.rows.length : Int) (by omega)
  simp! [idx_p4, r1]
  rw [range_map (n := p.rows.length) rfl]
  refine wpure (fun k : Nat => D.int (k : Nat)) (List.range p.rows.length) (fun k => (p.rows.getD k .end_).isNew) (fun k => D.int (k : Nat)) (by rw [List.length_range]; show _ ≤ 16777216; omega) (fun _ => rfl) ?_ (fun _ _ _ => rfl) ?_
  · intro k hk acc
    have hk : k < p.rows.length := by simpa using hk
    have e : p.rows[k]? = some (p.rows.getD k .end_) := by simp [hk]
    simp! [idx_p4, idx_rows e, idx_word, word_new]
  · simp! [newsOf]
theorem ints_any (l : List Nat) (q : Nat) : (l.map fun k => D.int (k : Nat)).any (fun y => eqv y (.int q)) = l.contains q := by
  induction l with
  | nil => rfl
  | cons b l ih =>
    simp only [List.map_cons, List.any_cons, ih, eqv, nat_beq, List.contains_cons]
    congr 1
    by_cases h : b = q
    · subst h; simp
    · have : q ≠ b := fun e => h e.symm
      simp [h, this]
theorem c_below (wc : WC cs) (hl : cs.length ≤ 1000) (i : Nat) (hi : i < cs.length) : callN G U LIB (n + 1) "_law_below" [clsD cs, .int i] st = .ok (.lst ((lbelow cs i).map fun k => D.int (k : Nat))) st := by
  refine pure_ok l__law_below rfl (by simp only [below]; exact ints_below _) ?_
  dsimp only [f__law_below, List.map_cons, List.map_nil, List.replicate_succ, List.replicate_zero, List.cons_append, List.nil_append, Nat.reduceSub]
  have r1 := rgok ((i : Int) + 1) (cs.length : Int) (by omega)
  simp! [give_t, len_cls, r1]
  have er : rangeD ((i : Int) + 1) ((cs.length : Int) - ((i : Int) + 1)).toNat = (List.range' (i + 1) (cs.length - (i + 1))).map fun k => D.int (k : Nat) := by
    have := rg_any (i + 1) (cs.length - (i + 1))
    rw [← this]
    congr 1
    omega
  rw [er]
  refine wforl (fun k : Nat => D.int (k : Nat)) (List.range' (i + 1) (cs.length - (i + 1))) (fun l ρ st' => ∃ (acc : List Nat) (a : Option D), ρ = [some (clsD cs), some (.int i), some (.ref st.length), a] ∧ st' = st ++ [.lst (acc.map fun k => D.int (k : Nat))] ∧ acc.length + l.length ≤ 1001 ∧ l.foldl (fun acc k => if (match parOf cs k with | some q => acc.contains q | none => false) then acc ++ [k] else acc) acc = lbelow cs i) ⟨[i], _, rfl, rfl, by simp; omega, rfl⟩ ?_ ?_
  · rintro k l ρ _ ⟨j, hj⟩ ⟨acc, a, rfl, rfl, hal, he⟩
    have hkm : k ∈ List.range' (i + 1) (cs.length - (i + 1)) := by
      have : k ∈ (List.range' (i + 1) (cs.length - (i + 1))).drop j := by rw [hj]; exact List.mem_cons_self ..
      exact List.mem_of_mem_drop this
    have hk := List.mem_range'_1.mp hkm
    have ec : cs[k]? = some cs[k] := List.getElem?_eq_getElem (by omega)
    have ep : parOf cs k = cs[k].par := by simp [parOf, ec]
    have hal' : acc.length + (l.length + 1) ≤ 1001 := by simpa using hal
    obtain ⟨q, hq⟩ : ∃ q, cs[k].par = some q := by
      cases hq : cs[k].par with
      | some q => exact ⟨q, rfl⟩
      | none =>
        have := wc k cs[k] ec
        rw [hq] at this
        have : k = 0 := this
        omega
    have eat : (st ++ [O.lst (acc.map fun k => D.int (k : Nat))])[st.length]? = some (.lst (acc.map fun k => D.int (k : Nat))) := get_last
    have emem : memB G (st ++ [O.lst (acc.map fun k => D.int (k : Nat))]) (.int (q : Nat)) (.ref st.length) = some (acc.contains q) := by
      simp only [memB, eat]
      rw [if_pos (by simp [pur_int, ints_pur]), ints_any]
    have eapp : ∀ own y, biV G own .append [.ref st.length, y] (st ++ [O.lst (acc.map fun k => D.int (k : Nat))]) = .ok .non (st ++ [O.lst (acc.map (fun k => D.int (k : Nat)) ++ [y])]) := by
      intro own y
      have e2 : ∀ x st, biV G own .append [x, y] st = objL st x fun r ds => if ds.length < LIM then .ok .non (st.set r (.lst (ds ++ [y]))) else .bad := fun _ _ => rfl
      rw [e2]
      simp only [objL, eat, List.length_map]
      rw [if_pos (by show _ < 16777216; omega), set_last]
    have ercv : recv .append (st ++ [O.lst (acc.map fun k => D.int (k : Nat))]) (.ref st.length) = true := by
      simp [recv, lstOf]
    simp only [List.foldl_cons, ep, hq] at he
    cases hb : acc.contains q with
    | true =>
      rw [hb, if_pos rfl] at he
      simp! [idx_cls ec, Kl.d, hq, optD, emem, hb, ercv, eapp]
      exact ⟨acc ++ [k], _, rfl, by simp, by simp; omega, he⟩
    | false =>
      rw [hb, if_neg (by decide)] at he
      simp! [idx_cls ec, Kl.d, hq, optD, emem, hb]
      exact ⟨acc, _, rfl, rfl, by omega, he⟩
  · rintro ρ _ ⟨acc, a, rfl, rfl, _, he⟩
    have he : acc = lbelow cs i := he
    subst he
    have efr : freeze st.length (st ++ [O.lst ((lbelow cs i).map fun k => D.int (k : Nat))]) = .ok (.lst ((lbelow cs i).map fun k => D.int (k : Nat))) (st ++ [.dead]) := by
      simp only [freeze, get_last, set_last]
    simp! [efr]
theorem foldl_len {f : List Nat → Nat → Bool} : ∀ (l acc : List Nat), (l.foldl (fun acc k => if f acc k then acc ++ [k] else acc) acc).length ≤ acc.length + l.length
  | [], acc => by simp
  | k :: l, acc => by
    simp only [List.foldl_cons, List.length_cons]
    have h1 := foldl_len (f := f) l (if f acc k then acc ++ [k] else acc)
    have h2 : (if f acc k then acc ++ [k] else acc).length ≤ acc.length + 1 := by split <;> simp
    omega
theorem lbelow_len (cs : List Kl) (i : Nat) : (lbelow cs i).length ≤ 1 + cs.length := by
  unfold lbelow
  refine Nat.le_trans (foldl_len (f := fun acc k => match parOf cs k with | some q => acc.contains q | none => false) _ _) ?_
  simp
theorem eqB_soL {y : So} {t : String} {z : So} (h : z.d = .str t) : eqB st y.d (.str t) = some (decide (y = z)) := by rw [← h]; exact eq_so y z
theorem c_atoms (hp : p.Ok) (x : So) (hx : x.Ok p) : callN G U LIB (n + 2) "_law_atoms" [p.d, x.d] st = .ok (.lst ((atoms p x).map At.d)) st := by
  refine pure_ok l__law_atoms rfl (by simp only [below]; exact belowAll_map at_below _) ?_
  dsimp only [f__law_atoms, List.map_cons, List.map_nil, List.replicate_succ, List.replicate_zero, List.cons_append, List.nil_append, Nat.reduceSub]
  have h6 := hp.c6
  have r1 := rgok 0 (p.cls.length : Int) (by omega)
  simp! [idx_p0, len_cls, r1]
  rw [range_map (n := p.cls.length) rfl]
  refine wpure (fun k : Nat => D.int (k : Nat)) (List.range p.cls.length) (fun _ => true) (fun k => (At.c k).d) (by rw [List.length_range]; show _ ≤ 16777216; omega) (fun _ => rfl) ?_ (fun _ _ _ => at_below _) ?_
  · intro k hk acc
    simp! [At.d]
  have h40 := hp.r40
  have nl : (newsOf p).length ≤ 40 := Nat.le_trans (List.length_filter_le _ _) (by simp; omega)
  cases x
  case num => simp! [filter_tt, So.d, give_f, atoms, At.d]
  case non => simp! [filter_tt, So.d, give_f, atoms, At.d]
  case any =>
    have q : 2 + p.cls.length ≤ LIM := by show _ ≤ 16777216; omega
    simp! [filter_tt, So.d, give_f, List.length_range, q, atoms, List.map_append, List.map_map]
    rfl
  case unset =>
    have q : 3 + p.cls.length ≤ LIM := by show _ ≤ 16777216; omega
    have q2 : 3 + p.cls.length + (newsOf p).length ≤ LIM := by show _ ≤ 16777216; omega
    simp! [filter_tt, So.d, give_f, List.length_range, q, c_news hp]
    refine wpure (fun k : Nat => D.int (k : Nat)) (newsOf p) (fun _ => true) (fun k => (At.u k).d) (by show _ ≤ 16777216; omega) (fun _ => rfl) ?_ (fun _ _ _ => at_below _) ?_
    · intro k hk acc
      simp! [At.d]
    · simp_all! [filter_tt, List.length_range, atoms, List.map_append, List.map_map]
      rfl
  case of k =>
    have hk : k < p.cls.length := hx
    simp! [filter_tt, So.d, give_f, idx_p0, c_below hp.wc hp.cl k hk]
    have lb := lbelow_len p.cls k
    refine wpure (fun k : Nat => D.int (k : Nat)) (lbelow p.cls k) (fun _ => true) (fun k => (At.c k).d) (by show _ ≤ 16777216; omega) (fun _ => rfl) ?_ (fun _ _ _ => at_below _) ?_
    · intro k hk acc
      simp! [At.d]
    · simp_all! [filter_tt, atoms, List.map_append, List.map_map]
      rfl
  case unb k => simp! [filter_tt, So.d, give_f, atoms, At.d]
end
end MP

set_option linter.all false
set_option maxRecDepth 100000
set_option maxHeartbeats 4000000
/-! The law's own sorts, stands drawn and raised. -/
namespace MG
theorem enumD_zip {α : Type} {f : α → D} : ∀ (l : List α) (k : Nat), enumD k (l.map f) = (l.zipIdx k).map fun q => D.tup [.int (q.2 : Nat), f q.1]
  | [], k => rfl
  | x :: l, k => by
    simp only [List.map_cons, enumD, List.zipIdx_cons]
    have := enumD_zip (f := f) l (k + 1)
    rw [← this]
    rfl
theorem enumD_zip0 {α : Type} {f : α → D} (l : List α) : enumD 0 (l.map f) = l.zipIdx.map fun q => D.tup [.int (q.2 : Nat), f q.1] := enumD_zip l 0
theorem lstOf_l {st : Store} {l : List D} : lstOf st (.lst l) = some l := id rfl
theorem sorted_b {G : GD} {st : Store} {ds es : List D} (h : sortV ds = some es) : biV G false .sorted [.lst ds] st = .ok (.lst es) st := by
  have e : ∀ x, biV G false .sorted [x] st = onL st x fun ds => match sortV ds with
    | some es => give false es st
    | none => .bad := fun _ => rfl
  rw [e]
  simp only [onL, lstOf_l, h, give_f]
end MG
namespace MP
open MG
local macro_rules
  | `(tactic| simp! [$a,*]) => `(tactic| simp -dsimp only [wpE_var, wpE_k, wpE_nil, wpE_cons, wpE_lst, wpE_op1, wpE_op2, wpE_and, wpE_or, wpE_ite, wpE_chain, wpE_slc, wpE_rev, wpE_bi, wpE_bm, wpE_call, wpE_meth, wpE_make, wpE_fld, wpE_comp, wpE_rng, wpE_rrng, wpE_enum, wpE_zip, wpE_dict, wpE_frz, asgW_var, asgW_fld, asgW_op2, asgW_nil, asgW_cons, wsS_skip, wsS_seq, wsS_ex, wsS_asg, wsS_ret, wsS_ife, wsS_for, wsS_while, wsS_raise, wsS_try0, wsS_try1, wsS_cont, getE_0, getE_s, putW_0, putW_s, getW_some, WP_ok, WP_err, tupW_tup, blW_t, blW_f, nonW_non, lstW_some, iterW_some, iter_tup, iter_lst, partW_some, part_n, part_v, part_i, part_2, part_b, insW_some, refW_ref, ints2W_int, stoW_some, envW_var, envW_cons, envW_nil, prsW_some, okW_t, fitsT_var, fitsT_fld, fitsT_op2, fitsT_2, fitsT_3, fitsT_6, unp_var, unp_fld, unp_op2, unp_tup, unp_lst, List.map_cons, List.map_nil, List.cons_append, List.nil_append, wipe_nil, wipe_cons, List.set_cons_succ, List.set_cons_zero, isInt_tup, isInt_lst, isInt_int, isInt_str, isInt_bl, isInt_non, isInt_scr, isBool_tup, isBool_lst, isBool_int, isBool_str, isBool_bl, isBool_non, isBool_scr, isStr_tup, isStr_lst, isStr_int, isStr_str, isStr_bl, isStr_non, isStr_scr, isTup_tup, isTup_lst, isTup_int, isTup_str, isTup_bl, isTup_non, isTup_scr, isLst_tup, isLst_lst, isLst_int, isLst_str, isLst_bl, isLst_non, isLst_scr, isTL_tup, isTL_lst, isTL_int, isTL_str, isTL_bl, isTL_non, isTL_scr, isN_tup, notN_tup, isN_lst, notN_lst, isN_int, notN_int, isN_str, notN_str, isN_bl, notN_bl, isN_non, notN_non, isN_scr, notN_scr, isN_ref, notN_ref, not_bl, neg_int, len_tup, List.length_map, len_lst, len_scr, pur_int, pur_str, pur_bl, pur_non, pur_tup, pur_lst, purAll_nil, purAll_cons, op2_idx, op2_add, op2_sub, add_int, add_lst, add_tup, List.length_cons, List.length_nil, Nat.reduceAdd, Nat.zero_add, Nat.add_zero, nc0, nc1, nc2, nc3, nc4, nc5, nc6, nc7, nc8, nc9, Int.reduceLT, Int.reduceEq, Int.reduceMod, Int.reduceAdd, Int.reduceSub, op2_eq, op2_ne, op2_lt, op2_le, op2_gt, op2_ge, op2_in, op2_nin, okB_some, id_eq, decide_true, decide_false, decide_not, String.reduceEq, reduceCtorEq, String.reduceAppend, Option.isNone_none, eq_self, bi_tuple, idx_l0, idx_l1, idx_l2, idx_l3, idx_t0, idx_t1, idx_t2, idx_t3, idx_t4, idx_t5, eqB_str, eqB_int, eqB_is, eqB_si, Bool.and_self, eqB_ts, eqB_st, ext_rfl, ext_app, ext_app2, tup_tup, tup_lst, eqB_non, Bool.false_eq_true, if_false, if_true, Bool.not_true, Bool.not_false, and_true, true_and, implies_true, forall_const, $a,*])
  | `(tactic| simp_all! [$a,*]) => `(tactic| simp -dsimp (disch := first | with_reducible assumption | ((try simp only [List.length_map, List.length_append, List.length_cons, List.length_nil, List.length_replicate, List.length_range, List.length_reverse, LIM]) <;> omega)) only [wpE_var, wpE_k, wpE_nil, wpE_cons, wpE_lst, wpE_op1, wpE_op2, wpE_and, wpE_or, wpE_ite, wpE_chain, wpE_slc, wpE_rev, wpE_bi, wpE_bm, wpE_call, wpE_meth, wpE_make, wpE_fld, wpE_comp, wpE_rng, wpE_rrng, wpE_enum, wpE_zip, wpE_dict, wpE_frz, asgW_var, asgW_fld, asgW_op2, asgW_nil, asgW_cons, wsS_skip, wsS_seq, wsS_ex, wsS_asg, wsS_ret, wsS_ife, wsS_for, wsS_while, wsS_raise, wsS_try0, wsS_try1, wsS_cont, getE_0, getE_s, putW_0, putW_s, getW_some, WP_ok, WP_err, tupW_tup, blW_t, blW_f, nonW_non, lstW_some, iterW_some, iter_tup, iter_lst, partW_some, part_n, part_v, part_i, part_2, part_b, insW_some, refW_ref, ints2W_int, stoW_some, envW_var, envW_cons, envW_nil, prsW_some, okW_t, fitsT_var, fitsT_fld, fitsT_op2, fitsT_2, fitsT_3, fitsT_6, unp_var, unp_fld, unp_op2, unp_tup, unp_lst, List.map_cons, List.map_nil, List.cons_append, List.nil_append, wipe_nil, wipe_cons, List.set_cons_succ, List.set_cons_zero, isInt_tup, isInt_lst, isInt_int, isInt_str, isInt_bl, isInt_non, isInt_scr, isBool_tup, isBool_lst, isBool_int, isBool_str, isBool_bl, isBool_non, isBool_scr, isStr_tup, isStr_lst, isStr_int, isStr_str, isStr_bl, isStr_non, isStr_scr, isTup_tup, isTup_lst, isTup_int, isTup_str, isTup_bl, isTup_non, isTup_scr, isLst_tup, isLst_lst, isLst_int, isLst_str, isLst_bl, isLst_non, isLst_scr, isTL_tup, isTL_lst, isTL_int, isTL_str, isTL_bl, isTL_non, isTL_scr, isN_tup, notN_tup, isN_lst, notN_lst, isN_int, notN_int, isN_str, notN_str, isN_bl, notN_bl, isN_non, notN_non, isN_scr, notN_scr, isN_ref, notN_ref, not_bl, neg_int, len_tup, List.length_map, len_lst, len_scr, pur_int, pur_str, pur_bl, pur_non, pur_tup, pur_lst, purAll_nil, purAll_cons, op2_idx, op2_add, op2_sub, add_int, add_lst, add_tup, List.length_cons, List.length_nil, Nat.reduceAdd, Nat.zero_add, Nat.add_zero, nc0, nc1, nc2, nc3, nc4, nc5, nc6, nc7, nc8, nc9, Int.reduceLT, Int.reduceEq, Int.reduceMod, Int.reduceAdd, Int.reduceSub, op2_eq, op2_ne, op2_lt, op2_le, op2_gt, op2_ge, op2_in, op2_nin, okB_some, id_eq, decide_true, decide_false, decide_not, String.reduceEq, reduceCtorEq, String.reduceAppend, Option.isNone_none, eq_self, bi_tuple, idx_l0, idx_l1, idx_l2, idx_l3, idx_t0, idx_t1, idx_t2, idx_t3, idx_t4, idx_t5, eqB_str, eqB_int, eqB_is, eqB_si, Bool.and_self, eqB_ts, eqB_st, ext_rfl, ext_app, ext_app2, tup_tup, tup_lst, eqB_non, Bool.false_eq_true, if_false, if_true, Bool.not_true, Bool.not_false, and_true, true_and, implies_true, forall_const, $a,*])
abbrev Tr := Nat × Nat × So
def Tr.d (t : Tr) : D := .tup [.int t.1, .int t.2.1, t.2.2.d]
def tle (a b : Tr) : Bool := decide (a.1 < b.1 ∨ a.1 = b.1 ∧ a.2.1 ≤ b.2.1)
def tins (x : Tr) : List Tr → List Tr
  | [] => [x]
  | y :: r => if tle x y then x :: y :: r else y :: tins x r
def tsort : List Tr → List Tr
  | [] => []
  | x :: r => tins x (tsort r)
theorem le2_tr (a b : Tr) : le2 (Tr.d a) (Tr.d b) = tle a b := by
  simp only [le2, Tr.d, key2, tle]
  congr 1
  apply propext
  constructor <;> intro h <;> omega
theorem tins_map (x : Tr) : ∀ l : List Tr, insSort le2 (Tr.d x) (l.map Tr.d) = (tins x l).map Tr.d
  | [] => rfl
  | y :: r => by
    simp only [List.map_cons, insSort, tins, le2_tr]
    cases tle x y
    · simp [tins_map x r]
    · simp
theorem tsort_map : ∀ l : List Tr, sortBy le2 (l.map Tr.d) = (tsort l).map Tr.d
  | [] => rfl
  | x :: r => by simp only [List.map_cons, sortBy, tsort, tsort_map r, tins_map]
theorem mem_tins {x y : Tr} : ∀ {l : List Tr}, y ∈ tins x l ↔ y = x ∨ y ∈ l
  | [] => by simp [tins]
  | z :: r => by
    simp only [tins]
    split
    · simp
    · simp only [List.mem_cons, mem_tins (l := r)]
      constructor
      · rintro (h | h | h)
        · exact .inr (.inl h)
        · exact .inl h
        · exact .inr (.inr h)
      · rintro (h | h | h)
        · exact .inr (.inl h)
        · exact .inl h
        · exact .inr (.inr h)
theorem mem_tsort {y : Tr} : ∀ {l : List Tr}, y ∈ tsort l ↔ y ∈ l
  | [] => by simp [tsort]
  | x :: r => by simp only [tsort, mem_tins, mem_tsort (l := r), List.mem_cons]
theorem len_tins {x : Tr} : ∀ {l : List Tr}, (tins x l).length = l.length + 1
  | [] => rfl
  | z :: r => by
    simp only [tins]
    split
    · rfl
    · simp [len_tins (l := r)]
theorem len_tsort : ∀ {l : List Tr}, (tsort l).length = l.length
  | [] => rfl
  | x :: r => by simp [tsort, len_tins, len_tsort (l := r)]
theorem sortV_tr {l : List Tr} (hne : l ≠ []) (hnd : (l.map fun t => t.2.1).Nodup) : sortV (l.map Tr.d) = some ((tsort l).map Tr.d) := by
  have h1 : (l.map Tr.d).all isInt = false := by
    cases l with
    | nil => exact absurd rfl hne
    | cons x r => rfl
  have h2 : ((l.map Tr.d).all fun d => (key2 d).isSome) = true := by
    simp [List.all_map, Tr.d, key2]
  have h3 : ((l.map Tr.d).map key2).Nodup := by
    rw [List.map_map]
    have : (key2 ∘ Tr.d) = fun t : Tr => some ((t.1 : Int), (t.2.1 : Int)) := by funext t; rfl
    rw [this]
    clear h1 h2 hne
    induction l with
    | nil => exact List.nodup_nil
    | cons x r ih =>
      simp only [List.map_cons, List.nodup_cons] at hnd ⊢
      refine ⟨fun hm => hnd.1 ?_, ih hnd.2⟩
      obtain ⟨t, ht, e⟩ := List.mem_map.mp hm
      refine List.mem_map.mpr ⟨t, ht, ?_⟩
      injection e with e
      injection e with _ e
      omega
  unfold sortV
  rw [h1, if_neg (by decide), h2, decide_eq_true h3, if_pos (by rfl), tsort_map]
/-- all sorts of a program -/
def sortL (p : Pg) : List So := [.num, .non] ++ (newsOf p).map .unb ++ ((List.range p.cls.length).map So.of).reverse ++ [.any, .unset]
def triples (p : Pg) : List Tr := (sortL p).zipIdx.map fun q => ((atoms p q.1).length, q.2, q.1)
def lsorts (p : Pg) : List So := (tsort (triples p)).map fun t => t.2.2
section
variable {G : GD} {U : Up} {n : Nat} {st tl : Store} {s : Rng} {own : Bool} {p : Pg} {cs : List Kl}
theorem news_ok {k : Nat} (h : k ∈ newsOf p) : (So.unb k).Ok p := by
  obtain ⟨h1, h2⟩ := List.mem_filter.mp h
  have h1 : k < p.rows.length := by simpa using h1
  exact ⟨p.rows.getD k .end_, by simp [h1], h2⟩
theorem sortL_ok {x : So} (h : x ∈ sortL p) : x.Ok p := by
  simp only [sortL, List.mem_append, List.mem_cons, List.not_mem_nil, or_false, List.mem_map, List.mem_reverse, List.mem_range] at h
  rcases h with (((rfl | rfl) | ⟨k, hk, rfl⟩) | ⟨k, hk, rfl⟩) | (rfl | rfl)
  · trivial
  · trivial
  · exact news_ok hk
  · exact hk
  · trivial
  · trivial
theorem sortL_len (hp : p.Ok) : (sortL p).length ≤ 50 := by
  have h1 := hp.c6
  have h2 : (newsOf p).length ≤ p.rows.length := Nat.le_trans (List.length_filter_le _ _) (by simp)
  have h3 := hp.r40
  simp [sortL]
  omega
theorem lsorts_ok {x : So} (h : x ∈ lsorts p) : x.Ok p := by
  obtain ⟨t, ht, rfl⟩ := List.mem_map.mp h
  rw [mem_tsort] at ht
  obtain ⟨q, hq, rfl⟩ := List.mem_map.mp ht
  exact sortL_ok (List.fst_mem_of_mem_zipIdx hq)
theorem lsorts_len (hp : p.Ok) : (lsorts p).length ≤ 50 := by
  simp only [lsorts, List.length_map, len_tsort, triples, List.length_zipIdx]
  exact sortL_len hp
theorem c_lfits (hp : p.Ok) (x y : So) (hx : x.Ok p) (hy : y.Ok p) : callN G U LIB (n + 3) "_law_fits" [p.d, x.d, y.d] st = .ok (.bl (lfits p x y)) st := by
  refine pure_ok l__law_fits rfl rfl ?_
  dsimp only [f__law_fits, List.map_cons, List.map_nil, List.replicate_succ, List.replicate_zero, List.cons_append, List.nil_append, Nat.reduceSub]
  have e1 : eqB st x.d y.d = some (decide (x = y)) := eq_so x y
  have e2 : eqB st y.d (.str "unset") = some (decide (y = .unset)) := eq_so y .unset
  unfold lfits
  by_cases h1 : x = y
  · rw [if_pos (.inl h1)]
    rw [decide_eq_true h1] at e1
    simp! [e1]
  · rw [decide_eq_false h1] at e1
    by_cases h2 : y = .unset
    · rw [if_pos (.inr h2)]
      rw [decide_eq_true h2] at e2
      simp! [e1, e2]
    · rw [if_neg (by rintro (h | h); exact h1 h; exact h2 h)]
      rw [decide_eq_false h2] at e2
      simp! [e1, e2, c_atoms hp y hy, c_atoms hp x hx]
      have al : (atoms p x).length ≤ 100 := by
        have h1 := hp.c6
        have h2 : (newsOf p).length ≤ p.rows.length := Nat.le_trans (List.length_filter_le _ _) (by simp)
        have h3 := hp.r40
        cases x <;> simp [atoms] <;> first | omega | skip
        have := lbelow_len p.cls ‹Nat›
        omega
      refine wpure At.d (atoms p x) (fun a => !(atoms p y).contains a) At.d (by show _ ≤ 16777216; omega) (fun _ => rfl) ?_ (fun _ _ _ => at_below _) ?_
      · intro a ha acc
        simp! [mem_at]
      · simp! [give_f, eqB_lnil (purAll_map (fun x => at_pur (m := 58) x) _), map_isEmpty]
theorem c_sorts (hp : p.Ok) : callN G U LIB (n + 3) "_law_sorts" [p.d] st = .ok (.lst ((lsorts p).map So.d)) st := by
  refine pure_ok l__law_sorts rfl (by simp only [below]; exact belowAll_map below_so _) ?_
  dsimp only [f__law_sorts, List.map_cons, List.map_nil, List.replicate_succ, List.replicate_zero, List.cons_append, List.nil_append, Nat.reduceSub]
  have h6 := hp.c6
  have h40 := hp.r40
  have nl : (newsOf p).length ≤ 40 := Nat.le_trans (List.length_filter_le _ _) (by simp; omega)
  have r1 := rgok 0 (p.cls.length : Int) (by omega)
  simp! [give_f, c_news hp]
  refine wpure (fun k : Nat => D.int (k : Nat)) (newsOf p) (fun _ => true) (fun k => (So.unb k).d) (by show _ ≤ 16777216; omega) (fun _ => rfl) ?_ (fun _ _ _ => below_so _) ?_
  · intro k hk acc
    simp! [So.d]
  simp_all! [filter_tt, idx_p0, len_cls, r1]
  rw [range_map (n := p.cls.length) rfl]
  refine wpure (fun k : Nat => D.int (k : Nat)) (List.range p.cls.length) (fun _ => true) (fun k => (So.of k).d) (by rw [List.length_range]; show _ ≤ 16777216; omega) (fun _ => rfl) ?_ (fun _ _ _ => below_so _) ?_
  · intro k hk acc
    simp! [So.d]
  have el : D.str "n" :: D.str "none" :: ((newsOf p).map fun k => (So.unb k).d) ++ ((List.range p.cls.length).map fun k => (So.of k).d).reverse ++ [D.str "any", D.str "unset"] = (sortL p).map So.d := by
    simp [sortL, So.d, Function.comp_def, List.map_reverse]
  have el2 : D.str "n" :: D.str "none" :: (((newsOf p).map fun k => (So.unb k).d) ++ ((List.range p.cls.length).map fun k => (So.of k).d).reverse ++ [D.str "any", D.str "unset"]) = (sortL p).map So.d := el
  simp_all! [filter_tt, lstOf_l, give_f, List.length_reverse]
  rw [el2, enumD_zip0]
  refine wpure (fun q : So × Nat => D.tup [.int (q.2 : Nat), q.1.d]) (sortL p).zipIdx (fun _ => true) (fun q => Tr.d ((atoms p q.1).length, q.2, q.1)) (by rw [List.length_zipIdx]; have := sortL_len hp; show _ ≤ 16777216; omega) (fun _ => rfl) ?_ (fun q _ _ => by simp [Tr.d, below, belowAll, below_so]) ?_
  · rintro ⟨x, k⟩ hq acc
    have hx := sortL_ok (p := p) (List.fst_mem_of_mem_zipIdx hq)
    simp! [c_atoms hp x hx, Tr.d]
  have et : (sortL p).zipIdx.map (fun q => Tr.d ((atoms p q.1).length, q.2, q.1)) = (triples p).map Tr.d := by simp [triples, Function.comp_def]
  have es : sortV ((triples p).map Tr.d) = some ((tsort (triples p)).map Tr.d) := by
    refine sortV_tr ?_ ?_
    · simp [triples, sortL]
    · simp only [triples, List.map_map, Function.comp_def]
      have : (sortL p).zipIdx.map (fun q => q.2) = List.range' 0 (sortL p).length := by
        rw [← List.zipIdx_map_snd]
      rw [this]
      exact List.nodup_range'
  simp! [filter_tt, et, sorted_b es]
  have tl : (tsort (triples p)).length ≤ 50 := by
    have := lsorts_len hp
    simpa [lsorts] using this
  refine wpure Tr.d (tsort (triples p)) (fun _ => true) (fun t => t.2.2.d) (by show _ ≤ 16777216; omega) (fun _ => rfl) ?_ (fun _ _ _ => below_so _) ?_
  · intro t ht acc
    simp! [Tr.d]
  · simp! [filter_tt, lsorts, List.map_map]
    rfl
/-! ### stands drawn -/
def drawL (p : Pg) : List So := [.num, .non, .any, .unset] ++ (List.range p.cls.length).map So.of ++ (newsOf p).map .unb
theorem drawL_ok {x : So} (h : x ∈ drawL p) : x.Ok p := by
  simp only [drawL, List.mem_append, List.mem_cons, List.not_mem_nil, or_false, List.mem_map, List.mem_range] at h
  rcases h with ((rfl | rfl | rfl | rfl) | ⟨k, hk, rfl⟩) | ⟨k, hk, rfl⟩
  · trivial
  · trivial
  · trivial
  · trivial
  · exact hk
  · exact news_ok hk
theorem g_any_stand (hp : p.Ok) : WP (callN G U LIB (n + 2) "_law_any_stand" [.ref 0, p.d] (rowO s :: tl)) (fun v st' => ∃ (a : Stn) (s' : Rng), v = a.d ∧ st' = rowO s' :: tl ∧ a.OK p) fun _ _ => False := by
  refine wp_call l__law_any_stand rfl ?_
  dsimp only [f__law_any_stand, List.map_cons, List.map_nil, List.replicate_succ, List.replicate_zero, List.cons_append, List.nil_append, Nat.reduceSub]
  have h6 := hp.c6
  have h40 := hp.r40
  have nl : (newsOf p).length ≤ 40 := Nat.le_trans (List.length_filter_le _ _) (by simp; omega)
  have r1 := rgok 0 (p.cls.length : Int) (by omega)
  have r2 := rgok 0 (p.rows.length : Int) (by omega)
  have r3 := rgok 0 (p.nb : Int) (by have := hp.nb; omega)
  have dl : (drawL p).length = 4 + p.cls.length + (newsOf p).length := by simp [drawL]; omega
  simp! [give_f, idx_p0, len_cls, r1]
  rw [range_map (n := p.cls.length) rfl]
  refine wpure (fun k : Nat => D.int (k : Nat)) (List.range p.cls.length) (fun _ => true) (fun k => (So.of k).d) (by rw [List.length_range]; show _ ≤ 16777216; omega) (fun _ => rfl) ?_ (fun _ _ _ => below_so _) ?_
  · intro k hk acc
    simp! [So.d]
  simp_all! [filter_tt, idx_p4, r2]
  rw [range_map (n := p.rows.length) rfl]
  refine wpure (fun k : Nat => D.int (k : Nat)) (List.range p.rows.length) (fun k => (p.rows.getD k .end_).isNew) (fun k => (So.unb k).d) (by rw [List.length_range]; show _ ≤ 16777216; omega) (fun _ => rfl) ?_ (fun _ _ _ => below_so _) ?_
  · intro k hk acc
    have hk : k < p.rows.length := by simpa using hk
    have e : p.rows[k]? = some (p.rows.getD k .end_) := by simp [hk]
    simp! [idx_p4, idx_rows e, idx_word, word_new, So.d]
  have el : D.str "n" :: D.str "none" :: D.str "any" :: D.str "unset" :: (((List.range p.cls.length).map fun k => (So.of k).d) ++ (((List.range p.rows.length).filter fun k => (p.rows.getD k .end_).isNew).map fun k => (So.unb k).d)) = (drawL p).map So.d := by
    simp [drawL, newsOf, So.d, Function.comp_def]
  have nl2 : ((List.range p.rows.length).filter fun k => (p.rows.getD k .end_).isNew).length ≤ 40 := nl
  have d0 : (0 : Int) < (drawL p).length := by omega
  have d1 : ((drawL p).length : Int) < 1073741824 := by omega
  have pick : ∀ (s : Rng) (st : Store), ∃ x : So, idxV G st (.lst ((drawL p).map So.d)) (.int (dk s (drawL p).length)) = some x.d ∧ x.Ok p := by
    intro s st
    have t := dk_lt s d0
    have hi : dk s (drawL p).length < (drawL p).length := by omega
    refine ⟨(drawL p)[dk s (drawL p).length], ?_, drawL_ok (List.getElem_mem hi)⟩
    rw [idx_ln, List.getElem?_map, List.getElem?_eq_getElem hi]
    rfl
  simp_all! [el, idx_p2, r3]
  refine wdraw_each So.d (fun x => x.Ok p) (by rw [rg_len]; have := hp.nb; show _ ≤ 16777216; omega) (fun x => below_so x) ?_ ?_
  · intro j x acc s2 _
    obtain ⟨x, hx1, hx2⟩ := pick s2 (rowO (dn s2 (drawL p).length) :: (tl ++ [.lst acc]))
    simp! [c_taken, d0, d1, hx1]
    exact ⟨x, _, rfl, hx2, rfl⟩
  intro bx s2 hbl hbx
  rw [rg_len] at hbl
  have t3 := dk_lt s2 (m := 3) (by decide)
  obtain ⟨e, he, q, rfl, hq0, hq9⟩ := idx_ex (G := G) (st := rowO (dn s2 3) :: tl) (l := [.int 1, .int 3, .int ((p.room : Int) + 1)]) (i := dk s2 3) (fun e => ∃ q : Int, e = .int q ∧ 0 < q ∧ q ≤ 9) (by simp; omega) (by
    intro e he
    simp at he
    rcases he with rfl | rfl | rfl
    · exact ⟨1, rfl, by decide, by decide⟩
    · exact ⟨3, rfl, by decide, by decide⟩
    · exact ⟨_, rfl, by omega, by have := hp.room; omega⟩)
  have hq1 : q < 1073741824 := by omega
  have tq := dk_lt (dn s2 3) hq0
  obtain ⟨hm, ehm, hm8⟩ : ∃ hm : Nat, (if (p.room : Int) < (dk (dn s2 3) q : Int) then (p.room : Int) else (dk (dn s2 3) q : Int)) = (hm : Int) ∧ hm ≤ p.room := by
    refine ⟨min p.room (dk (dn s2 3) q), ?_, by omega⟩
    split <;> omega
  have r4 := rgok 0 (hm : Int) (by have := hp.room; omega)
  simp! [idx_p3, give_f, c_taken, he, hq0, hq1, min_i, ehm, r4]
  refine wdraw_each So.d (fun x => x.Ok p) (by rw [rg_len]; have := hp.room; show _ ≤ 16777216; omega) (fun x => below_so x) ?_ ?_
  · intro j x acc s3 _
    obtain ⟨x, hx1, hx2⟩ := pick s3 (rowO (dn s3 (drawL p).length) :: (tl ++ [.lst acc]))
    simp! [c_taken, d0, d1, hx1]
    exact ⟨x, _, rfl, hx2, rfl⟩
  intro pl s3 hpl hpx
  rw [rg_len] at hpl
  simp! []
  rw [cut_row0]
  refine ⟨⟨bx, pl⟩, s3, rfl, rfl, hbl, by show pl.length ≤ p.room; omega, ?_⟩
  intro x hx
  rcases List.mem_append.mp hx with hx | hx
  · exact hbx x hx
  · exact hpx x hx
end
end MP

set_option linter.all false
set_option maxRecDepth 100000
set_option maxHeartbeats 4000000
/-! Stands raised. -/
namespace MP
open MG
local macro_rules
  | `(tactic| simp! [$a,*]) => `(tactic| simp -dsimp only [wpE_var, wpE_k, wpE_nil, wpE_cons, wpE_lst, wpE_op1, wpE_op2, wpE_and, wpE_or, wpE_ite, wpE_chain, wpE_slc, wpE_rev, wpE_bi, wpE_bm, wpE_call, wpE_meth, wpE_make, wpE_fld, wpE_comp, wpE_rng, wpE_rrng, wpE_enum, wpE_zip, wpE_dict, wpE_frz, asgW_var, asgW_fld, asgW_op2, asgW_nil, asgW_cons, wsS_skip, wsS_seq, wsS_ex, wsS_asg, wsS_ret, wsS_ife, wsS_for, wsS_while, wsS_raise, wsS_try0, wsS_try1, wsS_cont, getE_0, getE_s, putW_0, putW_s, getW_some, WP_ok, WP_err, tupW_tup, blW_t, blW_f, nonW_non, lstW_some, iterW_some, iter_tup, iter_lst, partW_some, part_n, part_v, part_i, part_2, part_b, insW_some, refW_ref, ints2W_int, stoW_some, envW_var, envW_cons, envW_nil, prsW_some, okW_t, fitsT_var, fitsT_fld, fitsT_op2, fitsT_2, fitsT_3, fitsT_6, unp_var, unp_fld, unp_op2, unp_tup, unp_lst, List.map_cons, List.map_nil, List.cons_append, List.nil_append, wipe_nil, wipe_cons, List.set_cons_succ, List.set_cons_zero, isInt_tup, isInt_lst, isInt_int, isInt_str, isInt_bl, isInt_non, isInt_scr, isBool_tup, isBool_lst, isBool_int, isBool_str, isBool_bl, isBool_non, isBool_scr, isStr_tup, isStr_lst, isStr_int, isStr_str, isStr_bl, isStr_non, isStr_scr, isTup_tup, isTup_lst, isTup_int, isTup_str, isTup_bl, isTup_non, isTup_scr, isLst_tup, isLst_lst, isLst_int, isLst_str, isLst_bl, isLst_non, isLst_scr, isTL_tup, isTL_lst, isTL_int, isTL_str, isTL_bl, isTL_non, isTL_scr, isN_tup, notN_tup, isN_lst, notN_lst, isN_int, notN_int, isN_str, notN_str, isN_bl, notN_bl, isN_non, notN_non, isN_scr, notN_scr, isN_ref, notN_ref, not_bl, neg_int, len_tup, List.length_map, len_lst, len_scr, pur_int, pur_str, pur_bl, pur_non, pur_tup, pur_lst, purAll_nil, purAll_cons, op2_idx, op2_add, op2_sub, add_int, add_lst, add_tup, List.length_cons, List.length_nil, Nat.reduceAdd, Nat.zero_add, Nat.add_zero, nc0, nc1, nc2, nc3, nc4, nc5, nc6, nc7, nc8, nc9, Int.reduceLT, Int.reduceEq, Int.reduceMod, Int.reduceAdd, Int.reduceSub, op2_eq, op2_ne, op2_lt, op2_le, op2_gt, op2_ge, op2_in, op2_nin, okB_some, id_eq, decide_true, decide_false, decide_not, String.reduceEq, reduceCtorEq, String.reduceAppend, Option.isNone_none, eq_self, bi_tuple, idx_l0, idx_l1, idx_l2, idx_l3, idx_t0, idx_t1, idx_t2, idx_t3, idx_t4, idx_t5, eqB_str, eqB_int, eqB_is, eqB_si, Bool.and_self, eqB_ts, eqB_st, ext_rfl, ext_app, ext_app2, tup_tup, tup_lst, eqB_non, Bool.false_eq_true, if_false, if_true, Bool.not_true, Bool.not_false, and_true, true_and, implies_true, forall_const, $a,*])
section
variable {G : GD} {U : Up} {n : Nat} {st tl : Store} {s : Rng} {own : Bool} {p : Pg} {cs : List Kl}
theorem cut_to {ds : List D} {k : Nat} : cut ds none (some (k : Int)) = ds.take k := by
  simp only [cut, cutAt, List.drop_zero]
  rw [if_neg (by omega)]
  simp
theorem cut_from {ds : List D} {k : Nat} (h : k ≤ ds.length) : cut ds (some (k : Int)) none = ds.drop k := by
  simp only [cut, cutAt]
  rw [if_neg (by omega)]
  simp
  rw [Nat.min_eq_left h]
  exact List.take_of_length_le (by simp)
theorem slc_to {ds : List D} {k : Nat} : slV own (.tup ds) none (some (k : Int)) st = .ok (.tup (ds.take k)) st := by
  simp only [slV, cut_to]
theorem slc_from {ds : List D} {k : Nat} (h : k ≤ ds.length) : slV own (.tup ds) (some (k : Int)) none st = .ok (.tup (ds.drop k)) st := by
  simp only [slV, cut_from h]
theorem g_raised (hp : p.Ok) (a : Stn) (ha : a.OK p) : WP (callN G U LIB (n + 4) "_law_raised" [.ref 0, p.d, a.d] (rowO s :: tl)) (fun v st' => ∃ (b : Stn) (s' : Rng), v = b.d ∧ st' = rowO s' :: tl ∧ b.OK p) fun _ _ => False := by
  refine wp_call l__law_raised rfl ?_
  dsimp only [f__law_raised, List.map_cons, List.map_nil, List.replicate_succ, List.replicate_zero, List.cons_append, List.nil_append, Nat.reduceSub]
  have hao := ha.Ok hp
  have hlb := ha.lb
  have hlp := ha.lp
  have h6 := hp.nb
  have h8 := hp.room
  refine let_eq (a.b ++ a.p) fun l el => ?_
  have eml : a.b.map So.d ++ a.p.map So.d = l.map So.d := by rw [el, List.map_append]
  have hll : l.length = p.nb + a.p.length := by rw [el, List.length_append, hlb]
  have hlo : ∀ x ∈ l, x.Ok p := by rw [el]; exact ha.ok
  have pl : purAll 59 (l.map So.d) = true := purAll_map (fun x => pur_so x) _
  by_cases hl0 : l = []
  · have e0 : (l.map So.d).isEmpty = true := by rw [hl0]; rfl
    simp! [Stn.d, add_tup hao.add, eml, eqB_tnil pl, e0]
    rw [cut_row0]
    exact ⟨a, s, rfl, rfl, ha⟩
  have e0 : (l.map So.d).isEmpty = false := by
    cases l with
    | nil => exact absurd rfl hl0
    | cons _ _ => rfl
  have z0 : (0 : Int) < l.length := by
    have := List.length_pos_iff.mpr hl0
    omega
  have z1 : (l.length : Int) < 1073741824 := by omega
  have ta := dk_lt s z0
  refine let_eq (dk s l.length) fun k ek => ?_
  rw [← ek] at ta
  obtain ⟨x, hx⟩ : ∃ x, l[k]? = some x := ⟨_, List.getElem?_eq_getElem (by omega)⟩
  have hxo := hlo x (List.mem_of_getElem? hx)
  have hix : ∀ st, idxV G st (.tup (l.map So.d)) (.int k) = some x.d := by
    intro st
    rw [idx_tn, List.getElem?_map, hx]
    rfl
  simp! [Stn.d, add_tup hao.add, eml, eqB_tnil pl, e0, c_taken, z0, z1, ← ek, c_sorts hp]
  refine wdraw (fun i acc => ∃ xs : List So, acc = xs.map So.d ∧ xs.length ≤ i ∧ ∀ x ∈ xs, x.Ok p) ⟨[], rfl, by simp, fun _ h => by cases h⟩ (by rw [List.length_map]; have := lsorts_len hp; show _ ≤ 16777216; omega) ?_ ?_
  · rintro i d acc s2 hd ⟨xs, rfl, hxl, hxs⟩
    rw [List.getElem?_map] at hd
    cases ey : (lsorts p)[i]? with
    | none => rw [ey] at hd; cases hd
    | some y =>
      rw [ey] at hd
      cases hd
      have hy := lsorts_ok (p := p) (List.mem_of_getElem? ey)
      have grow : ∀ z ∈ xs ++ [y], z.Ok p := by
        intro z hz
        rcases List.mem_append.mp hz with hz | hz
        · exact hxs z hz
        · simp at hz; subst hz; exact hy
      by_cases h5 : dk s2 6 = 5
      · simp! [c_taken, h5]
        exact ⟨_, rfl, xs ++ [y], by simp, by simp; omega, grow⟩
      · have h5' : (((dk s2 6 : Nat) : Int) = 5) = False := eq_false (by omega)
        cases hf : lfits p x y with
        | true =>
          simp! [c_taken, h5', hix, c_lfits hp x y hxo hy, hf]
          exact ⟨_, rfl, xs ++ [y], by simp, by simp; omega, grow⟩
        | false =>
          simp! [c_taken, h5', hix, c_lfits hp x y hxo hy, hf]
          exact ⟨_, rfl, xs, rfl, by omega, hxs⟩
  rintro acc s2 ⟨xs, rfl, hxl, hxs⟩
  rw [List.length_map] at hxl
  have hxl2 : xs.length ≤ 50 := Nat.le_trans hxl (lsorts_len hp)
  refine ⟨belowAll_map below_so _, ?_⟩
  have w0 : (0 : Int) < (xs.length : Int) + 1 := by omega
  have w1 : (xs.length : Int) + 1 < 1073741824 := by omega
  have tw := dk_lt s2 w0
  obtain ⟨y, hy, hyo⟩ : ∃ y : So, (∀ st, idxV G st (.lst (xs.map So.d ++ [.str "unset"])) (.int (dk s2 ((xs.length : Int) + 1))) = some y.d) ∧ y.Ok p := by
    have e : xs.map So.d ++ [D.str "unset"] = (xs ++ [So.unset]).map So.d := by simp [So.d]
    have hi : dk s2 ((xs.length : Int) + 1) < (xs ++ [So.unset]).length := by simp; omega
    refine ⟨(xs ++ [So.unset])[dk s2 ((xs.length : Int) + 1)], fun st => ?_, ?_⟩
    · rw [e, idx_ln, List.getElem?_map, List.getElem?_eq_getElem hi]
      rfl
    · have := List.getElem_mem hi
      rcases List.mem_append.mp this with h | h
      · exact hxs _ h
      · simp at h
        rw [h]
        trivial
  have hk1 : (k : Int) + 1 = ((k + 1 : Nat) : Int) := by omega
  have hk2 : k + 1 ≤ (l.map So.d).length := by rw [List.length_map]; omega
  have q1 : xs.length + 1 ≤ LIM := by show _ ≤ 16777216; omega
  have q2 : ((l.map So.d).take k).length + 1 ≤ LIM := by rw [List.length_take, List.length_map]; show _ ≤ 16777216; omega
  have q3 : ((l.map So.d).take k).length + 1 + ((l.map So.d).drop (k + 1)).length ≤ LIM := by rw [List.length_take, List.length_drop, List.length_map]; show _ ≤ 16777216; omega
  have enew : (l.map So.d).take k ++ [y.d] ++ (l.map So.d).drop (k + 1) = (l.take k ++ [y] ++ l.drop (k + 1)).map So.d := by simp [List.map_take, List.map_drop]
  refine let_eq (l.take k ++ [y] ++ l.drop (k + 1)) fun l2 el2 => ?_
  have hl2 : l2.length = l.length := by rw [el2]; simp; omega
  have hl2o : ∀ z ∈ l2, z.Ok p := by
    intro z hz
    rw [el2] at hz
    rcases List.mem_append.mp hz with hz | hz
    · rcases List.mem_append.mp hz with hz | hz
      · exact hlo z (List.mem_of_mem_take hz)
      · simp at hz; subst hz; exact hyo
    · exact hlo z (List.mem_of_mem_drop hz)
  rw [← el2] at enew
  have hn : p.nb ≤ (l2.map So.d).length := by rw [List.length_map]; omega
  simp! [give_f, slc_to, slc_from hk2, slc_from hn, hk1, q1, c_taken, w0, w1, hy, q2, q3, List.length_append, enew, idx_p2]
  rw [cut_row0]
  refine ⟨⟨l2.take p.nb, l2.drop p.nb⟩, _, by simp [Stn.d, List.map_take, List.map_drop], rfl, ?_, ?_, ?_⟩
  · show (l2.take p.nb).length = p.nb
    rw [List.length_take]; omega
  · show (l2.drop p.nb).length ≤ p.room
    rw [List.length_drop]; omega
  · intro z hz
    have hz : z ∈ l2.take p.nb ++ l2.drop p.nb := hz
    rw [List.take_append_drop] at hz
    exact hl2o z hz
end
end MP

set_option linter.all false
set_option maxRecDepth 100000
set_option maxHeartbeats 4000000
/-! Plain facts: fitting is an order, the join is its join. -/
namespace MP
open MG
inductive Anc (cs : List Kl) : Nat → Nat → Prop
  | refl (i : Nat) : Anc cs i i
  | step {i p j : Nat} : parOf cs i = some p → Anc cs p j → Anc cs i j
section
variable {cs : List Kl}
theorem Anc.trans {i j k : Nat} (h : Anc cs i j) (h2 : Anc cs j k) : Anc cs i k := by
  induction h with
  | refl => exact h2
  | step e _ ih => exact .step e (ih h2)
theorem Anc.le (wc : WC cs) {i j : Nat} (h : Anc cs i j) : j ≤ i := by
  induction h with
  | refl => exact Nat.le_refl _
  | step e _ ih => have := par_lt wc e; omega
theorem Anc.anti (wc : WC cs) {i j : Nat} (h : Anc cs i j) (h2 : Anc cs j i) : i = j := by
  have := h.le wc
  have := h2.le wc
  omega
theorem anc_of (wc : WC cs) : ∀ (m i j : Nat), i < m → (anc cs m (some i) j = true ↔ Anc cs i j)
  | 0, i, j, h => by omega
  | m + 1, i, j, h => by
    simp only [anc]
    by_cases e : i = j
    · subst e
      simp
      exact .refl _
    · rw [if_neg e]
      cases hp : parOf cs i with
      | none =>
        constructor
        · intro h2; cases m <;> simp [anc] at h2
        · intro h2
          cases h2 with
          | refl => exact absurd rfl e
          | step e2 _ => rw [hp] at e2; cases e2
      | some q =>
        have := par_lt wc hp
        rw [anc_of wc m q j (by omega)]
        constructor
        · exact .step hp
        · intro h2
          cases h2 with
          | refl => exact absurd rfl e
          | step e2 h3 => rw [hp] at e2; cases e2; exact h3
theorem anc_iff (wc : WC cs) {i j : Nat} (h : i < cs.length) : anc cs cs.length (some i) j = true ↔ Anc cs i j := anc_of wc _ i j h
theorem Anc.root (wc : WC cs) {i : Nat} (h : i < cs.length) : Anc cs i 0 := (anc_iff wc h).mp (anc_root wc _ i h h)
theorem com_lub (wc : WC cs) {j : Nat} (hj : j < cs.length) : ∀ (m i : Nat), i < m → i < cs.length → Anc cs i (com cs m i j) ∧ Anc cs j (com cs m i j) ∧ ∀ k, Anc cs i k → Anc cs j k → Anc cs (com cs m i j) k
  | 0, i, h, _ => by omega
  | m + 1, i, h, hi => by
    simp only [com]
    by_cases ha : anc cs cs.length (some j) i = true
    · rw [if_pos ha]
      exact ⟨.refl _, (anc_iff wc hj).mp ha, fun k h1 _ => h1⟩
    · rw [if_neg ha]
      cases hp : parOf cs i with
      | none =>
        have := par_none wc hi hp
        subst this
        exact absurd ((anc_iff wc hj).mpr (Anc.root wc hj)) ha
      | some q =>
        have hq := par_lt wc hp
        obtain ⟨h1, h2, h3⟩ := com_lub wc hj m q (by omega) (by omega)
        refine ⟨.step hp h1, h2, fun k hk1 hk2 => h3 k ?_ hk2⟩
        cases hk1 with
        | refl => exact absurd ((anc_iff wc hj).mpr hk2) ha
        | step e2 h4 => rw [hp] at e2; cases e2; exact h4
theorem com_lt (wc : WC cs) {i j : Nat} (hi : i < cs.length) (hj : j < cs.length) : com cs cs.length i j < cs.length := by
  have := (com_lub wc hj cs.length i hi hi).1.le wc
  omega
/-! ### sorts -/
theorem fit_refl (x : So) (h : x.ok cs) : x.fit cs x = true := by
  cases x <;> simp [So.fit]
  exact anc_self h
theorem fit_of (wc : WC cs) {i j : Nat} (h : i < cs.length) : (So.of i).fit cs (.of j) = true ↔ Anc cs i j := anc_iff wc h
theorem fit_trans (wc : WC cs) {x y z : So} (hx : x.ok cs) (hy : y.ok cs) (h1 : x.fit cs y = true) (h2 : y.fit cs z = true) : x.fit cs z = true := by
  cases x <;> cases y <;> cases z <;> first | rfl | (simp [So.fit] at h1 h2; done) | skip
  · rw [fit_of wc hx] at h1 ⊢
    rw [fit_of wc hy] at h2
    exact h1.trans h2
  · simp [So.fit] at h1 h2 ⊢
    omega
theorem fit_anti (wc : WC cs) {x y : So} (hx : x.ok cs) (hy : y.ok cs) (h1 : x.fit cs y = true) (h2 : y.fit cs x = true) : x = y := by
  cases x <;> cases y <;> first | rfl | (simp [So.fit] at h1 h2; done) | skip
  · rw [fit_of wc hx] at h1
    rw [fit_of wc hy] at h2
    rw [h1.anti wc h2]
  · simp [So.fit] at h1
    rw [h1]
theorem join_lub (wc : WC cs) {x y : So} (hx : x.ok cs) (hy : y.ok cs) : x.fit cs (x.join cs y) = true ∧ y.fit cs (x.join cs y) = true ∧ ∀ z, x.fit cs z = true → y.fit cs z = true → (x.join cs y).fit cs z = true := by
  unfold So.join
  by_cases h1 : x.fit cs y = true
  · rw [if_pos h1]
    exact ⟨h1, fit_refl y hy, fun z _ h => h⟩
  · rw [if_neg h1]
    by_cases h2 : y.fit cs x = true
    · rw [if_pos h2]
      exact ⟨fit_refl x hx, h2, fun z h _ => h⟩
    · rw [if_neg h2]
      cases x <;> cases y <;> first | (exact absurd rfl h1) | (exact absurd rfl h2) | skip
      all_goals first
        | (simp [So.fit] at h1; done)
        | (simp [So.fit] at h2; done)
        | (refine ⟨rfl, rfl, fun z h3 h4 => ?_⟩; cases z <;> first | rfl | (simp [So.fit] at h3 h4; done))
        | skip
      · rename_i i j
        obtain ⟨c1, c2, c3⟩ := com_lub wc hy cs.length i hx hx
        refine ⟨(fit_of wc hx).mpr c1, (fit_of wc hy).mpr c2, fun z h3 h4 => ?_⟩
        cases z <;> first | rfl | (simp [So.fit] at h3; done) | skip
        rw [fit_of wc hx] at h3
        rw [fit_of wc hy] at h4
        rw [fit_of wc (com_lt wc hx hy)]
        exact c3 _ h3 h4
      · refine ⟨rfl, rfl, fun z h3 h4 => ?_⟩
        cases z <;> first | rfl | (simp [So.fit] at h3 h4; done) | (simp [So.fit] at h1 h3 h4; omega)
theorem join_ok (wc : WC cs) {x y : So} (hx : x.ok cs) (hy : y.ok cs) : (x.join cs y).ok cs := by
  unfold So.join
  split
  · exact hy
  · split
    · exact hx
    · split
      · exact com_lt wc hx hy
      · split <;> trivial
end
end MP

set_option linter.all false
set_option maxRecDepth 100000
set_option maxHeartbeats 4000000
/-! Plain facts: stands. -/
namespace MP
open MG
section
variable {p : Pg}
def FL (cs : List Kl) (xs ys : List So) : Prop := ∀ (i : Nat) (x y : So), xs[i]? = some x → ys[i]? = some y → x.fit cs y = true
theorem zip_all {α : Type} {f : α × α → Bool} : ∀ {xs ys : List α}, (xs.zip ys).all f = true ↔ ∀ (i : Nat) (x y : α), xs[i]? = some x → ys[i]? = some y → f (x, y) = true
  | [], ys => by simp
  | x :: xs, [] => by simp
  | x :: xs, y :: ys => by
    simp only [List.zip_cons_cons, List.all_cons, Bool.and_eq_true, zip_all (xs := xs) (ys := ys)]
    constructor
    · rintro ⟨h1, h2⟩ i a b ha hb
      cases i with
      | zero => simp at ha hb; subst ha hb; exact h1
      | succ i => exact h2 i a b (by simpa using ha) (by simpa using hb)
    · intro h
      exact ⟨h 0 x y rfl rfl, fun i a b ha hb => h (i + 1) a b (by simpa using ha) (by simpa using hb)⟩
theorem FL_app {cs : List Kl} {a b c d : List So} (hl : a.length = b.length) : FL cs (a ++ c) (b ++ d) ↔ FL cs a b ∧ FL cs c d := by
  constructor
  · intro h
    refine ⟨fun i x y hx hy => h i x y ?_ ?_, fun i x y hx hy => h (a.length + i) x y ?_ ?_⟩
    · rw [List.getElem?_append_left (List.getElem?_eq_some_iff.mp hx).1]; exact hx
    · rw [List.getElem?_append_left (List.getElem?_eq_some_iff.mp hy).1]; exact hy
    · rw [List.getElem?_append_right (by omega), show a.length + i - a.length = i by omega]; exact hx
    · rw [List.getElem?_append_right (by omega), show a.length + i - b.length = i by omega]; exact hy
  · rintro ⟨h1, h2⟩ i x y hx hy
    by_cases hi : i < a.length
    · rw [List.getElem?_append_left hi] at hx
      rw [List.getElem?_append_left (by omega)] at hy
      exact h1 i x y hx hy
    · rw [List.getElem?_append_right (by omega)] at hx
      rw [List.getElem?_append_right (by omega), ← hl] at hy
      exact h2 _ x y hx hy
theorem stn_fit {a b : Stn} (ha : a.OK p) (hb : b.OK p) : a.fit p.cls b = true ↔ a.p.length = b.p.length ∧ FL p.cls a.b b.b ∧ FL p.cls a.p b.p := by
  have hl : a.b.length = b.b.length := by rw [ha.lb, hb.lb]
  unfold Stn.fit
  rw [Bool.and_eq_true, decide_eq_true_eq, zip_all, ← FL_app hl]
  rfl
theorem FL_refl {xs : List So} (h : ∀ x ∈ xs, x.Ok p) : FL p.cls xs xs := by
  intro i x y hx hy
  rw [hx] at hy
  cases hy
  exact fit_refl x (h x (List.mem_of_getElem? hx)).ok
theorem FL_trans (hp : p.Ok) {xs ys zs : List So} (hl : xs.length = ys.length) (h : ∀ x ∈ xs, x.Ok p) (h' : ∀ x ∈ ys, x.Ok p) (h1 : FL p.cls xs ys) (h2 : FL p.cls ys zs) : FL p.cls xs zs := by
  intro i x z hx hz
  obtain ⟨y, hy⟩ : ∃ y, ys[i]? = some y := ⟨_, List.getElem?_eq_getElem (by have := (List.getElem?_eq_some_iff.mp hx).1; omega)⟩
  exact fit_trans hp.wc (h x (List.mem_of_getElem? hx)).ok (h' y (List.mem_of_getElem? hy)).ok (h1 i x y hx hy) (h2 i y z hy hz)
theorem FL_anti (hp : p.Ok) {xs ys : List So} (hl : xs.length = ys.length) (h : ∀ x ∈ xs, x.Ok p) (h' : ∀ x ∈ ys, x.Ok p) (h1 : FL p.cls xs ys) (h2 : FL p.cls ys xs) : xs = ys := by
  apply List.ext_getElem? 
  intro i
  by_cases hi : i < xs.length
  · have e1 := List.getElem?_eq_getElem hi
    have e2 := List.getElem?_eq_getElem (l := ys) (i := i) (by omega)
    rw [e1, e2]
    congr 1
    exact fit_anti hp.wc (h _ (List.getElem_mem hi)).ok (h' _ (List.getElem_mem (by omega))).ok (h1 i _ _ e1 e2) (h2 i _ _ e2 e1)
  · rw [List.getElem?_eq_none (by omega), List.getElem?_eq_none (by omega)]
def JL (cs : List Kl) (xs ys : List So) : List So := (xs.zip ys).map fun q => q.1.join cs q.2
theorem JL_get {cs : List Kl} {xs ys : List So} {i : Nat} {z : So} (h : (JL cs xs ys)[i]? = some z) : ∃ x y, xs[i]? = some x ∧ ys[i]? = some y ∧ z = x.join cs y := by
  unfold JL at h
  rw [List.getElem?_map] at h
  cases e : (xs.zip ys)[i]? with
  | none => rw [e] at h; cases h
  | some q =>
    rw [e] at h
    cases h
    have := List.getElem?_zip_eq_some.mp e
    exact ⟨q.1, q.2, this.1, this.2, rfl⟩
theorem JL_len {cs : List Kl} {xs ys : List So} (h : xs.length = ys.length) : (JL cs xs ys).length = xs.length := by
  simp [JL, h]
theorem JL_ok (hp : p.Ok) {xs ys : List So} (h : ∀ x ∈ xs, x.Ok p) (h' : ∀ x ∈ ys, x.Ok p) : ∀ z ∈ JL p.cls xs ys, z.Ok p := by
  intro z hz
  obtain ⟨i, hi, e⟩ := List.mem_iff_getElem.mp hz
  obtain ⟨x, y, hx, hy, rfl⟩ := JL_get (by rw [List.getElem?_eq_getElem hi, e] : (JL p.cls xs ys)[i]? = some z)
  have h1 := h x (List.mem_of_getElem? hx)
  have h2 := h' y (List.mem_of_getElem? hy)
  have h3 := join_ok hp.wc h1.ok h2.ok
  unfold So.join at h3 ⊢
  split
  · exact h2
  · split
    · exact h1
    · split
      · rename_i n1 n2 _ _
        rw [if_neg (by assumption), if_neg (by assumption)] at h3
        exact h3
      · split <;> trivial
theorem JL_ub1 (hp : p.Ok) {xs ys : List So} (h : ∀ x ∈ xs, x.Ok p) (h' : ∀ x ∈ ys, x.Ok p) : FL p.cls xs (JL p.cls xs ys) := by
  intro i x z hx hz
  obtain ⟨x', y, hx', hy, rfl⟩ := JL_get hz
  rw [hx] at hx'
  cases hx'
  exact (join_lub hp.wc (h x (List.mem_of_getElem? hx)).ok (h' y (List.mem_of_getElem? hy)).ok).1
theorem JL_ub2 (hp : p.Ok) {xs ys : List So} (h : ∀ x ∈ xs, x.Ok p) (h' : ∀ x ∈ ys, x.Ok p) : FL p.cls ys (JL p.cls xs ys) := by
  intro i y z hy hz
  obtain ⟨x, y', hx, hy', rfl⟩ := JL_get hz
  rw [hy] at hy'
  cases hy'
  exact (join_lub hp.wc (h x (List.mem_of_getElem? hx)).ok (h' y (List.mem_of_getElem? hy)).ok).2.1
theorem JL_least (hp : p.Ok) {xs ys zs : List So} (hl : xs.length = ys.length) (h : ∀ x ∈ xs, x.Ok p) (h' : ∀ x ∈ ys, x.Ok p) (h1 : FL p.cls xs zs) (h2 : FL p.cls ys zs) : FL p.cls (JL p.cls xs ys) zs := by
  intro i z w hz hw
  obtain ⟨x, y, hx, hy, rfl⟩ := JL_get hz
  exact (join_lub hp.wc (h x (List.mem_of_getElem? hx)).ok (h' y (List.mem_of_getElem? hy)).ok).2.2 w (h1 i x w hx hw) (h2 i y w hy hw)
theorem Stn.OK.b {a : Stn} (h : a.OK p) : ∀ x ∈ a.b, x.Ok p := fun x hx => h.ok x (List.mem_append_left _ hx)
theorem Stn.OK.q {a : Stn} (h : a.OK p) : ∀ x ∈ a.p, x.Ok p := fun x hx => h.ok x (List.mem_append_right _ hx)
theorem s_refl {a : Stn} (ha : a.OK p) : a.fit p.cls a = true := (stn_fit ha ha).mpr ⟨rfl, FL_refl ha.b, FL_refl ha.q⟩
theorem s_trans (hp : p.Ok) {a b c : Stn} (ha : a.OK p) (hb : b.OK p) (hc : c.OK p) (h1 : a.fit p.cls b = true) (h2 : b.fit p.cls c = true) : a.fit p.cls c = true := by
  rw [stn_fit ha hb] at h1
  rw [stn_fit hb hc] at h2
  rw [stn_fit ha hc]
  exact ⟨h1.1.trans h2.1, FL_trans hp (by rw [ha.lb, hb.lb]) ha.b hb.b h1.2.1 h2.2.1, FL_trans hp h1.1 ha.q hb.q h1.2.2 h2.2.2⟩
theorem s_anti (hp : p.Ok) {a b : Stn} (ha : a.OK p) (hb : b.OK p) (h1 : a.fit p.cls b = true) (h2 : b.fit p.cls a = true) : a = b := by
  rw [stn_fit ha hb] at h1
  rw [stn_fit hb ha] at h2
  have e1 := FL_anti hp (by rw [ha.lb, hb.lb]) ha.b hb.b h1.2.1 h2.2.1
  have e2 := FL_anti hp h1.1 ha.q hb.q h1.2.2 h2.2.2
  cases a; cases b
  simp only at e1 e2
  rw [e1, e2]
theorem join_some {cs : List Kl} {a b : Stn} (h : a.p.length = b.p.length) : a.join cs b = some ⟨JL cs a.b b.b, JL cs a.p b.p⟩ := by
  unfold Stn.join
  rw [if_pos h]
  rfl
theorem join_none {cs : List Kl} {a b : Stn} (h : a.p.length ≠ b.p.length) : a.join cs b = none := by
  unfold Stn.join
  rw [if_neg h]
theorem join_h {cs : List Kl} {a b m : Stn} (h : a.join cs b = some m) : a.p.length = b.p.length ∧ m = ⟨JL cs a.b b.b, JL cs a.p b.p⟩ := by
  by_cases e : a.p.length = b.p.length
  · rw [join_some e] at h
    cases h
    exact ⟨e, rfl⟩
  · rw [join_none e] at h
    cases h
theorem s_jok (hp : p.Ok) {a b m : Stn} (ha : a.OK p) (hb : b.OK p) (h : a.join p.cls b = some m) : m.OK p := by
  obtain ⟨e, rfl⟩ := join_h h
  have hl : a.b.length = b.b.length := by rw [ha.lb, hb.lb]
  refine ⟨by show (JL _ _ _).length = _; rw [JL_len hl, ha.lb], by show (JL _ _ _).length ≤ _; rw [JL_len e]; exact ha.lp, ?_⟩
  intro x hx
  rcases List.mem_append.mp hx with hx | hx
  · exact JL_ok hp ha.b hb.b x hx
  · exact JL_ok hp ha.q hb.q x hx
theorem s_ub1 (hp : p.Ok) {a b m : Stn} (ha : a.OK p) (hb : b.OK p) (h : a.join p.cls b = some m) : a.fit p.cls m = true := by
  have hm := s_jok hp ha hb h
  obtain ⟨e, rfl⟩ := join_h h
  rw [stn_fit ha hm]
  exact ⟨(JL_len e).symm, JL_ub1 hp ha.b hb.b, JL_ub1 hp ha.q hb.q⟩
theorem s_ub2 (hp : p.Ok) {a b m : Stn} (ha : a.OK p) (hb : b.OK p) (h : a.join p.cls b = some m) : b.fit p.cls m = true := by
  have hm := s_jok hp ha hb h
  obtain ⟨e, rfl⟩ := join_h h
  rw [stn_fit hb hm]
  exact ⟨by rw [← e]; exact (JL_len e).symm, JL_ub2 hp ha.b hb.b, JL_ub2 hp ha.q hb.q⟩
theorem s_least (hp : p.Ok) {a b c m : Stn} (ha : a.OK p) (hb : b.OK p) (hc : c.OK p) (h : a.join p.cls b = some m) (h1 : a.fit p.cls c = true) (h2 : b.fit p.cls c = true) : m.fit p.cls c = true := by
  have hm := s_jok hp ha hb h
  obtain ⟨e, rfl⟩ := join_h h
  rw [stn_fit ha hc] at h1
  rw [stn_fit hb hc] at h2
  rw [stn_fit hm hc]
  exact ⟨by rw [← h1.1]; exact JL_len e, JL_least hp (by rw [ha.lb, hb.lb]) ha.b hb.b h1.2.1 h2.2.1, JL_least hp e ha.q hb.q h1.2.2 h2.2.2⟩
theorem s_comm (hp : p.Ok) {a b : Stn} (ha : a.OK p) (hb : b.OK p) : b.join p.cls a = a.join p.cls b := by
  by_cases e : a.p.length = b.p.length
  · have e1 := join_some (cs := p.cls) e
    have e2 := join_some (cs := p.cls) e.symm
    rw [e1, e2]
    congr 1
    exact s_anti hp (s_jok hp hb ha e2) (s_jok hp ha hb e1) (s_least hp hb ha (s_jok hp ha hb e1) e2 (s_ub2 hp ha hb e1) (s_ub1 hp ha hb e1)) (s_least hp ha hb (s_jok hp hb ha e2) e1 (s_ub2 hp hb ha e2) (s_ub1 hp hb ha e2))
  · rw [join_none e, join_none (fun h => e h.symm)]
theorem s_of_fit (hp : p.Ok) {a b : Stn} (ha : a.OK p) (hb : b.OK p) (h : a.fit p.cls b = true) : a.join p.cls b = some b := by
  have e := ((stn_fit ha hb).mp h).1
  have e1 := join_some (cs := p.cls) e
  rw [e1]
  congr 1
  exact s_anti hp (s_jok hp ha hb e1) hb (s_least hp ha hb hb e1 h (s_refl hb)) (s_ub2 hp ha hb e1)
theorem s_assoc (hp : p.Ok) {a b c m r : Stn} (ha : a.OK p) (hb : b.OK p) (hc : c.OK p) (h1 : a.join p.cls b = some m) (h2 : b.join p.cls c = some r) : m.join p.cls c = a.join p.cls r := by
  have hm := s_jok hp ha hb h1
  have hr := s_jok hp hb hc h2
  have e1 := (join_h h1).1
  have e2 := (join_h h2).1
  have lm : m.p.length = a.p.length := ((stn_fit ha hm).mp (s_ub1 hp ha hb h1)).1.symm
  have lr : r.p.length = b.p.length := ((stn_fit hb hr).mp (s_ub1 hp hb hc h2)).1.symm
  have j1 := join_some (cs := p.cls) (a := m) (b := c) (by omega)
  have j2 := join_some (cs := p.cls) (a := a) (b := r) (by omega)
  rw [j1, j2]
  congr 1
  have ok1 := s_jok hp hm hc j1
  have ok2 := s_jok hp ha hr j2
  refine s_anti hp ok1 ok2 ?_ ?_
  · refine s_least hp hm hc ok2 j1 (s_least hp ha hb ok2 h1 (s_ub1 hp ha hr j2) ?_) ?_
    · exact s_trans hp hb hr ok2 (s_ub1 hp hb hc h2) (s_ub2 hp ha hr j2)
    · exact s_trans hp hc hr ok2 (s_ub2 hp hb hc h2) (s_ub2 hp ha hr j2)
  · refine s_least hp ha hr ok1 j2 ?_ (s_least hp hb hc ok1 h2 ?_ (s_ub2 hp hm hc j1))
    · exact s_trans hp ha hm ok1 (s_ub1 hp ha hb h1) (s_ub1 hp hm hc j1)
    · exact s_trans hp hb hm ok1 (s_ub2 hp ha hb h1) (s_ub1 hp hm hc j1)
/-! ### stands compared -/
theorem eqv_so (x y : So) : eqv x.d y.d = decide (x = y) := by
  cases x <;> cases y <;> simp [So.d, eqv, eqvAll, nat_beq]
theorem eqvAll_so : ∀ xs ys : List So, eqvAll (xs.map So.d) (ys.map So.d) = decide (xs = ys)
  | [], [] => by simp [eqvAll]
  | [], y :: ys => by simp [eqvAll]
  | x :: xs, [] => by simp [eqvAll]
  | x :: xs, y :: ys => by simp [eqvAll, eqv_so, eqvAll_so xs ys]
theorem eqv_stn (a b : Stn) : eqv a.d b.d = decide (a = b) := by
  cases a; cases b
  simp [Stn.d, eqv, eqvAll, eqvAll_so]
theorem pur_stn (a : Stn) : pur 60 a.d = true := by
  simp [Stn.d, pur, purAll, purAll_map pur_so]
theorem eqB_opt {st : Store} (a b : Option Stn) : eqB st (optS a) (optS b) = some (decide (a = b)) := by
  cases a <;> cases b
  · simp [optS, eqB, shallow, pur, eqv]
  · rename_i b
    have := pur_stn b
    simp only [Stn.d] at this
    simp [optS, eqB, shallow, Stn.d, pur, eqv, this]
  · rename_i a
    have := pur_stn a
    simp only [Stn.d] at this
    simp [optS, eqB, shallow, Stn.d, pur, eqv, this]
  · rename_i a b
    have h1 : shallow st a.d = a.d := rfl
    have h2 : shallow st b.d = b.d := rfl
    simp only [optS, eqB, h1, h2, pur_stn, eqv_stn, Bool.and_self, if_true]
    simp
end
end MP

set_option linter.all false
set_option maxRecDepth 100000
set_option maxHeartbeats 4000000
/-! The law k04, in the core. -/
namespace MP
open MG
local macro_rules
  | `(tactic| simp! [$a,*]) => `(tactic| simp -dsimp only [wpE_var, wpE_k, wpE_nil, wpE_cons, wpE_lst, wpE_op1, wpE_op2, wpE_and, wpE_or, wpE_ite, wpE_chain, wpE_slc, wpE_rev, wpE_bi, wpE_bm, wpE_call, wpE_meth, wpE_make, wpE_fld, wpE_comp, wpE_rng, wpE_rrng, wpE_enum, wpE_zip, wpE_dict, wpE_frz, asgW_var, asgW_fld, asgW_op2, asgW_nil, asgW_cons, wsS_skip, wsS_seq, wsS_ex, wsS_asg, wsS_ret, wsS_ife, wsS_for, wsS_while, wsS_raise, wsS_try0, wsS_try1, wsS_cont, getE_0, getE_s, putW_0, putW_s, getW_some, WP_ok, WP_err, tupW_tup, blW_t, blW_f, nonW_non, lstW_some, iterW_some, iter_tup, iter_lst, partW_some, part_n, part_v, part_i, part_2, part_b, insW_some, refW_ref, ints2W_int, stoW_some, envW_var, envW_cons, envW_nil, prsW_some, okW_t, fitsT_var, fitsT_fld, fitsT_op2, fitsT_2, fitsT_3, fitsT_6, unp_var, unp_fld, unp_op2, unp_tup, unp_lst, List.map_cons, List.map_nil, List.cons_append, List.nil_append, wipe_nil, wipe_cons, List.set_cons_succ, List.set_cons_zero, isInt_tup, isInt_lst, isInt_int, isInt_str, isInt_bl, isInt_non, isInt_scr, isBool_tup, isBool_lst, isBool_int, isBool_str, isBool_bl, isBool_non, isBool_scr, isStr_tup, isStr_lst, isStr_int, isStr_str, isStr_bl, isStr_non, isStr_scr, isTup_tup, isTup_lst, isTup_int, isTup_str, isTup_bl, isTup_non, isTup_scr, isLst_tup, isLst_lst, isLst_int, isLst_str, isLst_bl, isLst_non, isLst_scr, isTL_tup, isTL_lst, isTL_int, isTL_str, isTL_bl, isTL_non, isTL_scr, isN_tup, notN_tup, isN_lst, notN_lst, isN_int, notN_int, isN_str, notN_str, isN_bl, notN_bl, isN_non, notN_non, isN_scr, notN_scr, isN_ref, notN_ref, not_bl, neg_int, len_tup, List.length_map, len_lst, len_scr, pur_int, pur_str, pur_bl, pur_non, pur_tup, pur_lst, purAll_nil, purAll_cons, op2_idx, op2_add, op2_sub, add_int, add_lst, add_tup, List.length_cons, List.length_nil, Nat.reduceAdd, Nat.zero_add, Nat.add_zero, nc0, nc1, nc2, nc3, nc4, nc5, nc6, nc7, nc8, nc9, Int.reduceLT, Int.reduceEq, Int.reduceMod, Int.reduceAdd, Int.reduceSub, op2_eq, op2_ne, op2_lt, op2_le, op2_gt, op2_ge, op2_in, op2_nin, okB_some, id_eq, decide_true, decide_false, decide_not, String.reduceEq, reduceCtorEq, String.reduceAppend, Option.isNone_none, eq_self, bi_tuple, idx_l0, idx_l1, idx_l2, idx_l3, idx_t0, idx_t1, idx_t2, idx_t3, idx_t4, idx_t5, eqB_str, eqB_int, eqB_is, eqB_si, Bool.and_self, eqB_ts, eqB_st, ext_rfl, ext_app, ext_app2, tup_tup, tup_lst, eqB_non, Bool.false_eq_true, if_false, if_true, Bool.not_true, Bool.not_false, and_true, true_and, implies_true, forall_const, $a,*])
section
variable {G : GD} {U : Up} {P : Prog} {n : Nat} {st tl : Store} {s : Rng} {own : Bool} {p : Pg} {cs : List Kl}
theorem row_mk {ns : List Int} : O.lst [.scr ns, .int 0, .int 0, .int 0] = rowO ⟨ns, 0, 0, 0⟩ := id rfl
theorem len_last {o : O} {l : List D} : biV G own .len [.ref (tl.length + 1)] (o :: (tl ++ [.lst l])) = .ok (.int l.length) (o :: (tl ++ [.lst l])) := by
  have e : (o :: (tl ++ [O.lst l]))[tl.length + 1]? = some (.lst l) := by rw [List.getElem?_cons_succ, get_last]
  have e2 : ∀ x st, biV G own .len [x] st = okB st (fun n : Nat => .int n) (lenV st x) := fun _ _ => rfl
  rw [e2]
  simp only [lenV, e]
  rfl
theorem idx_last {o : O} {l : List D} {i : Nat} : idxV G (o :: (tl ++ [.lst l])) (.ref (tl.length + 1)) (.int i) = l[i]? := by
  have e : (o :: (tl ++ [O.lst l]))[tl.length + 1]? = some (.lst l) := by rw [List.getElem?_cons_succ, get_last]
  simp only [idxV, e]
  by_cases h : i < l.length
  · simp [itemAt, place, h]
  · simp [itemAt, place, h]
theorem unp_last {o : O} {l : List D} {a b : C} : unp (o :: (tl ++ [.lst l])) (.ref (tl.length + 1)) (.cons a b) = .tup l := by
  have e : (o :: (tl ++ [O.lst l]))[tl.length + 1]? = some (.lst l) := by rw [List.getElem?_cons_succ, get_last]
  simp [unp, lstOf]
theorem cut_any {v w : D} {st0 st : Store} {E : QE} (h : v = w) : WP (cutR st0 (.ok v st)) (fun d _ => d = w) E := by
  unfold cutR
  by_cases c : (below st0.length v && keptB st0.length st0 st) = true
  · simp only [c, if_true]; exact h
  · simp only [c]; exact h
theorem notN_stn {a : Stn} : op1V .notN a.d st = .ok (.bl true) st := id rfl
theorem isN_stn {a : Stn} : op1V .isN a.d st = .ok (.bl false) st := id rfl
theorem eqB_stn {a b : Stn} : eqB st a.d b.d = some (decide (a = b)) := by
  have := eqB_opt (st := st) (some a) (some b)
  simpa [optS] using this
theorem eqB_nn : eqB st .non .non = some true := id rfl
theorem eqB_bl {a b : Bool} : eqB st (.bl a) (.bl b) = some (a == b) := id rfl
theorem idx_s1 {a : Stn} : idxV G st a.d (.int 1) = some (.tup (a.p.map So.d)) := idx_t1
theorem optS_some {a : Stn} : a.d = optS (some a) := rfl
def NM4 : List String := ["_law_taken", "_law_program", "_law_any_stand", "_law_raised", "met", "fits"]
theorem law04 (hG : G.get "FORMS" = formsD) (hP : P "law" = some f_law) (ag : ∀ f ∈ NM4, ∀ args st, callN G U P (n + 20) f args st = callN G U LIB (n + 20) f args st) (ns : List Int) :
    WP (callN G U P (n + 21) "law" [.scr ns] []) (fun v st => v = .bl true) fun _ _ => False := by
  have a1 := ag "_law_taken" (by simp [NM4])
  have a2 := ag "_law_program" (by simp [NM4])
  have a3 := ag "_law_any_stand" (by simp [NM4])
  have a4 := ag "_law_raised" (by simp [NM4])
  have a5 := ag "met" (by simp [NM4])
  have a6 := ag "fits" (by simp [NM4])
  refine wp_call hP rfl ?_
  dsimp only [f_law, List.map_cons, List.map_nil, List.replicate_succ, List.replicate_zero, List.cons_append, List.nil_append, Nat.reduceSub]
  have r3 := rgok 0 3 (by decide)
  have r5 := rgok 0 5 (by decide)
  have r2 := rgok 0 2 (by decide)
  simp! [give_t, row_mk, r3]
  refine wfor (fun i ρ st => ∃ (s : Rng) (tl : Store) (b2 b3 b4 b5 b6 b7 b8 b9 b10 b11 b12 b13 : Option D), ρ = [some (.scr ns), some (.ref 0), b2, b3, b4, b5, b6, b7, b8, b9, b10, b11, b12, b13] ∧ st = rowO s :: tl) ⟨_, [], _, _, _, _, _, _, _, _, _, _, _, _, rfl, rfl⟩ ?_ ?_
  · rintro i x ρ _ _ ⟨s, tl, b2, b3, b4, b5, b6, b7, b8, b9, b10, b11, b12, b13, rfl, rfl⟩
    refine ⟨rfl, ?_⟩
    simp! [a2]
    refine WP.use (g_program (n := n + 8) fun s => g_any_program (n := n + 16)) ?_
    rintro _ _ ⟨p, s1, rfl, rfl, hp⟩
    simp! [r5]
    refine wfor (fun i ρ st => ∃ (s : Rng) (tl : Store) (b2 b4 b5 b6 b7 b8 b9 b10 b11 b12 b13 : Option D), ρ = [some (.scr ns), some (.ref 0), b2, some p.d, b4, b5, b6, b7, b8, b9, b10, b11, b12, b13] ∧ st = rowO s :: tl) ⟨s1, tl, _, _, _, _, _, _, _, _, _, _, _, rfl, rfl⟩ ?_ ?_
    · rintro i x ρ _ _ ⟨s, tl, b2, b4, b5, b6, b7, b8, b9, b10, b11, b12, b13, rfl, rfl⟩
      refine ⟨rfl, ?_⟩
      simp! [a3]
      refine WP.use (g_any_stand (n := n + 18) hp) ?_
      rintro _ _ ⟨one, s2, rfl, rfl, hone⟩
      simp! [give_t, r2]
      refine wfor (fun i ρ st => ∃ (s : Rng) (l : List Stn) (b7 b10 : Option D), ρ = [some (.scr ns), some (.ref 0), b2, some p.d, some x, some one.d, some (.ref (tl.length + 1)), b7, b8, b9, b10, b11, b12, b13] ∧ st = rowO s :: (tl ++ [.lst (l.map Stn.d)]) ∧ l.length = i + 1 ∧ ∀ a ∈ l, a.OK p) ⟨s2, [one], _, _, rfl, rfl, rfl, (fun a h => by simp at h; subst h; exact hone)⟩ ?_ ?_
      · rintro j y ρ _ hj ⟨s3, l, c7, c10, rfl, rfl, hl, hlo⟩
        refine ⟨rfl, ?_⟩
        have hj2 := (List.getElem?_eq_some_iff.mp hj).1
        have hj2 : j < 2 := hj2
        have l0 : (0 : Int) < l.length := by omega
        have l1 : (l.length : Int) < 1073741824 := by omega
        have tk := dk_lt s3 l0
        obtain ⟨near, hnear⟩ : ∃ a, l[dk s3 l.length]? = some a := ⟨_, List.getElem?_eq_getElem (by omega)⟩
        have hix : (l.map Stn.d)[dk s3 l.length]? = some near.d := by rw [List.getElem?_map, hnear]; rfl
        have hno := hlo near (List.mem_of_getElem? hnear)
        have hlen : (l.map Stn.d).length < LIM := by rw [List.length_map]; show _ < 16777216; omega
        have t3 := dk_lt (dn s3 l.length) (m := 3) (by decide)
        have fin : ∀ (z : Stn), z.OK p → ∀ a ∈ l ++ [z], a.OK p := by
          intro z hz a ha
          rcases List.mem_append.mp ha with ha | ha
          · exact hlo a ha
          · simp at ha; subst ha; exact hz
        by_cases hz : (0 : Int) < (dk (dn s3 l.length) 3 : Nat)
        · simp! [len_last, a1, c_taken, l0, l1, idx_last, hix, recv_last, hz, a4]
          refine WP.use (g_raised (n := n + 16) hp near hno) ?_
          rintro _ _ ⟨z, s4, rfl, rfl, hzo⟩
          simp! [app_last hlen]
          exact ⟨s4, l ++ [z], _, _, rfl, by simp, by simp; omega, fin z hzo⟩
        · simp! [len_last, a1, c_taken, l0, l1, idx_last, hix, recv_last, hz, a3]
          refine WP.use (g_any_stand (n := n + 18) hp) ?_
          rintro _ _ ⟨z, s4, rfl, rfl, hzo⟩
          simp! [app_last hlen]
          exact ⟨s4, l ++ [z], _, _, rfl, by simp, by simp; omega, fin z hzo⟩
      rintro ρ _ ⟨s3, l, c7, c10, rfl, rfl, hl, hlo⟩
      have hl : l.length = 3 := hl
      refine ⟨rfl, ?_⟩
      obtain ⟨a, b, c, rfl⟩ : ∃ a b c, l = [a, b, c] := by
        match l, hl with
        | [a, b, c], _ => exact ⟨a, b, c, rfl⟩
      have ha := hlo a (by simp)
      have hb := hlo b (by simp)
      have hc := hlo c (by simp)
      clear hlo hl
      have mAB := fun st => c_met (G := G) (U := U) (n := n + 13) (st := st) hG hp a b ha hb
      have mBA := fun st => c_met (G := G) (U := U) (n := n + 13) (st := st) hG hp b a hb ha
      have mAA := fun st => c_met (G := G) (U := U) (n := n + 13) (st := st) hG hp a a ha ha
      have mBC := fun st => c_met (G := G) (U := U) (n := n + 13) (st := st) hG hp b c hb hc
      rw [s_comm hp ha hb] at mBA
      rw [s_of_fit hp ha ha (s_refl ha)] at mAA
      have fAA := fun st => c_fits (G := G) (U := U) (n := n + 13) (st := st) hG hp a a ha ha
      rw [s_refl ha] at fAA
      have fAB := fun st => c_fits (G := G) (U := U) (n := n + 13) (st := st) hG hp a b ha hb
      have fBC := fun st => c_fits (G := G) (U := U) (n := n + 13) (st := st) hG hp b c hb hc
      have fAC := fun st => c_fits (G := G) (U := U) (n := n + 13) (st := st) hG hp a c ha hc
      have eAA : ∀ st, eqB st (optS (some a)) a.d = some true := fun st => by rw [optS_some, eqB_opt]; simp
      have eqq : ∀ st (o : Option Stn), eqB st (optS o) (optS o) = some true := fun st o => by rw [eqB_opt]; simp
      have eAA' : ∀ st, eqB st a.d a.d = some true := fun st => by rw [eqB_stn]; simp
      by_cases e : a.p.length = b.p.length
      · obtain ⟨m, hm⟩ : ∃ m, a.join p.cls b = some m := ⟨_, join_some e⟩
        have hmo := s_jok hp ha hb hm
        rw [hm] at mAB mBA
        have mAB : ∀ st, callN G U LIB (n + 20) "met" [p.d, a.d, b.d] st = .ok m.d st := mAB
        have mBA : ∀ st, callN G U LIB (n + 20) "met" [p.d, b.d, a.d] st = .ok m.d st := mBA
        have mAA : ∀ st, callN G U LIB (n + 20) "met" [p.d, a.d, a.d] st = .ok a.d st := mAA
        have fAM := fun st => c_fits (G := G) (U := U) (n := n + 13) (st := st) hG hp a m ha hmo
        have fBM := fun st => c_fits (G := G) (U := U) (n := n + 13) (st := st) hG hp b m hb hmo
        have fMC := fun st => c_fits (G := G) (U := U) (n := n + 13) (st := st) hG hp m c hmo hc
        rw [s_ub1 hp ha hb hm] at fAM
        rw [s_ub2 hp ha hb hm] at fBM
        have mMC := fun st => c_met (G := G) (U := U) (n := n + 13) (st := st) hG hp m c hmo hc
        have e' : decide ((a.p.length : Int) = (b.p.length : Int)) = true := decide_eq_true (by omega)
        have B : List (Option Unit) := []
        have base : True := trivial
        -- what both fit into
        have c3 : (Stn.fit p.cls a c && (Stn.fit p.cls b c && !Stn.fit p.cls m c)) = false := by
          cases h1 : Stn.fit p.cls a c
          · rfl
          · cases h2 : Stn.fit p.cls b c
            · rfl
            · rw [s_least hp ha hb hc hm h1 h2]; rfl
        have c4 : (Stn.fit p.cls a b && (Stn.fit p.cls b c && !Stn.fit p.cls a c)) = false := by
          cases h1 : Stn.fit p.cls a b
          · rfl
          · cases h2 : Stn.fit p.cls b c
            · rfl
            · rw [s_trans hp ha hb hc h1 h2]; rfl
        have c6 : (Stn.fit p.cls a b && !decide (m = b)) = false := by
          cases h1 : Stn.fit p.cls a b
          · rfl
          · have := s_of_fit hp ha hb h1
            rw [hm] at this
            cases this
            simp
        by_cases ebc : b.p.length = c.p.length
        · obtain ⟨r, hr⟩ : ∃ r, b.join p.cls c = some r := ⟨_, join_some ebc⟩
          have hro := s_jok hp hb hc hr
          rw [hr] at mBC
          have mBC : ∀ st, callN G U LIB (n + 20) "met" [p.d, b.d, c.d] st = .ok r.d st := mBC
          have mAR := fun st => c_met (G := G) (U := U) (n := n + 13) (st := st) hG hp a r ha hro
          rw [← s_assoc hp ha hb hc hm hr] at mAR
          cases h1 : Stn.fit p.cls a c <;> cases h2 : Stn.fit p.cls b c <;> cases h3 : Stn.fit p.cls m c <;> cases h4 : Stn.fit p.cls a b <;> first
            | (rw [h1, h2, h3] at c3; exact absurd c3 (by decide))
            | (rw [h4, h2, h1] at c4; exact absurd c4 (by decide))
            | skip
          all_goals
            rw [h1] at fAC
            rw [h2] at fBC
            rw [h3] at fMC
            rw [h4] at fAB
            rw [h4] at c6
          all_goals first
            | (have c6 : decide (m = b) = true := by simpa using c6
               simp! [a5, a6, unp_last, mAB, mBA, mAA, mBC, fAA, fAM, fBM, fAB, fBC, fAC, fMC, eqB_stn, notN_stn, isN_stn, eqB_bl, idx_s1, beq_self_eq_true, e', c6, mMC, mAR, eqq]
               exact ⟨s3, _, _, _, _, _, _, _, _, _, _, _, _, rfl, rfl⟩)
            | (simp! [a5, a6, unp_last, mAB, mBA, mAA, mBC, fAA, fAM, fBM, fAB, fBC, fAC, fMC, eqB_stn, notN_stn, isN_stn, eqB_bl, idx_s1, beq_self_eq_true, e', mMC, mAR, eqq]
               exact ⟨s3, _, _, _, _, _, _, _, _, _, _, _, _, rfl, rfl⟩)
        · rw [join_none ebc] at mBC
          have mBC : ∀ st, callN G U LIB (n + 20) "met" [p.d, b.d, c.d] st = .ok .non st := mBC
          cases h1 : Stn.fit p.cls a c <;> cases h2 : Stn.fit p.cls b c <;> cases h3 : Stn.fit p.cls m c <;> cases h4 : Stn.fit p.cls a b <;> first
            | (rw [h1, h2, h3] at c3; exact absurd c3 (by decide))
            | (rw [h4, h2, h1] at c4; exact absurd c4 (by decide))
            | skip
          all_goals
            rw [h1] at fAC
            rw [h2] at fBC
            rw [h3] at fMC
            rw [h4] at fAB
            rw [h4] at c6
          all_goals first
            | (have c6 : decide (m = b) = true := by simpa using c6
               simp! [a5, a6, unp_last, mAB, mBA, mAA, mBC, fAA, fAM, fBM, fAB, fBC, fAC, fMC, eqB_stn, notN_stn, isN_stn, eqB_bl, idx_s1, beq_self_eq_true, e', c6, mMC, eqq]
               exact ⟨s3, _, _, _, _, _, _, _, _, _, _, _, _, rfl, rfl⟩)
            | (simp! [a5, a6, unp_last, mAB, mBA, mAA, mBC, fAA, fAM, fBM, fAB, fBC, fAC, fMC, eqB_stn, notN_stn, isN_stn, eqB_bl, idx_s1, beq_self_eq_true, e', mMC, eqq]
               exact ⟨s3, _, _, _, _, _, _, _, _, _, _, _, _, rfl, rfl⟩)
      · rw [join_none e] at mAB mBA
        have mAB : ∀ st, callN G U LIB (n + 20) "met" [p.d, a.d, b.d] st = .ok .non st := mAB
        have mBA : ∀ st, callN G U LIB (n + 20) "met" [p.d, b.d, a.d] st = .ok .non st := mBA
        have mAA : ∀ st, callN G U LIB (n + 20) "met" [p.d, a.d, a.d] st = .ok a.d st := mAA
        have e' : decide ((a.p.length : Int) = (b.p.length : Int)) = false := decide_eq_false (by omega)
        have h4 : Stn.fit p.cls a b = false := by
          cases h : Stn.fit p.cls a b with
          | false => rfl
          | true => exact absurd ((stn_fit ha hb).mp h).1 e
        rw [h4] at fAB
        have c3 : (Stn.fit p.cls a c && Stn.fit p.cls b c) = false := by
          cases h1 : Stn.fit p.cls a c
          · rfl
          · cases h2 : Stn.fit p.cls b c
            · rfl
            · exact absurd (((stn_fit ha hc).mp h1).1.trans ((stn_fit hb hc).mp h2).1.symm) e
        cases h1 : Stn.fit p.cls a c <;> cases h2 : Stn.fit p.cls b c <;> rw [h1, h2] at c3 <;> first | (exact absurd c3 (by decide)) | skip
        all_goals
          rw [h1] at fAC
          rw [h2] at fBC
          simp! [a5, a6, unp_last, mAB, mBA, mAA, mBC, fAA, fAB, fBC, fAC, eqB_stn, eqB_nn, notN_stn, isN_stn, eqB_bl, idx_s1, beq_self_eq_true, e']
          exact ⟨s3, _, _, _, _, _, _, _, _, _, _, _, _, rfl, rfl⟩
    · rintro ρ _ ⟨s, tl, b2, b4, b5, b6, b7, b8, b9, b10, b11, b12, b13, rfl, rfl⟩
      refine ⟨rfl, ?_⟩
      simp! []
      exact ⟨s, tl, _, _, _, _, _, _, _, _, _, _, _, _, rfl, rfl⟩
  · rintro ρ _ ⟨s, tl, b2, b3, b4, b5, b6, b7, b8, b9, b10, b11, b12, b13, rfl, rfl⟩
    refine ⟨rfl, ?_⟩
    simp! []
    exact cut_any rfl
end
end MP

set_option linter.all false
set_option maxRecDepth 100000
namespace K04
open MG
/- BadProgram.__init__: 0 self 1 part 2 number -/
abbrev f_BadProgram___init__ : Fn := MP.f_BadProgram___init__
/- is_whole: 0 number 1 low 2 high -/
abbrev f_is_whole : Fn := MP.f_is_whole
/- is_field: 0 field 1 many -/
abbrev f_is_field : Fn := MP.f_is_field
/- is_class: 0 one 1 number 2 many 3 field -/
abbrev f_is_class : Fn := MP.f_is_class
/- Looker.__init__: 0 self 1 program -/
abbrev f_Looker___init__ : Fn := MP.f_Looker___init__
/- Looker.need_classes: 0 self 1 number 2 one -/
abbrev f_Looker_need_classes : Fn := MP.f_Looker_need_classes
/- Looker.need_sizes: 0 self 1 one -/
abbrev f_Looker_need_sizes : Fn := MP.f_Looker_need_sizes
/- Looker.is_part: 0 self 1 part 2 sort 3 row 4 most -/
abbrev f_Looker_is_part : Fn := MP.f_Looker_is_part
/- Looker.is_row: 0 self 1 row 2 form 3 k -/
abbrev f_Looker_is_row : Fn := MP.f_Looker_is_row
/- Looker.is_handler: 0 self 1 one -/
abbrev f_Looker_is_handler : Fn := MP.f_Looker_is_handler
/- Looker.need_rows: 0 self 1 number 2 row 3 one -/
abbrev f_Looker_need_rows : Fn := MP.f_Looker_need_rows
/- is_new: 0 row -/
abbrev f_is_new : Fn := MP.f_is_new
/- need_program: 0 program 1 looker -/
abbrev f_need_program : Fn := MP.f_need_program
/- is_sort: 0 program 1 sort -/
abbrev f_is_sort : Fn := MP.f_is_sort
/- is_stand: 0 program 1 stand 2 sort -/
abbrev f_is_stand : Fn := MP.f_is_stand
/- is_thing: 0 sort -/
abbrev f_is_thing : Fn := MP.f_is_thing
/- is_below: 0 classes 1 one 2 other -/
abbrev f_is_below : Fn := MP.f_is_below
/- common: 0 classes 1 one 2 other -/
abbrev f_common : Fn := MP.f_common
/- is_fit: 0 classes 1 one 2 other -/
abbrev f_is_fit : Fn := MP.f_is_fit
/- joined: 0 classes 1 one 2 other -/
abbrev f_joined : Fn := MP.f_joined
/- stand_fits: 0 classes 1 one 2 other 3 pairs 4 pair -/
abbrev f_stand_fits : Fn := MP.f_stand_fits
/- stands_joined: 0 classes 1 one 2 other 3 k 4 a 5 b -/
abbrev f_stands_joined : Fn := MP.f_stands_joined
/- need_stands: 0 program 1 one 2 other -/
abbrev f_need_stands : Fn := MP.f_need_stands
/- fits: 0 program 1 one 2 other -/
abbrev f_fits : Fn := MP.f_fits
/- met: 0 program 1 one 2 other -/
abbrev f_met : Fn := MP.f_met
/- _law_taken: 0 _law_row 1 _law_many 2 _law_cell 3 _law_found -/
abbrev f__law_taken : Fn := MP.f__law_taken
/- _law_below: 0 _law_classes_here 1 _law_one 2 _law_found 3 _law_k -/
abbrev f__law_below : Fn := MP.f__law_below
/- _law_news: 0 _law_program_here 1 _law_k -/
abbrev f__law_news : Fn := MP.f__law_news
/- _law_atoms: 0 _law_program_here 1 _law_sort 2 _law_things 3 _law_k -/
abbrev f__law_atoms : Fn := MP.f__law_atoms
/- _law_sorts: 0 _law_program_here 1 _law_found 2 _law_one 3 _law_k 4 _law_s -/
abbrev f__law_sorts : Fn := MP.f__law_sorts
/- _law_fits: 0 _law_program_here 1 _law_one 2 _law_other 3 _law_every 4 _law_atom -/
abbrev f__law_fits : Fn := MP.f__law_fits
/- _law_classes: 0 _law_row 1 _law_many 2 _law_found 3 _law_k 4 _law_sizes 5 _law_fields 6 _law_n -/
abbrev f__law_classes : Fn := MP.f__law_classes
/- _law_worth: 0 _law_row 1 _law_p 2 _law_at 3 _law_kind 4 _law_some 5 _law_way 6 _law_classes_here 7 _law_below_here 8 _law_number 9 _law_two 10 _law_k -/
abbrev f__law_worth : Fn := MP.f__law_worth
/- _law_assign: 0 _law_row 1 _law_p 2 _law_at 3 _law_kind 4 _law_fields 5 _law_found 6 _law_way 7 _law_box 8 _law_k 9 _law_many 10 _law_other -/
abbrev f__law_assign : Fn := MP.f__law_assign
/- _law_branch: 0 _law_row 1 _law_p 2 _law_at 3 _law_deep 4 _law_head 5 _law_first 6 _law_there 7 _law_second 8 _law_way 9 _law_other 10 _law_last 11 _law_box 12 _law_kinds 13 _law_k -/
abbrev f__law_branch : Fn := MP.f__law_branch
/- _law_block: 0 _law_row 1 _law_p 2 _law_at 3 _law_many 4 _law_deep 5 _law_found 6 _law_turn 7 _law_way 8 _law_new -/
abbrev f__law_block : Fn := MP.f__law_block
/- _law_program: 0 _law_row 1 _law_many 2 _law_params 3 _law_boxes 4 _law_p 5 _law_rows 6 _law_k 7 _law_handlers 8 _law_odd 9 _law_few 10 _law_classes_here 11 _law_some 12 _law_at 13 _law_goal 14 _law_one -/
abbrev f__law_program : Fn := MP.f__law_program
/- _law_any_stand: 0 _law_row 1 _law_program_here 2 _law_sorts_here 3 _law_boxes 4 _law_high 5 _law_k -/
abbrev f__law_any_stand : Fn := MP.f__law_any_stand
/- _law_raised: 0 _law_row 1 _law_program_here 2 _law_stand 3 _law_sorts_here 4 _law_at 5 _law_some 6 _law_new 7 _law_sort -/
abbrev f__law_raised : Fn := MP.f__law_raised
/- _law_any_program: 0 _law_row 1 _law_k 2 _law_params 3 _law_words 4 _law_p 5 _law_rows 6 _law_handlers 7 _law_kinds 8 _law_classes_here 9 _law_pairs 10 _law_some 11 _law_boxes 12 _law_room 13 _law_word 14 _law_at 15 _law_goal 16 _law_n -/
abbrev f__law_any_program : Fn := MP.f__law_any_program
/- _law_any_row: 0 _law_row 1 _law_p 2 _law_word 3 _law_sizes 4 _law_k -/
abbrev f__law_any_row : Fn := MP.f__law_any_row
/- law: 0 _law_script 1 _law_row 2 _law_turn 3 _law_program_here 4 _law_again 5 _law_one 6 _law_some 7 _law_k 8 _law_both 9 _law_more 10 _law_near 11 _law_a 12 _law_b 13 _law_c -/
abbrev f_law : Fn := MP.f_law
def tbl : List (String × Fn) := [
  ("BadProgram.__init__", f_BadProgram___init__),
  ("is_whole", f_is_whole),
  ("is_field", f_is_field),
  ("is_class", f_is_class),
  ("Looker.__init__", f_Looker___init__),
  ("Looker.need_classes", f_Looker_need_classes),
  ("Looker.need_sizes", f_Looker_need_sizes),
  ("Looker.is_part", f_Looker_is_part),
  ("Looker.is_row", f_Looker_is_row),
  ("Looker.is_handler", f_Looker_is_handler),
  ("Looker.need_rows", f_Looker_need_rows),
  ("is_new", f_is_new),
  ("need_program", f_need_program),
  ("is_sort", f_is_sort),
  ("is_stand", f_is_stand),
  ("is_thing", f_is_thing),
  ("is_below", f_is_below),
  ("common", f_common),
  ("is_fit", f_is_fit),
  ("joined", f_joined),
  ("stand_fits", f_stand_fits),
  ("stands_joined", f_stands_joined),
  ("need_stands", f_need_stands),
  ("fits", f_fits),
  ("met", f_met),
  ("_law_taken", f__law_taken),
  ("_law_below", f__law_below),
  ("_law_news", f__law_news),
  ("_law_atoms", f__law_atoms),
  ("_law_sorts", f__law_sorts),
  ("_law_fits", f__law_fits),
  ("_law_classes", f__law_classes),
  ("_law_worth", f__law_worth),
  ("_law_assign", f__law_assign),
  ("_law_branch", f__law_branch),
  ("_law_block", f__law_block),
  ("_law_program", f__law_program),
  ("_law_any_stand", f__law_any_stand),
  ("_law_raised", f__law_raised),
  ("_law_any_program", f__law_any_program),
  ("_law_any_row", f__law_any_row),
  ("law", f_law)
]
def prog : Prog := fun f => tbl.lookup f
def gdict : String → List (D × D) := fun n => match n with
  | "FORMS" => [(.str "num", .str "v"), (.str "none", .str ""), (.str "ask", .str ""), (.str "new", .str "k"), (.str "birth", .str "w"), (.str "load", .str "b"), (.str "store", .str "b"), (.str "dup", .str ""), (.str "drop", .str ""), (.str "swap", .str ""), (.str "add", .str ""), (.str "take", .str ""), (.str "get", .str "kf"), (.str "put", .str "kf"), (.str "cast", .str "k"), (.str "is", .str "k"), (.str "go", .str "r"), (.str "if", .str "r"), (.str "bare", .str "r"), (.str "throw", .str ""), (.str "give", .str ""), (.str "end", .str "")]
  | _ => []
def gd : GD := ⟨gdict, []⟩
def up : Up := fun c => match c with
  | "MapError" => ["MapError", "ValueError"]
  | "BadProgram" => ["BadProgram", "MapError", "ValueError"]
  | "BadStand" => ["BadStand", "MapError", "ValueError"]
  | _ => []
end K04
namespace K04
open PySem PySem.Spec PyProof.Rows L2 MGS
def top (i : Nat) : Stmt := PySem.Challenge.pw_mapguard_k04_whole_met_is_least.main.body.getD i (.Pass ⟨0, 0, 0, 0⟩)
def inCls (st : Stmt) (j : Nat) : Stmt := match st with | .ClassDef _ _ _ b _ _ _ _ _ _ _ => b.getD j (.Pass ⟨0, 0, 0, 0⟩) | _ => .Pass ⟨0, 0, 0, 0⟩
def df_is_whole : Dd := ⟨"is_whole", (sOf "is_whole", none), sOf "is_whole", sOf "is_whole", top 15, [sOf "number", sOf "low", sOf "high"], [sOf "number", sOf "low", sOf "high"], f_is_whole⟩
theorem bf_is_whole : BindOk df_is_whole := fun _ _ _ _ _ _ us hl => match us, hl with | [_, _, _], _ => rfl
def df_is_field : Dd := ⟨"is_field", (sOf "is_field", none), sOf "is_field", sOf "is_field", top 16, [sOf "field", sOf "many"], [sOf "field", sOf "many"], f_is_field⟩
theorem bf_is_field : BindOk df_is_field := fun _ _ _ _ _ _ us hl => match us, hl with | [_, _], _ => rfl
def df_is_class : Dd := ⟨"is_class", (sOf "is_class", none), sOf "is_class", sOf "is_class", top 17, [sOf "one", sOf "number", sOf "many", sOf "field"], [sOf "one", sOf "number", sOf "many"], f_is_class⟩
theorem bf_is_class : BindOk df_is_class := fun _ _ _ _ _ _ us hl => match us, hl with | [_, _, _], _ => rfl
def df_Looker___init__ : Dd := ⟨"Looker.__init__", (sOf "Looker", some (sOf "__init__")), sOf "__init__", sOf "Looker.__init__", inCls (top 18) 0, [sOf "self", sOf "program"], [sOf "self", sOf "program"], f_Looker___init__⟩
theorem bf_Looker___init__ : BindOk df_Looker___init__ := fun _ _ _ _ _ _ us hl => match us, hl with | [_, _], _ => rfl
def df_Looker_need_classes : Dd := ⟨"Looker.need_classes", (sOf "Looker", some (sOf "need_classes")), sOf "need_classes", sOf "Looker.need_classes", inCls (top 18) 1, [sOf "self", sOf "number", sOf "one"], [sOf "self"], f_Looker_need_classes⟩
theorem bf_Looker_need_classes : BindOk df_Looker_need_classes := fun _ _ _ _ _ _ us hl => match us, hl with | [_], _ => rfl
def df_Looker_need_sizes : Dd := ⟨"Looker.need_sizes", (sOf "Looker", some (sOf "need_sizes")), sOf "need_sizes", sOf "Looker.need_sizes", inCls (top 18) 2, [sOf "self", sOf "one"], [sOf "self"], f_Looker_need_sizes⟩
theorem bf_Looker_need_sizes : BindOk df_Looker_need_sizes := fun _ _ _ _ _ _ us hl => match us, hl with | [_], _ => rfl
def df_Looker_is_part : Dd := ⟨"Looker.is_part", (sOf "Looker", some (sOf "is_part")), sOf "is_part", sOf "Looker.is_part", inCls (top 18) 3, [sOf "self", sOf "part", sOf "sort", sOf "row", sOf "most"], [sOf "self", sOf "part", sOf "sort", sOf "row"], f_Looker_is_part⟩
theorem bf_Looker_is_part : BindOk df_Looker_is_part := fun _ _ _ _ _ _ us hl => match us, hl with | [_, _, _, _], _ => rfl
def df_Looker_is_row : Dd := ⟨"Looker.is_row", (sOf "Looker", some (sOf "is_row")), sOf "is_row", sOf "Looker.is_row", inCls (top 18) 4, [sOf "self", sOf "row", sOf "form", sOf "k"], [sOf "self", sOf "row"], f_Looker_is_row⟩
theorem bf_Looker_is_row : BindOk df_Looker_is_row := fun _ _ _ _ _ _ us hl => match us, hl with | [_, _], _ => rfl
def df_Looker_is_handler : Dd := ⟨"Looker.is_handler", (sOf "Looker", some (sOf "is_handler")), sOf "is_handler", sOf "Looker.is_handler", inCls (top 18) 5, [sOf "self", sOf "one"], [sOf "self", sOf "one"], f_Looker_is_handler⟩
theorem bf_Looker_is_handler : BindOk df_Looker_is_handler := fun _ _ _ _ _ _ us hl => match us, hl with | [_, _], _ => rfl
def df_Looker_need_rows : Dd := ⟨"Looker.need_rows", (sOf "Looker", some (sOf "need_rows")), sOf "need_rows", sOf "Looker.need_rows", inCls (top 18) 6, [sOf "self", sOf "number", sOf "row", sOf "one"], [sOf "self"], f_Looker_need_rows⟩
theorem bf_Looker_need_rows : BindOk df_Looker_need_rows := fun _ _ _ _ _ _ us hl => match us, hl with | [_], _ => rfl
def df_is_new : Dd := ⟨"is_new", (sOf "is_new", none), sOf "is_new", sOf "is_new", top 19, [sOf "row"], [sOf "row"], f_is_new⟩
theorem bf_is_new : BindOk df_is_new := fun _ _ _ _ _ _ us hl => match us, hl with | [_], _ => rfl
def df_need_program : Dd := ⟨"need_program", (sOf "need_program", none), sOf "need_program", sOf "need_program", top 20, [sOf "program", sOf "looker"], [sOf "program"], f_need_program⟩
theorem bf_need_program : BindOk df_need_program := fun _ _ _ _ _ _ us hl => match us, hl with | [_], _ => rfl
def df_is_sort : Dd := ⟨"is_sort", (sOf "is_sort", none), sOf "is_sort", sOf "is_sort", top 27, [sOf "program", sOf "sort"], [sOf "program", sOf "sort"], f_is_sort⟩
theorem bf_is_sort : BindOk df_is_sort := fun _ _ _ _ _ _ us hl => match us, hl with | [_, _], _ => rfl
def df_is_stand : Dd := ⟨"is_stand", (sOf "is_stand", none), sOf "is_stand", sOf "is_stand", top 28, [sOf "program", sOf "stand", sOf "sort"], [sOf "program", sOf "stand"], f_is_stand⟩
theorem bf_is_stand : BindOk df_is_stand := fun _ _ _ _ _ _ us hl => match us, hl with | [_, _], _ => rfl
def df_is_thing : Dd := ⟨"is_thing", (sOf "is_thing", none), sOf "is_thing", sOf "is_thing", top 29, [sOf "sort"], [sOf "sort"], f_is_thing⟩
theorem bf_is_thing : BindOk df_is_thing := fun _ _ _ _ _ _ us hl => match us, hl with | [_], _ => rfl
def df_is_below : Dd := ⟨"is_below", (sOf "is_below", none), sOf "is_below", sOf "is_below", top 30, [sOf "classes", sOf "one", sOf "other"], [sOf "classes", sOf "one", sOf "other"], f_is_below⟩
theorem bf_is_below : BindOk df_is_below := fun _ _ _ _ _ _ us hl => match us, hl with | [_, _, _], _ => rfl
def df_common : Dd := ⟨"common", (sOf "common", none), sOf "common", sOf "common", top 31, [sOf "classes", sOf "one", sOf "other"], [sOf "classes", sOf "one", sOf "other"], f_common⟩
theorem bf_common : BindOk df_common := fun _ _ _ _ _ _ us hl => match us, hl with | [_, _, _], _ => rfl
def df_is_fit : Dd := ⟨"is_fit", (sOf "is_fit", none), sOf "is_fit", sOf "is_fit", top 32, [sOf "classes", sOf "one", sOf "other"], [sOf "classes", sOf "one", sOf "other"], f_is_fit⟩
theorem bf_is_fit : BindOk df_is_fit := fun _ _ _ _ _ _ us hl => match us, hl with | [_, _, _], _ => rfl
def df_joined : Dd := ⟨"joined", (sOf "joined", none), sOf "joined", sOf "joined", top 33, [sOf "classes", sOf "one", sOf "other"], [sOf "classes", sOf "one", sOf "other"], f_joined⟩
theorem bf_joined : BindOk df_joined := fun _ _ _ _ _ _ us hl => match us, hl with | [_, _, _], _ => rfl
def df_stand_fits : Dd := ⟨"stand_fits", (sOf "stand_fits", none), sOf "stand_fits", sOf "stand_fits", top 34, [sOf "classes", sOf "one", sOf "other", sOf "pairs", sOf "pair"], [sOf "classes", sOf "one", sOf "other"], f_stand_fits⟩
theorem bf_stand_fits : BindOk df_stand_fits := fun _ _ _ _ _ _ us hl => match us, hl with | [_, _, _], _ => rfl
def df_stands_joined : Dd := ⟨"stands_joined", (sOf "stands_joined", none), sOf "stands_joined", sOf "stands_joined", top 35, [sOf "classes", sOf "one", sOf "other", sOf "k", sOf "a", sOf "b"], [sOf "classes", sOf "one", sOf "other"], f_stands_joined⟩
theorem bf_stands_joined : BindOk df_stands_joined := fun _ _ _ _ _ _ us hl => match us, hl with | [_, _, _], _ => rfl
def df_need_stands : Dd := ⟨"need_stands", (sOf "need_stands", none), sOf "need_stands", sOf "need_stands", top 36, [sOf "program", sOf "one", sOf "other"], [sOf "program", sOf "one", sOf "other"], f_need_stands⟩
theorem bf_need_stands : BindOk df_need_stands := fun _ _ _ _ _ _ us hl => match us, hl with | [_, _, _], _ => rfl
def df_fits : Dd := ⟨"fits", (sOf "fits", none), sOf "fits", sOf "fits", top 37, [sOf "program", sOf "one", sOf "other"], [sOf "program", sOf "one", sOf "other"], f_fits⟩
theorem bf_fits : BindOk df_fits := fun _ _ _ _ _ _ us hl => match us, hl with | [_, _, _], _ => rfl
def df_met : Dd := ⟨"met", (sOf "met", none), sOf "met", sOf "met", top 38, [sOf "program", sOf "one", sOf "other"], [sOf "program", sOf "one", sOf "other"], f_met⟩
theorem bf_met : BindOk df_met := fun _ _ _ _ _ _ us hl => match us, hl with | [_, _, _], _ => rfl
def df__law_taken : Dd := ⟨"_law_taken", (sOf "_law_taken", none), sOf "_law_taken", sOf "_law_taken", top 40, [sOf "_law_row", sOf "_law_many", sOf "_law_cell", sOf "_law_found"], [sOf "_law_row", sOf "_law_many"], f__law_taken⟩
theorem bf__law_taken : BindOk df__law_taken := fun _ _ _ _ _ _ us hl => match us, hl with | [_, _], _ => rfl
def df__law_below : Dd := ⟨"_law_below", (sOf "_law_below", none), sOf "_law_below", sOf "_law_below", top 41, [sOf "_law_classes_here", sOf "_law_one", sOf "_law_found", sOf "_law_k"], [sOf "_law_classes_here", sOf "_law_one"], f__law_below⟩
theorem bf__law_below : BindOk df__law_below := fun _ _ _ _ _ _ us hl => match us, hl with | [_, _], _ => rfl
def df__law_news : Dd := ⟨"_law_news", (sOf "_law_news", none), sOf "_law_news", sOf "_law_news", top 42, [sOf "_law_program_here", sOf "_law_k"], [sOf "_law_program_here"], f__law_news⟩
theorem bf__law_news : BindOk df__law_news := fun _ _ _ _ _ _ us hl => match us, hl with | [_], _ => rfl
def df__law_atoms : Dd := ⟨"_law_atoms", (sOf "_law_atoms", none), sOf "_law_atoms", sOf "_law_atoms", top 43, [sOf "_law_program_here", sOf "_law_sort", sOf "_law_things", sOf "_law_k"], [sOf "_law_program_here", sOf "_law_sort"], f__law_atoms⟩
theorem bf__law_atoms : BindOk df__law_atoms := fun _ _ _ _ _ _ us hl => match us, hl with | [_, _], _ => rfl
def df__law_sorts : Dd := ⟨"_law_sorts", (sOf "_law_sorts", none), sOf "_law_sorts", sOf "_law_sorts", top 44, [sOf "_law_program_here", sOf "_law_found", sOf "_law_one", sOf "_law_k", sOf "_law_s"], [sOf "_law_program_here"], f__law_sorts⟩
theorem bf__law_sorts : BindOk df__law_sorts := fun _ _ _ _ _ _ us hl => match us, hl with | [_], _ => rfl
def df__law_fits : Dd := ⟨"_law_fits", (sOf "_law_fits", none), sOf "_law_fits", sOf "_law_fits", top 45, [sOf "_law_program_here", sOf "_law_one", sOf "_law_other", sOf "_law_every", sOf "_law_atom"], [sOf "_law_program_here", sOf "_law_one", sOf "_law_other"], f__law_fits⟩
theorem bf__law_fits : BindOk df__law_fits := fun _ _ _ _ _ _ us hl => match us, hl with | [_, _, _], _ => rfl
def df__law_classes : Dd := ⟨"_law_classes", (sOf "_law_classes", none), sOf "_law_classes", sOf "_law_classes", top 46, [sOf "_law_row", sOf "_law_many", sOf "_law_found", sOf "_law_k", sOf "_law_sizes", sOf "_law_fields", sOf "_law_n"], [sOf "_law_row"], f__law_classes⟩
theorem bf__law_classes : BindOk df__law_classes := fun _ _ _ _ _ _ us hl => match us, hl with | [_], _ => rfl
def df__law_worth : Dd := ⟨"_law_worth", (sOf "_law_worth", none), sOf "_law_worth", sOf "_law_worth", top 47, [sOf "_law_row", sOf "_law_p", sOf "_law_at", sOf "_law_kind", sOf "_law_some", sOf "_law_way", sOf "_law_classes_here", sOf "_law_below_here", sOf "_law_number", sOf "_law_two", sOf "_law_k"], [sOf "_law_row", sOf "_law_p", sOf "_law_at", sOf "_law_kind"], f__law_worth⟩
theorem bf__law_worth : BindOk df__law_worth := fun _ _ _ _ _ _ us hl => match us, hl with | [_, _, _, _], _ => rfl
def df__law_assign : Dd := ⟨"_law_assign", (sOf "_law_assign", none), sOf "_law_assign", sOf "_law_assign", top 48, [sOf "_law_row", sOf "_law_p", sOf "_law_at", sOf "_law_kind", sOf "_law_fields", sOf "_law_found", sOf "_law_way", sOf "_law_box", sOf "_law_k", sOf "_law_many", sOf "_law_other"], [sOf "_law_row", sOf "_law_p", sOf "_law_at"], f__law_assign⟩
theorem bf__law_assign : BindOk df__law_assign := fun _ _ _ _ _ _ us hl => match us, hl with | [_, _, _], _ => rfl
def df__law_branch : Dd := ⟨"_law_branch", (sOf "_law_branch", none), sOf "_law_branch", sOf "_law_branch", top 49, [sOf "_law_row", sOf "_law_p", sOf "_law_at", sOf "_law_deep", sOf "_law_head", sOf "_law_first", sOf "_law_there", sOf "_law_second", sOf "_law_way", sOf "_law_other", sOf "_law_last", sOf "_law_box", sOf "_law_kinds", sOf "_law_k"], [sOf "_law_row", sOf "_law_p", sOf "_law_at", sOf "_law_deep"], f__law_branch⟩
theorem bf__law_branch : BindOk df__law_branch := fun _ _ _ _ _ _ us hl => match us, hl with | [_, _, _, _], _ => rfl
def df__law_block : Dd := ⟨"_law_block", (sOf "_law_block", none), sOf "_law_block", sOf "_law_block", top 50, [sOf "_law_row", sOf "_law_p", sOf "_law_at", sOf "_law_many", sOf "_law_deep", sOf "_law_found", sOf "_law_turn", sOf "_law_way", sOf "_law_new"], [sOf "_law_row", sOf "_law_p", sOf "_law_at", sOf "_law_many", sOf "_law_deep"], f__law_block⟩
theorem bf__law_block : BindOk df__law_block := fun _ _ _ _ _ _ us hl => match us, hl with | [_, _, _, _, _], _ => rfl
def df__law_program : Dd := ⟨"_law_program", (sOf "_law_program", none), sOf "_law_program", sOf "_law_program", top 51, [sOf "_law_row", sOf "_law_many", sOf "_law_params", sOf "_law_boxes", sOf "_law_p", sOf "_law_rows", sOf "_law_k", sOf "_law_handlers", sOf "_law_odd", sOf "_law_few", sOf "_law_classes_here", sOf "_law_some", sOf "_law_at", sOf "_law_goal", sOf "_law_one"], [sOf "_law_row"], f__law_program⟩
theorem bf__law_program : BindOk df__law_program := fun _ _ _ _ _ _ us hl => match us, hl with | [_], _ => rfl
def df__law_any_stand : Dd := ⟨"_law_any_stand", (sOf "_law_any_stand", none), sOf "_law_any_stand", sOf "_law_any_stand", top 52, [sOf "_law_row", sOf "_law_program_here", sOf "_law_sorts_here", sOf "_law_boxes", sOf "_law_high", sOf "_law_k"], [sOf "_law_row", sOf "_law_program_here"], f__law_any_stand⟩
theorem bf__law_any_stand : BindOk df__law_any_stand := fun _ _ _ _ _ _ us hl => match us, hl with | [_, _], _ => rfl
def df__law_raised : Dd := ⟨"_law_raised", (sOf "_law_raised", none), sOf "_law_raised", sOf "_law_raised", top 53, [sOf "_law_row", sOf "_law_program_here", sOf "_law_stand", sOf "_law_sorts_here", sOf "_law_at", sOf "_law_some", sOf "_law_new", sOf "_law_sort"], [sOf "_law_row", sOf "_law_program_here", sOf "_law_stand"], f__law_raised⟩
theorem bf__law_raised : BindOk df__law_raised := fun _ _ _ _ _ _ us hl => match us, hl with | [_, _, _], _ => rfl
def df__law_any_program : Dd := ⟨"_law_any_program", (sOf "_law_any_program", none), sOf "_law_any_program", sOf "_law_any_program", top 54, [sOf "_law_row", sOf "_law_k", sOf "_law_params", sOf "_law_words", sOf "_law_p", sOf "_law_rows", sOf "_law_handlers", sOf "_law_kinds", sOf "_law_classes_here", sOf "_law_pairs", sOf "_law_some", sOf "_law_boxes", sOf "_law_room", sOf "_law_word", sOf "_law_at", sOf "_law_goal", sOf "_law_n"], [sOf "_law_row"], f__law_any_program⟩
theorem bf__law_any_program : BindOk df__law_any_program := fun _ _ _ _ _ _ us hl => match us, hl with | [_], _ => rfl
def df__law_any_row : Dd := ⟨"_law_any_row", (sOf "_law_any_row", none), sOf "_law_any_row", sOf "_law_any_row", top 55, [sOf "_law_row", sOf "_law_p", sOf "_law_word", sOf "_law_sizes", sOf "_law_k"], [sOf "_law_row", sOf "_law_p", sOf "_law_word"], f__law_any_row⟩
theorem bf__law_any_row : BindOk df__law_any_row := fun _ _ _ _ _ _ us hl => match us, hl with | [_, _, _], _ => rfl
def df_law : Dd := ⟨"law", (sOf "law", none), sOf "law", sOf "law", top 56, [sOf "_law_script", sOf "_law_row", sOf "_law_turn", sOf "_law_program_here", sOf "_law_again", sOf "_law_one", sOf "_law_some", sOf "_law_k", sOf "_law_both", sOf "_law_more", sOf "_law_near", sOf "_law_a", sOf "_law_b", sOf "_law_c"], [sOf "_law_script"], f_law⟩
theorem bf_law : BindOk df_law := fun _ _ _ _ _ _ us hl => match us, hl with | [_], _ => rfl
def gm : Gm where
  cst := [(sOf "MOST_CLASSES", .int 6), (sOf "MOST_FIELDS", .int 3), (sOf "MOST_PARAMS", .int 4), (sOf "MOST_BOXES", .int 6), (sOf "MOST_ROOM", .int 8), (sOf "MOST_ROWS", .int 40), (sOf "MOST_HANDLERS", .int 4), (sOf "MOST_WORTH", .int 999), (sOf "NUMBER", .str "n"), (sOf "NONE", .str "none"), (sOf "ANY", .str "any"), (sOf "UNSET", .str "unset"), (sOf "OF", .str "of"), (sOf "UNBORN", .str "unborn")] ++ [(sOf "FORMS", .gd "FORMS")]
  fns := ["is_whole", "is_field", "is_class", "is_new", "need_program", "is_sort", "is_stand", "is_thing", "is_below", "common", "is_fit", "joined", "stand_fits", "stands_joined", "need_stands", "fits", "met", "_law_taken", "_law_below", "_law_news", "_law_atoms", "_law_sorts", "_law_fits", "_law_classes", "_law_worth", "_law_assign", "_law_branch", "_law_block", "_law_program", "_law_any_stand", "_law_raised", "_law_any_program", "_law_any_row", "law"]
  meths := [("Looker", "need_classes"), ("Looker", "need_sizes"), ("Looker", "is_part"), ("Looker", "is_row"), ("Looker", "is_handler"), ("Looker", "need_rows")]
  makes := ["Looker"]
  flds := ["boxes", "classes", "handlers", "number", "params", "part", "room", "rows"]
  blt := [sOf "len", sOf "isinstance", sOf "int", sOf "bool", sOf "str", sOf "tuple", sOf "list", sOf "range", sOf "zip", sOf "enumerate", sOf "max", sOf "min", sOf "sorted"]
def lw : Law where
  g := gm
  G := gd
  U := up
  Pr := prog
  defs := [df_is_whole, df_is_field, df_is_class, df_Looker___init__, df_Looker_need_classes, df_Looker_need_sizes, df_Looker_is_part, df_Looker_is_row, df_Looker_is_handler, df_Looker_need_rows, df_is_new, df_need_program, df_is_sort, df_is_stand, df_is_thing, df_is_below, df_common, df_is_fit, df_joined, df_stand_fits, df_stands_joined, df_need_stands, df_fits, df_met, df__law_taken, df__law_below, df__law_news, df__law_atoms, df__law_sorts, df__law_fits, df__law_classes, df__law_worth, df__law_assign, df__law_branch, df__law_block, df__law_program, df__law_any_stand, df__law_raised, df__law_any_program, df__law_any_row, df_law]
  clss := ["Looker"]
  dics := ["FORMS"]
theorem cdf_is_whole : dfB gm df_is_whole = true := by kernel_rfl
theorem cdf_is_field : dfB gm df_is_field = true := by kernel_rfl
theorem cdf_is_class : dfB gm df_is_class = true := by kernel_rfl
theorem cdf_Looker___init__ : dfB gm df_Looker___init__ = true := by kernel_rfl
theorem cdf_Looker_need_classes : dfB gm df_Looker_need_classes = true := by kernel_rfl
theorem cdf_Looker_need_sizes : dfB gm df_Looker_need_sizes = true := by kernel_rfl
theorem cdf_Looker_is_part : dfB gm df_Looker_is_part = true := by kernel_rfl
theorem cdf_Looker_is_row : dfB gm df_Looker_is_row = true := by kernel_rfl
theorem cdf_Looker_is_handler : dfB gm df_Looker_is_handler = true := by kernel_rfl
theorem cdf_Looker_need_rows : dfB gm df_Looker_need_rows = true := by kernel_rfl
theorem cdf_is_new : dfB gm df_is_new = true := by kernel_rfl
theorem cdf_need_program : dfB gm df_need_program = true := by kernel_rfl
theorem cdf_is_sort : dfB gm df_is_sort = true := by kernel_rfl
theorem cdf_is_stand : dfB gm df_is_stand = true := by kernel_rfl
theorem cdf_is_thing : dfB gm df_is_thing = true := by kernel_rfl
theorem cdf_is_below : dfB gm df_is_below = true := by kernel_rfl
theorem cdf_common : dfB gm df_common = true := by kernel_rfl
theorem cdf_is_fit : dfB gm df_is_fit = true := by kernel_rfl
theorem cdf_joined : dfB gm df_joined = true := by kernel_rfl
theorem cdf_stand_fits : dfB gm df_stand_fits = true := by kernel_rfl
theorem cdf_stands_joined : dfB gm df_stands_joined = true := by kernel_rfl
theorem cdf_need_stands : dfB gm df_need_stands = true := by kernel_rfl
theorem cdf_fits : dfB gm df_fits = true := by kernel_rfl
theorem cdf_met : dfB gm df_met = true := by kernel_rfl
theorem cdf__law_taken : dfB gm df__law_taken = true := by kernel_rfl
theorem cdf__law_below : dfB gm df__law_below = true := by kernel_rfl
theorem cdf__law_news : dfB gm df__law_news = true := by kernel_rfl
theorem cdf__law_atoms : dfB gm df__law_atoms = true := by kernel_rfl
theorem cdf__law_sorts : dfB gm df__law_sorts = true := by kernel_rfl
theorem cdf__law_fits : dfB gm df__law_fits = true := by kernel_rfl
theorem cdf__law_classes : dfB gm df__law_classes = true := by kernel_rfl
theorem cdf__law_worth : dfB gm df__law_worth = true := by kernel_rfl
theorem cdf__law_assign : dfB gm df__law_assign = true := by kernel_rfl
theorem cdf__law_branch : dfB gm df__law_branch = true := by kernel_rfl
theorem cdf__law_block : dfB gm df__law_block = true := by kernel_rfl
theorem cdf__law_program : dfB gm df__law_program = true := by kernel_rfl
theorem cdf__law_any_stand : dfB gm df__law_any_stand = true := by kernel_rfl
theorem cdf__law_raised : dfB gm df__law_raised = true := by kernel_rfl
theorem cdf__law_any_program : dfB gm df__law_any_program = true := by kernel_rfl
theorem cdf__law_any_row : dfB gm df__law_any_row = true := by kernel_rfl
theorem cdf_law : dfB gm df_law = true := by kernel_rfl
theorem df_ok : lw.defs.all (dfB lw.g) = true := by
  simp only [lw, List.all_cons, List.all_nil, cdf_is_whole, cdf_is_field, cdf_is_class, cdf_Looker___init__, cdf_Looker_need_classes, cdf_Looker_need_sizes, cdf_Looker_is_part, cdf_Looker_is_row, cdf_Looker_is_handler, cdf_Looker_need_rows, cdf_is_new, cdf_need_program, cdf_is_sort, cdf_is_stand, cdf_is_thing, cdf_is_below, cdf_common, cdf_is_fit, cdf_joined, cdf_stand_fits, cdf_stands_joined, cdf_need_stands, cdf_fits, cdf_met, cdf__law_taken, cdf__law_below, cdf__law_news, cdf__law_atoms, cdf__law_sorts, cdf__law_fits, cdf__law_classes, cdf__law_worth, cdf__law_assign, cdf__law_branch, cdf__law_block, cdf__law_program, cdf__law_any_stand, cdf__law_raised, cdf__law_any_program, cdf__law_any_row, cdf_law, Bool.and_self]
theorem lk_ok : linkB lw = true := by kernel_rfl
theorem bd_ok : Each BindOk lw.defs := ⟨bf_is_whole, bf_is_field, bf_is_class, bf_Looker___init__, bf_Looker_need_classes, bf_Looker_need_sizes, bf_Looker_is_part, bf_Looker_is_row, bf_Looker_is_handler, bf_Looker_need_rows, bf_is_new, bf_need_program, bf_is_sort, bf_is_stand, bf_is_thing, bf_is_below, bf_common, bf_is_fit, bf_joined, bf_stand_fits, bf_stands_joined, bf_need_stands, bf_fits, bf_met, bf__law_taken, bf__law_below, bf__law_news, bf__law_atoms, bf__law_sorts, bf__law_fits, bf__law_classes, bf__law_worth, bf__law_assign, bf__law_branch, bf__law_block, bf__law_program, bf__law_any_stand, bf__law_raised, bf__law_any_program, bf__law_any_row, bf_law, trivial⟩
theorem pr_ok : Each (fun D => lw.Pr D.f = some D.d) lw.defs := ⟨(by kernel_rfl), (by kernel_rfl), (by kernel_rfl), (by kernel_rfl), (by kernel_rfl), (by kernel_rfl), (by kernel_rfl), (by kernel_rfl), (by kernel_rfl), (by kernel_rfl), (by kernel_rfl), (by kernel_rfl), (by kernel_rfl), (by kernel_rfl), (by kernel_rfl), (by kernel_rfl), (by kernel_rfl), (by kernel_rfl), (by kernel_rfl), (by kernel_rfl), (by kernel_rfl), (by kernel_rfl), (by kernel_rfl), (by kernel_rfl), (by kernel_rfl), (by kernel_rfl), (by kernel_rfl), (by kernel_rfl), (by kernel_rfl), (by kernel_rfl), (by kernel_rfl), (by kernel_rfl), (by kernel_rfl), (by kernel_rfl), (by kernel_rfl), (by kernel_rfl), (by kernel_rfl), (by kernel_rfl), (by kernel_rfl), (by kernel_rfl), (by kernel_rfl), trivial⟩
theorem ok : LawOk lw := ⟨df_ok, lk_ok, bd_ok, pr_ok⟩
end K04

set_option linter.all false
set_option maxRecDepth 100000
set_option maxHeartbeats 4000000
namespace K04
open MG
def F : List String := ["BadProgram.__init__", "is_whole", "is_field", "is_class", "Looker.__init__", "Looker.need_classes", "Looker.need_sizes", "Looker.is_part", "Looker.is_row", "Looker.is_handler", "Looker.need_rows", "is_new", "need_program", "is_sort", "is_stand", "is_thing", "is_below", "common", "is_fit", "joined", "stand_fits", "stands_joined", "need_stands", "fits", "met", "_law_taken", "_law_below", "_law_news", "_law_atoms", "_law_sorts", "_law_fits", "_law_classes", "_law_worth", "_law_assign", "_law_branch", "_law_block", "_law_program", "_law_any_stand", "_law_raised", "_law_any_program", "_law_any_row"]
theorem hF : ∀ f ∈ F, prog f = MP.LIB f := by
  intro f hf
  simp only [F, List.mem_cons, List.not_mem_nil, or_false] at hf
  rcases hf with rfl | rfl | rfl | rfl | rfl | rfl | rfl | rfl | rfl | rfl | rfl | rfl | rfl | rfl | rfl | rfl | rfl | rfl | rfl | rfl | rfl | rfl | rfl | rfl | rfl | rfl | rfl | rfl | rfl | rfl | rfl | rfl | rfl | rfl | rfl | rfl | rfl | rfl | rfl | rfl | rfl
  all_goals rfl
theorem hcl : MG.closedB F MP.LIB = true := by kernel_rfl
theorem agree (n : Nat) (f : String) (h : F.contains f = true) (args : List D) (st : Store) : callN gd up prog n f args st = callN gd up MP.LIB n f args st := by
  rw [MG.callN_agree hF hcl n f h]
def fuel : Nat := 100
theorem core : ∀ ns : List Int, ns.length ≤ 63 → ∃ st, callN lw.G lw.U lw.Pr fuel "law" [.scr ns] [] = .ok (.bl true) st := by
  intro ns _
  have h := MP.law04 (G := gd) (U := up) (P := prog) (n := 79) rfl rfl (fun f hf args st => agree 99 f (by
    simp only [MP.NM4, List.mem_cons, List.not_mem_nil, or_false] at hf
    rcases hf with rfl | rfl | rfl | rfl | rfl | rfl <;> decide) args st) ns
  have h : WP (callN lw.G lw.U lw.Pr fuel "law" [.scr ns] []) (fun v st => v = .bl true) fun _ _ => False := h
  cases e : callN lw.G lw.U lw.Pr fuel "law" [.scr ns] [] with
  | ok v st => rw [e] at h; have h : v = .bl true := h; exact ⟨st, by rw [h]⟩
  | err x st => rw [e] at h; exact h.elim
  | bad => rw [e] at h; exact h.elim
end K04

set_option Elab.async false
set_option linter.all false
set_option maxRecDepth 100000
set_option maxHeartbeats 0
namespace K04
open PySem PySem.Spec PyProof.Rows L2 MGS
def loose0 : List PySem.Str := [PySem.Str.ofString "MapError", PySem.Str.ofString "BadProgram", PySem.Str.ofString "BadStand", PySem.Str.ofString "MOST_CLASSES", PySem.Str.ofString "MOST_FIELDS", PySem.Str.ofString "MOST_PARAMS", PySem.Str.ofString "MOST_BOXES", PySem.Str.ofString "MOST_ROOM", PySem.Str.ofString "MOST_ROWS", PySem.Str.ofString "MOST_HANDLERS", PySem.Str.ofString "MOST_WORTH", PySem.Str.ofString "NUMBER", PySem.Str.ofString "FORMS", PySem.Str.ofString "is_whole", PySem.Str.ofString "is_field", PySem.Str.ofString "is_class", PySem.Str.ofString "Looker", PySem.Str.ofString "is_new", PySem.Str.ofString "need_program", PySem.Str.ofString "NONE", PySem.Str.ofString "ANY", PySem.Str.ofString "UNSET", PySem.Str.ofString "OF", PySem.Str.ofString "UNBORN", PySem.Str.ofString "is_sort", PySem.Str.ofString "is_stand", PySem.Str.ofString "is_thing", PySem.Str.ofString "is_below", PySem.Str.ofString "common", PySem.Str.ofString "is_fit"]
def loose1 : List PySem.Str := [PySem.Str.ofString "joined", PySem.Str.ofString "stand_fits", PySem.Str.ofString "stands_joined", PySem.Str.ofString "need_stands", PySem.Str.ofString "fits", PySem.Str.ofString "met", PySem.Str.ofString "_law_taken", PySem.Str.ofString "_law_below", PySem.Str.ofString "_law_news", PySem.Str.ofString "_law_atoms", PySem.Str.ofString "_law_sorts", PySem.Str.ofString "_law_fits", PySem.Str.ofString "_law_classes", PySem.Str.ofString "_law_worth", PySem.Str.ofString "_law_assign", PySem.Str.ofString "_law_branch", PySem.Str.ofString "_law_block", PySem.Str.ofString "_law_program", PySem.Str.ofString "_law_any_stand", PySem.Str.ofString "_law_raised", PySem.Str.ofString "_law_any_program", PySem.Str.ofString "_law_any_row"]
def loose : List PySem.Str := loose0 ++ loose1
abbrev R : PySem.W.OpenRow := PySem.W.OpenLaw.row PySem.Challenge.rw_mapguard_k04_whole_met_is_least
abbrev hk : PySem.W.Hook := He.hookX 5 [] lw.fn lw.tabs [] (exB lw)
def ob (s : PySem.W.SharedT) : He.AlX := He.obsX 5 [] lw.fn lw.tabs [] (exB lw) (HandSHeadRun.getT s)
theorem ob_eq (s : PySem.W.SharedT) : ob s = hk.obs s.abs := He.obsX_eq (HandSHeadRun.getT_eq s)
theorem run_false (w : World) : HandSHeadRun.RunEq R (PySem.W.view R.prog [56]) hk ob 4000 loose (w.withFollow "special-get-raises" false) := fun os => by kernel_rfl
theorem run_true (w : World) : HandSHeadRun.RunEq R (PySem.W.view R.prog [56]) hk ob 4000 loose (w.withFollow "special-get-raises" true) := fun os => by kernel_rfl
theorem run (w : World) : HandSHeadRun.RunEq R (PySem.W.view R.prog [56]) hk ob 4000 loose w :=
  PySem.W.byRow2 "special-get-raises" (P := fun w => HandSHeadRun.RunEq R (PySem.W.view R.prog [56]) hk ob 4000 loose w) run_false run_true w
end K04
open PySem PySem.W PySem.Calls PyProof.Rows
theorem PySem.Challenge.cw_mapguard_k04_whole_met_is_least_holds : PySem.Challenge.rw_mapguard_k04_whole_met_is_least.Holds := by
  w_on; o_law
  refine HandSHeadRun.head_any (r := OpenLaw.row PySem.Challenge.rw_mapguard_k04_whole_met_is_least) (q := view (OpenLaw.row PySem.Challenge.rw_mapguard_k04_whole_met_is_least).prog [56]) (H := K04.hk) (ob := K04.ob) (M := 4000) (loose := K04.loose) (d := HandSHeadRun.topDef (OpenLaw.row PySem.Challenge.rw_mapguard_k04_whole_met_is_least).prog 56) (kwd := []) K04.ob_eq
    (by kernel_rfl) (fun s => by kernel_rfl) K04.run (by kernel_rfl) (by kernel_rfl) (by kernel_rfl) (by rfl) (by first | assumption | decide +kernel) (by decide +kernel) ⟨rfl, rfl, rfl, rfl, rfl, by decide +kernel⟩ ?hw ?hc
  case hw => w_witness2
  case hc =>
    refine L2.walk_ofE (l := PySem.Challenge.rw_mapguard_k04_whole_met_is_least) (n := 63) (k := 2 * K04.fuel) (x := "_law_script") (CX := MGS.CXA PySem.Challenge.rw_mapguard_k04_whole_met_is_least.prog) rfl (by decide) (by kernel_rfl) ⟨rfl, by decide, by decide⟩ ?F ?X
    case X =>
      rintro H s e s' ⟨w, _, _, _, _, _, _, _, _, _, _, _, _, z⟩
      exact z
    case F =>
      intro w mg fa h Y G hmg0
      obtain ⟨K, KX, c⟩ := Y
      have hmg : mg ("law" : PySem.Str) = some (.ref fa) := by
        have e : (HandSHeadRun.topDef (OpenLaw.row PySem.Challenge.rw_mapguard_k04_whole_met_is_least).prog 56).name = ("law" : PySem.Str) := by kernel_rfl
        rw [← e]
        exact hmg0
      obtain ⟨fd, sp, hb, hs, hF⟩ := MGS.law_of (P := PySem.Challenge.rw_mapguard_k04_whole_met_is_least.prog) (w := w) K04.ok (n := K04.fuel) (D := K04.df_law) (p := "_law_script") (by simp [K04.lw]) rfl rfl rfl K04.core KX G hmg c (by simp [K04.lw, K04.gm])
      exact ⟨K, fd, sp, KX, hb, hs, fun base h1 h2 => MGS.fn_any (hF base h1 h2)⟩
