import PyProof.Rows.All
import Wide.All
import OpenK.AllK
import Wide.FinOn
import HandS.ForMost
import HandS.ForExc
import HandS.Deep
import HandS.IsInst
import HandS.Wide
import HandS.TupAny
import HandS.Flow
import HandS.Style
import HandS.Zip
import HandS.Rev
import HandS.Conv
import HandS.Defaults
import HandS.EndBits
import HandS.Walk
import HandS.Comp
import HandS.Exc
import HandS.ExcOwn
import HandS.TupMul
import HandS.Small
import HandS.TupLe
import PyProof.Rows.RuleB_bool
import HandS.Text
import HandS.WordsDict
import HandS.WideMore
import HandS.ExcIs
import HandS.TryMany
import HandS.WordsExc
import HandS.HeadEnd
import KE.KStateDown
import Lean
import HandS.Head0
import HandS.Head1
import HandS.Head2
import HandS.HeadHook1
import HandS.HeadHook2
import PyProof.ExcBaseAll.ValueError
import PySem.Challenge.RW_ladderofone_k38_across_sayings_put_on_ag
/-! A clean interpreter for the part of Python that the program uses: values without addresses (but for what is changed), my own syntax, an evaluator. -/
namespace Lad

inductive D where
  | non | bl (b : Bool) | int (i : Int) | str (x : List Nat) | tup (ds : List D) | lst (ds : List D)
  | scr (ns : List Int) | ref (i : Nat) | fn (f : Nat) | kd (k : Nat) | exc (c : Nat) (a : Option Int)
deriving Inhabited

abbrev Ky := Sum Int (List Nat)

inductive MO where
  | lst (ds : List D)
  | dct (kvs : List (Ky × D))
  | ins (c : Nat) (fs : List (Nat × D))
deriving Inhabited

abbrev Hc := List MO
abbrev Env := List (Option D)

structure Xn where
  cls : Nat
  arg : Option Int
deriving DecidableEq

inductive Rs (α : Type) where
  | fail
  | ok (a : α) (h : Hc)
  | ex (x : Xn) (h : Hc)

@[simp] def Rs.bind {α β : Type} : Rs α → (α → Hc → Rs β) → Rs β
  | .fail, _ => .fail
  | .ok a h, f => f a h
  | .ex x h, _ => .ex x h

inductive Fl where
  | fail
  | next (env : Env) (h : Hc)
  | ret (d : D) (h : Hc)
  | brk (env : Env) (h : Hc)
  | cont (env : Env) (h : Hc)
  | ex (x : Xn) (env : Env) (h : Hc)

@[simp] def Rs.toFl {α : Type} (env : Env) : Rs α → (α → Hc → Fl) → Fl
  | .fail, _ => .fail
  | .ok a h, f => f a h
  | .ex x h, _ => .ex x env h

/-- a suite raises nothing -/
def Fl.nox : Fl → Fl
  | .ex _ _ _ => .fail
  | r => r
/-- a suite's name goes -/
def Fl.drop (i : Nat) : Fl → Fl
  | .next env h => .next (env.set i none) h
  | .brk env h => .brk (env.set i none) h
  | .cont env h => .cont (env.set i none) h
  | r => r

/-! ### equality -/
mutual
def D.beq : D → D → Bool
  | .non, .non => true
  | .bl a, .bl b => a == b
  | .int a, .int b => a == b
  | .str a, .str b => a == b
  | .tup a, .tup b => D.beqs a b
  | .lst a, .lst b => D.beqs a b
  | .scr a, .scr b => a == b
  | .ref a, .ref b => a == b
  | .fn a, .fn b => a == b
  | .kd a, .kd b => a == b
  | .exc a x, .exc b y => a == b && x == y
  | _, _ => false
def D.beqs : List D → List D → Bool
  | [], [] => true
  | x :: xs, y :: ys => D.beq x y && D.beqs xs ys
  | _, _ => false
end

/-! Python's == of data -/
def b2i (b : Bool) : Int := if b then 1 else 0
mutual
def D.eqv : D → D → Bool
  | .non, .non => true
  | .bl a, .bl b => a == b
  | .bl a, .int j => b2i a == j
  | .int i, .bl b => i == b2i b
  | .int a, .int b => a == b
  | .str a, .str b => a == b
  | .tup a, .tup b => D.eqvs a b
  | .lst a, .lst b => D.eqvs a b
  | _, _ => false
def D.eqvs : List D → List D → Bool
  | [], [] => true
  | x :: xs, y :: ys => D.eqv x y && D.eqvs xs ys
  | _, _ => false
end
/-! data: None, bools, ints, texts, tuples and lists of these -/
mutual
def D.data : D → Bool
  | .non => true
  | .bl _ => true
  | .int _ => true
  | .str x => x.all fun c => decide (c < 1114112)
  | .tup ds => D.datas ds
  | .lst ds => D.datas ds
  | _ => false
def D.datas : List D → Bool
  | [] => true
  | x :: xs => D.data x && D.datas xs
end
/-! no reference in it -/
mutual
def D.pure : D → Bool
  | .ref _ => false
  | .tup ds => D.pures ds
  | .lst ds => D.pures ds
  | _ => true
def D.pures : List D → Bool
  | [] => true
  | x :: xs => D.pure x && D.pures xs
end
mutual
def D.depth : D → Nat
  | .tup ds => D.depths ds + 1
  | .lst ds => D.depths ds + 1
  | _ => 0
def D.depths : List D → Nat
  | [] => 0
  | x :: xs => max (D.depth x) (D.depths xs)
end

def MO.pure : MO → Bool
  | .lst ds => D.pures ds
  | .dct kvs => kvs.all fun p => p.2.pure
  | .ins _ fs => fs.all fun p => p.2.pure
def kvBeq : List (Ky × D) → List (Ky × D) → Bool
  | [], [] => true
  | x :: xs, y :: ys => decide (x.1 = y.1) && D.beq x.2 y.2 && kvBeq xs ys
  | _, _ => false
def fsBeq : List (Nat × D) → List (Nat × D) → Bool
  | [], [] => true
  | x :: xs, y :: ys => decide (x.1 = y.1) && D.beq x.2 y.2 && fsBeq xs ys
  | _, _ => false
def MO.beq : MO → MO → Bool
  | .lst a, .lst b => D.beqs a b
  | .dct a, .dct b => kvBeq a b
  | .ins c a, .ins d b => c == d && fsBeq a b
  | _, _ => false
/-- what stood is as it was, or holds no reference -/
def gcOk : Hc → Hc → Bool
  | [], _ => true
  | _ :: _, [] => false
  | x :: xs, y :: ys => (MO.beq x y || y.pure) && gcOk xs ys

/-! ### operators -/
inductive Bop where | add | sub | mul | fdiv | mod | pow
deriving DecidableEq
inductive Cop where | eq | ne | lt | le | gt | ge | is | isnt | mem | nmem
deriving DecidableEq
inductive Ty where | int | bool | str | list | tuple | valueError | lookupError | own (c : Nat)
deriving DecidableEq
inductive BI where
  | len | abs | int | str | tuple | list | all | any | sum | max2 | min2 | maxL | sorted | dict | tupRange | listRev
deriving DecidableEq
inductive Mt where
  | append | extend | pop | popAt | index | dget | dget2 | dpop2 | dupdate | join | split | splitW | count
deriving DecidableEq

@[simp] def Rs.opt : Option D → Hc → Rs D
  | some d, h => .ok d h
  | none, _ => .fail
@[simp] def Rs.opt2 : Option (D × Hc) → Rs D
  | some p => .ok p.1 p.2
  | none => .fail
@[simp] def Rs.optU : Option Hc → Rs Unit
  | some h => .ok () h
  | none => .fail

def small (i : Int) : Bool := decide (i.natAbs < 18446744073709551616)
def sizeMax : Nat := 1000000

/-- a list or tuple: its items -/
def items? (h : Hc) : D → Option (List D)
  | .tup ds => some ds
  | .lst ds => some ds
  | .ref i => match h[i]? with
    | some (.lst ds) => some ds
    | _ => none
  | _ => none
def isTup : D → Bool
  | .tup _ => true
  | _ => false
/-- a list (not a tuple) -/
def listOf? (h : Hc) : D → Option (List D)
  | .lst ds => some ds
  | .ref i => match h[i]? with
    | some (.lst ds) => some ds
    | _ => none
  | _ => none
/-- for ==: a changeable list as a list -/
def deref (h : Hc) : D → D
  | .ref i => match h[i]? with
    | some (.lst ds) => .lst ds
    | _ => .ref i
  | d => d

def binD : Bop → D → D → Option D
  | .add, .int i, .int j => some (.int (i + j))
  | .add, .tup a, .tup b => if a.length + b.length ≤ sizeMax then some (.tup (a ++ b)) else none
  | .add, .lst a, .lst b => if a.length + b.length ≤ sizeMax then some (.lst (a ++ b)) else none
  | .add, .str a, .str b => if a.length + b.length ≤ sizeMax then some (.str (a ++ b)) else none
  | .sub, .int i, .int j => some (.int (i - j))
  | .mul, .int i, .int j => if small i || small j then some (.int (i * j)) else none
  | .mul, .lst a, .int k => if -1000 < k && k < 1000 && a.length ≤ 1000 then some (.lst (List.replicate k.toNat a).flatten) else none
  | .mul, .tup a, .int k => if 2 ≤ k && k ≤ 1000 && !a.isEmpty && a.length ≤ 1000 then some (.tup (List.replicate k.toNat a).flatten) else none
  | .fdiv, .int i, .int j => if 0 < j && small j then some (.int (i / j)) else none
  | .mod, .int i, .int j => if 0 < j then some (.int (i % j)) else none
  | .pow, .int i, .int j => if 0 ≤ j && j ≤ 1000 && small i then some (.int (i ^ j.toNat)) else none
  | _, _, _ => none

/-- op= of ints and texts -/
def augD (op : Bop) : D → D → Option D
  | .int i, .int j => if op = .pow then none else binD op (.int i) (.int j)
  | .str a, .str b => if op = .add then binD op (.str a) (.str b) else none
  | _, _ => none
/-! < of ints, bools, tuples of such: none where it is none of these -/
mutual
def D.lt : D → D → Option Bool
  | .int i, .int j => some (decide (i < j))
  | .bl a, .bl b => some (!a && b)
  | .tup a, .tup b => D.lts a b
  | _, _ => none
def D.lts : List D → List D → Option Bool
  | [], [] => some false
  | [], _ :: _ => some true
  | _ :: _, [] => some false
  | x :: xs, y :: ys => if D.eqv x y then D.lts xs ys else D.lt x y
end

def keyOf : D → Option Ky
  | .int i => some (.inl i)
  | .str x => some (.inr x)
  | _ => none
def kyD : Ky → D
  | .inl i => .int i
  | .inr x => .str x
def kvGet : List (Ky × D) → Ky → Option D
  | [], _ => none
  | (k, v) :: r, q => if k = q then some v else kvGet r q
def kvPut (kvs : List (Ky × D)) (q : Ky) (v : D) : List (Ky × D) :=
  if kvs.any fun p => decide (p.1 = q) then kvs.map fun p => if p.1 = q then (p.1, v) else p else kvs ++ [(q, v)]
def kvDrop (kvs : List (Ky × D)) (q : Ky) : List (Ky × D) := kvs.filter fun p => decide (p.1 ≠ q)

/-- one sign in a text -/
def isSub (a b : List Nat) : Option Bool := match a with
  | [c] => some (b.contains c)
  | _ => none

def strIn (a : D) (x : List Nat) : Option Bool := match a with
  | .str y => isSub y x
  | _ => none
def inD (a : D) (ds : List D) : Option Bool := if a.data && D.datas ds && decide (min (D.depths ds) a.depth ≤ 64) then some (ds.any fun z => D.eqv z a) else none
def memD (h : Hc) (a b : D) : Option Bool := match b with
  | .ref i => match h[i]? with
    | some (.dct kvs) => (keyOf a).map fun k => (kvGet kvs k).isSome
    | some (.lst ds) => inD a ds
    | _ => none
  | .tup ds => inD a ds
  | .lst ds => inD a ds
  | .str x => strIn a x
  | _ => none

def isNon : D → Bool
  | .non => true
  | _ => false

def leD : D → D → Option D
  | .int i, .int j => some (.bl (decide (i ≤ j)))
  | .tup [.int i, .bl a], .tup [.int j, .bl b] => some (.bl (if i = j then !a || b else decide (i ≤ j)))
  | _, _ => none
def eqOk (x y : D) : Bool := x.data && y.data && decide (min x.depth y.depth ≤ 64)
def cmpD (op : Cop) (a b : D) (h : Hc) : Option D := match op with
  | .eq => if eqOk (deref h a) (deref h b) then some (.bl (D.eqv (deref h a) (deref h b))) else none
  | .ne => if eqOk (deref h a) (deref h b) then some (.bl (!D.eqv (deref h a) (deref h b))) else none
  | .lt => match a, b with
    | .int i, .int j => some (.bl (decide (i < j)))
    | _, _ => none
  | .gt => match a, b with
    | .int i, .int j => some (.bl (decide (j < i)))
    | _, _ => none
  | .le => leD a b
  | .ge => match a, b with
    | .int i, .int j => some (.bl (decide (j ≤ i)))
    | _, _ => none
  | .is => match b with
    | .non => some (.bl (isNon a))
    | _ => none
  | .isnt => match b with
    | .non => some (.bl (!isNon a))
    | _ => none
  | .mem => match memD h a b with
    | some t => some (.bl t)
    | none => none
  | .nmem => match memD h a b with
    | some t => some (.bl (!t))
    | none => none

def truthD (h : Hc) : D → Option Bool
  | .non => some false
  | .bl b => some b
  | .int i => some (i != 0)
  | .tup ds => some (!ds.isEmpty)
  | .lst ds => some (!ds.isEmpty)
  | .ref i => match h[i]? with
    | some (.lst ds) => some (!ds.isEmpty)
    | some (.dct kvs) => some (!kvs.isEmpty)
    | _ => none
  | _ => none

/-- the place of an index -/
def ixOf (n : Nat) (i : Int) : Option Nat := if 0 ≤ i then (if i < n then some i.toNat else none) else (if 0 ≤ i + n then some (i + n).toNat else none)
def getI {α : Type} (xs : List α) (i : Int) : Option α := (ixOf xs.length i).bind fun j => xs[j]?

def ixD (a b : D) (h : Hc) : Option D := match a, b with
  | .tup ds, .int i => match getI ds i with
    | some v => some v
    | none => none
  | .lst ds, .int i => match getI ds i with
    | some v => some v
    | none => none
  | .str x, .int i => if x.length ≤ sizeMax then (match getI x i with
    | some c => some (.str [c])
    | none => none) else none
  | .ref r, i => match h[r]? with
    | some (.lst ds) => match i with
      | .int i => match getI ds i with
        | some v => some v
        | none => none
      | _ => none
    | some (.dct kvs) => match (keyOf i).bind (kvGet kvs) with
      | some v => some v
      | none => none
    | _ => none
  | _, _ => none

/-- an end of a slice -/
def slIx (n dflt : Nat) : D → Option Nat
  | .non => some dflt
  | .int i => some (if 0 ≤ i then min i.toNat n else (i + n).toNat)
  | _ => none
def cut {α : Type} (xs : List α) (lo hi : Nat) : List α := (xs.drop lo).take (hi - lo)

def slD (a lo hi : D) (h : Hc) : Option D := match a with
  | .tup ds => match slIx ds.length 0 lo, slIx ds.length ds.length hi with
    | some i, some j => some (.tup (cut ds i j))
    | _, _ => none
  | .lst ds => match slIx ds.length 0 lo, slIx ds.length ds.length hi with
    | some i, some j => some (.lst (cut ds i j))
    | _, _ => none
  | .ref r => match h[r]? with
    | some (.lst ds) => match slIx ds.length 0 lo, slIx ds.length ds.length hi with
      | some i, some j => some (.lst (cut ds i j))
      | _, _ => none
    | _ => none
  | .scr ns => match slIx ns.length 0 lo, slIx ns.length ns.length hi with
    | some i, some j => some (.lst ((cut ns i j).map D.int))
    | _, _ => none
  | .str x => if x.length ≤ sizeMax then (match slIx x.length 0 lo, slIx x.length x.length hi with
    | some i, some j => some (.str (cut x i j))
    | _, _ => none) else none
  | _ => none

def isiD (h : Hc) (d : D) : Ty → Option Bool := fun t => match d with
  | .non => some false
  | .bl _ => some (t == .int || t == .bool)
  | .int _ => some (t == .int)
  | .str _ => some (t == .str)
  | .tup _ => some (t == .tuple)
  | .lst _ => some (t == .list)
  | .ref r => match h[r]? with
    | some (.lst _) => some (t == .list)
    | _ => none
  | .exc c _ => match t with
    | .valueError => some (c < 4)
    | .lookupError => some (c == 4)
    | _ => none
  | _ => none
def isiAny (h : Hc) (d : D) : List Ty → Option Bool
  | [] => some false
  | t :: ts => match isiD h d t with
    | some true => some true
    | some false => isiAny h d ts
    | none => none

def allTruth (h : Hc) : List D → Option Bool
  | [] => some true
  | .bl b :: xs => (allTruth h xs).map (b && ·)
  | _ :: _ => none

/-- a stable sort -/
def insD (x : D) : List D → Option (List D)
  | [] => some [x]
  | y :: ys => match D.lt x y with
    | some true => some (x :: y :: ys)
    | some false => (insD x ys).map (y :: ·)
    | none => none
def sortD : List D → Option (List D)
  | [] => some []
  | x :: xs => (sortD xs).bind (insR x)
where
  /-- x stands ahead of what is not less -/
  insR (x : D) : List D → Option (List D)
    | [] => some [x]
    | y :: ys => match D.lt y x with
      | some true => (insR x ys).map (y :: ·)
      | some false => some (x :: y :: ys)
      | none => none
/-! sorts by one kind: ints; tuples whose items are such -/
mutual
def sameKind : D → D → Bool
  | .int _, .int _ => true
  | .tup a, .tup b => sameKinds a b
  | _, _ => false
def sameKinds : List D → List D → Bool
  | [], _ => true
  | _, [] => true
  | x :: xs, y :: ys => sameKind x y && sameKinds xs ys
end

def pairsOf : List D → Option (List (Ky × D))
  | [] => some []
  | .tup [k, v] :: r => match keyOf k, pairsOf r with
    | some q, some l => some ((q, v) :: l)
    | _, _ => none
  | _ :: _ => none
def kvPutAll (kvs : List (Ky × D)) : List (Ky × D) → List (Ky × D)
  | [] => kvs
  | p :: r => kvPutAll (kvPut kvs p.1 p.2) r

def sumD : List D → Option Int
  | [] => some 0
  | .int i :: r => (sumD r).map (i + ·)
  | _ :: _ => none
def maxFrom (m : Int) : List D → Option Int
  | [] => some m
  | .int i :: r => maxFrom (if m < i then i else m) r
  | _ :: _ => none

def rangeD (lo : Int) : Nat → List D
  | 0 => []
  | n + 1 => .int lo :: rangeD (lo + 1) n
def inRange (i : Int) : Bool := decide (-4000000000 ≤ i) && decide (i ≤ 4000000000)

def digits (n : Nat) : List Nat := (toString n).toList.map Char.toNat

def lenD (h : Hc) : D → Option Nat
  | .str x => if x.length ≤ sizeMax then some x.length else none
  | .scr ns => some ns.length
  | .tup ds => some ds.length
  | .lst ds => some ds.length
  | .ref r => match h[r]? with
    | some (.lst ds) => some ds.length
    | some (.dct kvs) => some kvs.length
    | _ => none
  | _ => none
/-- what list(..), sorted(..) take: a dict's keys too -/
def itemsK? (h : Hc) : D → Option (List D)
  | .tup ds => some ds
  | .lst ds => some ds
  | .ref i => match h[i]? with
    | some (.lst ds) => some ds
    | some (.dct kvs) => some (kvs.map fun p => kyD p.1)
    | _ => none
  | _ => none
def absD : D → Option D
  | .int i => some (.int i.natAbs)
  | _ => none
def intD : D → Option D
  | .int i => some (.int i)
  | .bl b => some (.int (b2i b))
  | _ => none
def strD : D → Option D
  | .int i => if small i then some (.str ((toString i).toList.map Char.toNat)) else none
  | _ => none
def maxLD : List D → Option D
  | .int i :: r => (maxFrom i r).map D.int
  | _ => none
def max2D : D → D → Option D
  | .int i, .int j => some (.int (if j > i then j else i))
  | _, _ => none
def min2D : D → D → Option D
  | .int i, .int j => some (.int (if j < i then j else i))
  | _, _ => none
def tupRangeD : D → Option D
  | .int n => if inRange n then some (.tup (rangeD 0 n.toNat)) else none
  | _ => none
def keep (h : Hc) (o : Option D) : Option (D × Hc) := o.map fun d => (d, h)

def biD (b : BI) (ds : List D) (h : Hc) : Option (D × Hc) := match b, ds with
  | .len, [d] => keep h ((lenD h d).map fun (n : Nat) => .int n)
  | .abs, [d] => keep h (absD d)
  | .int, [d] => keep h (intD d)
  | .str, [d] => keep h (strD d)
  | .tuple, [d] => keep h ((items? h d).map .tup)
  | .list, [d] => keep h ((itemsK? h d).map .lst)
  | .all, [d] => keep h (((listOf? h d).bind (allTruth h)).map .bl)
  | .sum, [d] => keep h (((listOf? h d).bind sumD).map .int)
  | .max2, [a, b] => keep h (max2D a b)
  | .min2, [a, b] => keep h (min2D a b)
  | .maxL, [d] => keep h ((listOf? h d).bind maxLD)
  | .sorted, [d] => keep h (((itemsK? h d).bind sortD).map .lst)
  | .dict, [d] => ((listOf? h d).bind pairsOf).map fun l => (.ref h.length, h ++ [.dct (kvPutAll [] l)])
  | .tupRange, [d] => keep h (tupRangeD d)
  | _, _ => none

def firstIx (x : D) : List D → Option Nat
  | [] => none
  | y :: ys => if D.eqv y x then some 0 else (firstIx x ys).map (· + 1)

def extD (xs : List D) : D → Option (List D)
  | .lst ys => if xs.length + ys.length ≤ sizeMax then some (xs ++ ys) else none
  | _ => none
def methD (m : Mt) (a : D) (ds : List D) (h : Hc) : Option (D × Hc) := match m, a, ds with
  | .append, .ref r, [v] => match h[r]? with
    | some (.lst xs) => if xs.length < sizeMax then some (.non, (h.set r (.lst (xs ++ [v])))) else none
    | _ => none
  | .extend, .ref r, [d] => match h[r]? with
    | some (.lst xs) => (extD xs d).map fun l => (.non, h.set r (.lst l))
    | _ => none
  | .pop, .ref r, [] => match h[r]? with
    | some (.lst xs) => match xs.getLast? with
      | some y => some (y, (h.set r (.lst xs.dropLast)))
      | none => none
    | _ => none
  | .popAt, .ref r, [.int i] => match h[r]? with
    | some (.lst xs) => match ixOf xs.length i with
      | some k => match xs[k]? with
        | some y => some (y, (h.set r (.lst (xs.eraseIdx k))))
        | none => none
      | none => none
    | _ => none
  | .index, d, [x] => match items? h d with
    | some xs => if x.data && D.datas xs && decide (x.depth ≤ 60) && decide (D.depths xs ≤ 60) then (match firstIx x xs with
      | some k => some ((.int k), h)
      | none => none) else none
    | none => none
  | .dget, .ref r, [k] => match h[r]?, keyOf k with
    | some (.dct kvs), some q => some (((kvGet kvs q).getD .non), h)
    | _, _ => none
  | .dget2, .ref r, [k, d] => match h[r]?, keyOf k with
    | some (.dct kvs), some q => some (((kvGet kvs q).getD d), h)
    | _, _ => none
  | .dpop2, .ref r, [k, d] => match h[r]?, keyOf k with
    | some (.dct kvs), some q => match kvGet kvs q with
      | some v => some (v, (h.set r (.dct (kvDrop kvs q))))
      | none => some (d, h)
    | _, _ => none
  | .dupdate, .ref r, [.ref q] => match h[r]?, h[q]? with
    | some (.dct kvs), some (.dct l) => some (.non, (h.set r (.dct (kvPutAll kvs l))))
    | _, _ => none
  | _, _, _ => none

/-- whether a thing has such a method -/
def recvOk (m : Mt) (h : Hc) : D → Bool
  | .lst _ => m == .index || m == .count
  | .str _ => m == .join || m == .split || m == .splitW || m == .count
  | .ref i => match h[i]? with
    | some (.lst _) => m == .append || m == .extend || m == .pop || m == .popAt || m == .index
    | some (.dct _) => m == .dget || m == .dget2 || m == .dpop2 || m == .dupdate
    | _ => false
  | _ => false

/-- a store a[b] = v -/
def setD (a b v : D) (h : Hc) : Option Hc := match a with
  | .ref r => match h[r]? with
    | some (.lst xs) => match b with
      | .int i => match ixOf xs.length i with
        | some k => some (h.set r (.lst (xs.set k v)))
        | none => none
      | _ => none
    | some (.dct kvs) => match keyOf b with
      | some q => if kvs.length < sizeMax then some (h.set r (.dct (kvPut kvs q v))) else none
      | none => none
    | _ => none
  | _ => none

/-! ### the syntax -/
mutual
inductive E where
  | var (i : Nat)
  | c (d : D)
  | gl (k : Nat) (d : D)
  | tup (es : List E)
  | lst (es : List E)
  | nw (e : E)
  | disp (kvs : List E)
  | bin (op : Bop) (a b : E)
  | neg (a : E)
  | notE (a : E)
  | andE (es : List E)
  | orE (es : List E)
  | cmp (op : Cop) (a b : E)
  | chain (o1 o2 : Cop) (a b c : E)
  | ife (t : T) (a b : E)
  | ix (a b : E)
  | sl (a lo hi : E)
  | isi (a : E) (ts : List Ty)
  | line (a : E)
  | call (f : Nat) (es : List E)
  | callv (i : Nat) (es : List E)
  | bi (b : BI) (es : List E)
  | meth (m : Mt) (a : E) (es : List E)
  | lc (own : List Nat) (g : List Nat) (tp : Bool) (it : It) (ifs : List T) (e : E)
  | lc2 (own : List Nat) (g : Nat) (it : It) (g1 : Nat) (it1 : It) (e : E)
inductive T where
  | e (a : E)
  | not (t : T)
  | and (ts : List T)
  | or (ts : List T)
  | ife (t a b : T)
inductive It where
  | sq (e : E)
  | rng1 (a : E)
  | rng2 (a b : E)
  | zip (a b : E)
  | enum (a : E)
  | rev (a : E)
end

inductive G where
  | nm (i : Nat)
  | tp (is : List Nat)
  | ix (a b : E)

mutual
inductive S where
  | asg (g : G) (e : E)
  | aug (i : Nat) (op : Bop) (e : E)
  | augIx (a b : E) (op : Bop) (e : E)
  | ifs (t : T) (a b : List S)
  | whl (t : T) (b : List S)
  | forS (g : List Nat) (tp : Bool) (it : It) (b : List S)
  | ret (e : E)
  | ex (e : E)
  | raise (c : Nat) (a : Option E)
  | brk
  | pass
  | tryS (b : List S) (hs : List H)
inductive H where
  | mk (cs : List Nat) (i : Option Nat) (b : List S)
end

/-! ### the evaluator -/
abbrev CallT := Nat → List D → Hc → Rs D

def wipeD (env : Env) : List Nat → Env
  | [] => env
  | v :: vs => (wipeD env vs).set v none

/-- a loop's target: one name, or as many as the tuple has -/
def setAll : Env → List Nat → List D → Option Env
  | env, [], [] => some env
  | env, i :: is, d :: ds => setAll (env.set i (some d)) is ds
  | _, _, _ => none
def bindG (env : Env) (g : List Nat) (tp : Bool) (d : D) : Option Env := match tp, g, d with
  | false, [i], d => some (env.set i (some d))
  | true, is, .tup ds => setAll env is ds
  | _, _, _ => none

def zipD : List D → List D → List D
  | x :: xs, y :: ys => .tup [x, y] :: zipD xs ys
  | _, _ => []
def enumD (n : Int) : List D → List D
  | [] => []
  | x :: xs => .tup [.int n, x] :: enumD (n + 1) xs

def MO.obeq : Option MO → Option MO → Bool
  | some a, some b => MO.beq a b
  | _, _ => false
/-- the changeable lists that are walked stand as they stood -/
def still (h0 : Hc) : List Nat → Hc → Bool
  | [], _ => true
  | r :: rs, h => MO.obeq h0[r]? h[r]? && still h0 rs h
def refsOf : D → List Nat
  | .ref i => [i]
  | _ => []
/-- the comprehension's items, one by one -/
def lcGo (st : Hc → Bool) (f : D → Hc → Rs (Option D)) : List D → Hc → Rs (List D)
  | [], h => .ok [] h
  | x :: xs, h => (f x h).bind fun y h1 => if st h1 then (lcGo st f xs h1).bind fun ys h2 => .ok (match y with | some v => v :: ys | none => ys) h2 else .fail
def lcGo2 (st : Hc → Bool) (f : D → Hc → Rs (List D)) : List D → Hc → Rs (List D)
  | [], h => .ok [] h
  | x :: xs, h => (f x h).bind fun y h1 => if st h1 then (lcGo2 st f xs h1).bind fun ys h2 => .ok (y ++ ys) h2 else .fail
/-- in a comprehension nothing is raised -/
def Rs.nox {α : Type} : Rs α → Rs α
  | .ex _ _ => .fail
  | r => r

def isI : D → Bool
  | .int _ => true
  | _ => false
def noneE : E → Bool
  | .c .non => true
  | _ => false
/-- an end of a slice: not written, or an int -/
def isP (e : E) (d : D) (h : Hc) : Rs D := if noneE e || isI d then .ok d h else .fail

mutual
def ev (C : CallT) : E → Env → Hc → Rs D
  | .var i, env, h => match env[i]? with
    | some (some d) => .ok d h
    | _ => .fail
  | .c d, _, h => .ok d h
  | .gl _ d, _, h => .ok d h
  | .tup es, env, h => (evs C es env h).bind fun ds h1 => .ok (.tup ds) h1
  | .lst es, env, h => (evs C es env h).bind fun ds h1 => .ok (.lst ds) h1
  | .nw e, env, h => (ev C e env h).bind fun d h1 => match d with
    | .lst ds => .ok (.ref h1.length) (h1 ++ [.lst ds])
    | _ => .fail
  | .disp es, env, h => (evs C es env h).bind fun ds h1 => match dispKv ds with
    | some l => .ok (.ref h1.length) (h1 ++ [.dct (kvPutAll [] l)])
    | none => .fail
  | .bin op a b, env, h => (ev C a env h).bind fun x h1 => (ev C b env h1).bind fun y h2 => Rs.opt (binD op x y) h2
  | .neg a, env, h => (ev C a env h).bind fun x h1 => match x with
    | .int i => .ok (.int (-i)) h1
    | _ => .fail
  | .notE a, env, h => (ev C a env h).bind fun x h1 => match truthD h1 x with
    | some t => .ok (.bl (!t)) h1
    | none => .fail
  | .andE es, env, h => evAnd C es env h
  | .orE es, env, h => evOr C es env h
  | .cmp op a b, env, h => (ev C a env h).bind fun x h1 => (ev C b env h1).bind fun y h2 => Rs.opt (cmpD op x y h2) h2
  | .chain o1 o2 a b c, env, h => (ev C a env h).bind fun x h1 => (ev C b env h1).bind fun y h2 => (Rs.opt (cmpD o1 x y h2) h2).bind fun r h3 => match r with
    | .bl true => (ev C c env h3).bind fun z h4 => Rs.opt (cmpD o2 y z h4) h4
    | .bl false => .ok (.bl false) h3
    | _ => .fail
  | .ife t a b, env, h => (evT C t env h).bind fun k h1 => if k then ev C a env h1 else ev C b env h1
  | .ix a b, env, h => (ev C a env h).bind fun x h1 => (ev C b env h1).bind fun y h2 => Rs.opt (ixD x y h2) h2
  | .sl a lo hi, env, h => (ev C a env h).bind fun x h1 => ((ev C lo env h1).bind (isP lo)).bind fun i h2 => ((ev C hi env h2).bind (isP hi)).bind fun j h3 => Rs.opt (slD x i j h3) h3
  | .isi a ts, env, h => (ev C a env h).bind fun x h1 => match isiAny h1 x ts with
    | some t => .ok (.bl t) h1
    | none => .fail
  | .line a, env, h => (ev C a env h).bind fun x h1 => match x with
    | .exc _ (some i) => .ok (.int i) h1
    | _ => .fail
  | .call f es, env, h => (evs C es env h).bind fun ds h1 => C f ds h1
  | .callv i es, env, h => match env[i]? with
    | some (some (.fn f)) => (evs C es env h).bind fun ds h1 => C f ds h1
    | _ => .fail
  | .bi b es, env, h => (evs C es env h).bind fun ds h1 => Rs.opt2 (biD b ds h1)
  | .meth m a es, env, h => (ev C a env h).bind fun x h1 => if recvOk m h1 x then (evs C es env h1).bind fun ds h2 => Rs.opt2 (methD m x ds h2) else .fail
  | .lc own g tp it ifs e, env, h => (evIt C it env h).bind fun xs h1 =>
      ((lcGo (still h1 xs.2) (fun x h2 => match bindG (wipeD env own) g tp x with
        | some env2 => (evAll C ifs env2 h2).bind fun k h3 => if k then (ev C e env2 h3).bind fun v h4 => .ok (some v) h4 else .ok none h3
        | none => .fail) xs.1 h1).nox).bind fun ys h5 => if ys.length ≤ sizeMax then .ok (.lst ys) h5 else .fail
  | .lc2 own g it g1 it1 e, env, h => (evIt C it env h).bind fun xs h1 =>
      ((lcGo2 (still h1 xs.2) (fun x h2 => (evIt C it1 ((wipeD env own).set g (some x)) h2).bind fun zs h3 =>
        lcGo (still h3 zs.2) (fun z h4 => (ev C e (((wipeD env own).set g (some x)).set g1 (some z)) h4).bind fun v h5 => .ok (some v) h5) zs.1 h3) xs.1 h1).nox).bind fun ys h6 => if ys.length ≤ sizeMax then .ok (.lst ys) h6 else .fail
where
  dispKv : List D → Option (List (Ky × D))
    | [] => some []
    | k :: v :: r => match keyOf k, dispKv r with
      | some q, some l => some ((q, v) :: l)
      | _, _ => none
    | _ => none
def evs (C : CallT) : List E → Env → Hc → Rs (List D)
  | [], _, h => .ok [] h
  | e :: es, env, h => (ev C e env h).bind fun d h1 => (evs C es env h1).bind fun ds h2 => .ok (d :: ds) h2
def evAnd (C : CallT) : List E → Env → Hc → Rs D
  | [], _, _ => .fail
  | [e], env, h => ev C e env h
  | e :: es, env, h => (ev C e env h).bind fun x h1 => match truthD h1 x with
    | some true => evAnd C es env h1
    | some false => .ok x h1
    | none => .fail
def evOr (C : CallT) : List E → Env → Hc → Rs D
  | [], _, _ => .fail
  | [e], env, h => ev C e env h
  | e :: es, env, h => (ev C e env h).bind fun x h1 => match truthD h1 x with
    | some true => .ok x h1
    | some false => evOr C es env h1
    | none => .fail
def evT (C : CallT) : T → Env → Hc → Rs Bool
  | .e a, env, h => (ev C a env h).bind fun x h1 => match truthD h1 x with
    | some t => .ok t h1
    | none => .fail
  | .not t, env, h => (evT C t env h).bind fun k h1 => .ok (!k) h1
  | .and ts, env, h => evAll C ts env h
  | .or ts, env, h => evAny C ts env h
  | .ife t a b, env, h => (evT C t env h).bind fun k h1 => if k then evT C a env h1 else evT C b env h1
def evAll (C : CallT) : List T → Env → Hc → Rs Bool
  | [], _, h => .ok true h
  | t :: ts, env, h => (evT C t env h).bind fun k h1 => if k then evAll C ts env h1 else .ok false h1
def evAny (C : CallT) : List T → Env → Hc → Rs Bool
  | [], _, h => .ok false h
  | t :: ts, env, h => (evT C t env h).bind fun k h1 => if k then .ok true h1 else evAny C ts env h1
def evIt (C : CallT) : It → Env → Hc → Rs (List D × List Nat)
  | .sq e, env, h => (ev C e env h).bind fun d h1 => match items? h1 d with
    | some xs => .ok (xs, refsOf d) h1
    | none => .fail
  | .rng1 a, env, h => (ev C a env h).bind fun x h1 => match x with
    | .int n => if inRange n then .ok (rangeD 0 n.toNat, []) h1 else .fail
    | _ => .fail
  | .rng2 a b, env, h => (ev C a env h).bind fun x h1 => (ev C b env h1).bind fun y h2 => match x, y with
    | .int i, .int j => if inRange i && inRange j then .ok (rangeD i (j - i).toNat, []) h2 else .fail
    | _, _ => .fail
  | .zip a b, env, h => (ev C a env h).bind fun x h1 => (ev C b env h1).bind fun y h2 => if isTup x == isTup y then (match items? h2 x, items? h2 y with
    | some xs, some ys => .ok (zipD xs ys, refsOf x ++ refsOf y) h2
    | _, _ => .fail) else .fail
  | .enum a, env, h => (ev C a env h).bind fun x h1 => if isTup x then .fail else (match items? h1 x with
    | some xs => .ok (enumD 0 xs, refsOf x) h1
    | none => .fail)
  | .rev a, env, h => (ev C a env h).bind fun x h1 => match items? h1 x with
    | some xs => .ok (xs.reverse, refsOf x) h1
    | none => .fail
end

/-! ### statements -/
def lapsMax : Nat := 1000000
/-- a while loop, with a bound of its turns -/
def whlGo (t : Env → Hc → Rs Bool) (b : Env → Hc → Fl) : Nat → Env → Hc → Fl
  | 0, _, _ => .fail
  | n + 1, env, h => (t env h).toFl env fun k h1 => if k then (match b env h1 with
      | .next env2 h2 => whlGo t b n env2 h2
      | .cont env2 h2 => whlGo t b n env2 h2
      | .brk env2 h2 => .next env2 h2
      | r => r) else .next env h1
/-- a for loop over told items -/
def forGo (st : Hc → Bool) (g : List Nat) (tp : Bool) (b : Env → Hc → Fl) : List D → Env → Hc → Fl
  | [], env, h => .next env h
  | x :: xs, env, h => match bindG env g tp x with
    | none => .fail
    | some env1 => match b env1 h with
      | .next env2 h2 => if st h2 then forGo st g tp b xs env2 h2 else .fail
      | .cont env2 h2 => if st h2 then forGo st g tp b xs env2 h2 else .fail
      | .brk env2 h2 => .next env2 h2
      | r => r

def storeG (C : CallT) (g : G) (d : D) (env : Env) (h : Hc) : Fl := match g with
  | .nm i => .next (env.set i (some d)) h
  | .tp is => match bindG env is true d with
    | some env1 => .next env1 h
    | none => .fail
  | .ix a b => (ev C a env h).toFl env fun x h1 => (ev C b env h1).toFl env fun y h2 => (Rs.optU (setD x y d h2)).toFl env fun _ h3 => .next env h3

mutual
def exS (C : CallT) : S → Env → Hc → Fl
  | .asg g e, env, h => (ev C e env h).toFl env fun d h1 => storeG C g d env h1
  | .aug i op e, env, h => match env[i]? with
    | some (some x) => (ev C e env h).toFl env fun y h1 => (Rs.opt (augD op x y) h1).toFl env fun z h2 => .next (env.set i (some z)) h2
    | _ => .fail
  | .augIx a b op e, env, h => (ev C a env h).toFl env fun o h1 => (ev C b env h1).toFl env fun i h2 => (Rs.opt (ixD o i h2) h2).toFl env fun x h3 =>
      (ev C e env h3).toFl env fun y h4 => (Rs.opt (augD op x y) h4).toFl env fun z h5 => (Rs.optU (setD o i z h5)).toFl env fun _ h6 => .next env h6
  | .ifs t a b, env, h => (evT C t env h).toFl env fun k h1 => if k then exSs C a env h1 else exSs C b env h1
  | .whl t b, env, h => whlGo (evT C t) (exSs C b) lapsMax env h
  | .forS g tp it b, env, h => (evIt C it env h).toFl env fun xs h1 => forGo (still h1 xs.2) g tp (exSs C b) xs.1 env h1
  | .ret e, env, h => (ev C e env h).toFl env fun d h1 => .ret d h1
  | .ex e, env, h => (ev C e env h).toFl env fun _ h1 => .next env h1
  | .raise c none, env, h => .ex ⟨c, none⟩ env h
  | .raise c (some a), env, h => (ev C a env h).toFl env fun d h1 => match d with
    | .int i => .ex ⟨c, some i⟩ env h1
    | _ => .fail
  | .brk, env, h => .brk env h
  | .pass, env, h => .next env h
  | .tryS b hs, env, h => match exSs C b env h with
    | .ex x env1 h1 => if x.cls < 3 && x.arg.isNone then exHs C hs x env1 h1 else .fail
    | r => r
def exHs (C : CallT) : List H → Xn → Env → Hc → Fl
  | [], x, env, h => .ex x env h
  | .mk cs none b :: hs, x, env, h => if cs.contains x.cls then (exSs C b env h).nox else exHs C hs x env h
  | .mk cs (some i) b :: hs, x, env, h => if cs.contains x.cls then ((exSs C b (env.set i (some (.exc x.cls x.arg))) h).nox).drop i else exHs C hs x env h
def exSs (C : CallT) : List S → Env → Hc → Fl
  | [], env, h => .next env h
  | s :: ss, env, h => match exS C s env h with
    | .next env2 h2 => exSs C ss env2 h2
    | r => r
end

/-! ### functions -/
structure Fn where
  arity : Nat
  slots : Nat
  body : List S
  /-- a list that is handed back is handed back as a value -/
  frz : Bool := true

/-- what a call leaves: what was made within goes, where nothing leads to it -/
def leave (fz : Bool) (h : Hc) (d : D) (h' : Hc) : Rs D :=
  let d' := match fz, d with
    | true, .ref i => match h'[i]? with
      | some (.lst ds) => if h.length ≤ i then .lst ds else d
      | _ => d
    | _, d => d
  if d'.pure && gcOk h h' then .ok d' (h'.take h.length) else .ok d h'
def leaveX (h : Hc) (x : Xn) (h' : Hc) : Rs D := if gcOk h h' then .ex x (h'.take h.length) else .ex x h'

def startE (n : Nat) (ds : List D) : Env := ds.map some ++ List.replicate (n - ds.length) none

def runFn (C : CallT) (f : Fn) (ds : List D) (h : Hc) : Rs D :=
  if ds.length = f.arity then
    match exSs C f.body (startE f.slots ds) h with
    | .ret d h' => leave f.frz h d h'
    | .next _ h' => leave f.frz h .non h'
    | .ex x _ h' => leaveX h x h'
    | _ => .fail
  else .fail

/-- calls of at most so many calls in one another -/
def callN (F : Nat → Option Fn) : Nat → CallT
  | 0 => fun _ _ _ => .fail
  | n + 1 => fun f ds h => match F f with
    | some fn => runFn (callN F n) fn ds h
    | none => .fail

end Lad
/-! Small lemmas about clean values. -/
namespace Lad
mutual
theorem D.beq_eq : ∀ {a b : D}, D.beq a b = true → a = b
  | .non, b, h => by cases b <;> first | rfl | cases h
  | .bl x, b, h => by cases b <;> first | (simp [D.beq] at h; rw [h]) | cases h
  | .int x, b, h => by cases b <;> first | (simp [D.beq] at h; rw [h]) | cases h
  | .str x, b, h => by cases b <;> first | (simp [D.beq] at h; rw [h]) | cases h
  | .tup x, b, h => by
    cases b <;> first | (simp only [D.beq] at h; rw [D.beqs_eq h]) | cases h
  | .lst x, b, h => by
    cases b <;> first | (simp only [D.beq] at h; rw [D.beqs_eq h]) | cases h
  | .scr x, b, h => by cases b <;> first | (simp [D.beq] at h; rw [h]) | cases h
  | .ref x, b, h => by cases b <;> first | (simp [D.beq] at h; rw [h]) | cases h
  | .fn x, b, h => by cases b <;> first | (simp [D.beq] at h; rw [h]) | cases h
  | .kd x, b, h => by cases b <;> first | (simp [D.beq] at h; rw [h]) | cases h
  | .exc x y, b, h => by cases b <;> first | (simp [D.beq] at h; rw [h.1, h.2]) | cases h
theorem D.beqs_eq : ∀ {a b : List D}, D.beqs a b = true → a = b
  | [], b, h => by cases b <;> first | rfl | cases h
  | x :: xs, b, h => by
    cases b with
    | nil => cases h
    | cons y ys =>
      simp only [D.beqs, Bool.and_eq_true] at h
      rw [D.beq_eq h.1, D.beqs_eq h.2]
end
mutual
theorem D.beq_refl : ∀ a : D, D.beq a a = true
  | .non => rfl
  | .bl x => by simp [D.beq]
  | .int x => by simp [D.beq]
  | .str x => by simp [D.beq]
  | .tup x => by simp only [D.beq]; exact D.beqs_refl x
  | .lst x => by simp only [D.beq]; exact D.beqs_refl x
  | .scr x => by simp [D.beq]
  | .ref x => by simp [D.beq]
  | .fn x => by simp [D.beq]
  | .kd x => by simp [D.beq]
  | .exc x y => by simp [D.beq]
theorem D.beqs_refl : ∀ a : List D, D.beqs a a = true
  | [] => rfl
  | x :: xs => by simp only [D.beqs, D.beq_refl x, D.beqs_refl xs, Bool.and_self]
end
theorem kvBeq_eq : ∀ {a b : List (Ky × D)}, kvBeq a b = true → a = b
  | [], b, h => by cases b <;> first | rfl | cases h
  | x :: xs, b, h => by
    cases b with
    | nil => cases h
    | cons y ys =>
      simp only [kvBeq, Bool.and_eq_true, decide_eq_true_eq] at h
      rw [kvBeq_eq h.2, show x = y from Prod.ext h.1.1 (D.beq_eq h.1.2)]
theorem kvBeq_refl : ∀ a : List (Ky × D), kvBeq a a = true
  | [] => rfl
  | x :: xs => by simp [kvBeq, D.beq_refl, kvBeq_refl xs]
theorem fsBeq_eq : ∀ {a b : List (Nat × D)}, fsBeq a b = true → a = b
  | [], b, h => by cases b <;> first | rfl | cases h
  | x :: xs, b, h => by
    cases b with
    | nil => cases h
    | cons y ys =>
      simp only [fsBeq, Bool.and_eq_true, decide_eq_true_eq] at h
      rw [fsBeq_eq h.2, show x = y from Prod.ext h.1.1 (D.beq_eq h.1.2)]
theorem fsBeq_refl : ∀ a : List (Nat × D), fsBeq a a = true
  | [] => rfl
  | x :: xs => by simp [fsBeq, D.beq_refl, fsBeq_refl xs]
theorem MO.beq_eq {a b : MO} (h : MO.beq a b = true) : a = b := by
  cases a <;> cases b <;> first | (simp only [MO.beq] at h; rw [D.beqs_eq h]) | (simp only [MO.beq] at h; rw [kvBeq_eq h]) | (simp only [MO.beq, Bool.and_eq_true, beq_iff_eq] at h; rw [h.1, fsBeq_eq h.2]) | cases h
@[simp] theorem MO.beq_refl (a : MO) : MO.beq a a = true := by
  cases a <;> simp [MO.beq, D.beqs_refl, kvBeq_refl, fsBeq_refl]
theorem still_get {h0 h : Hc} : ∀ {rs : List Nat}, still h0 rs h = true → ∀ r ∈ rs, ∃ o, h0[r]? = some o ∧ h[r]? = some o
  | [], _, _, m => by cases m
  | r :: rs, e, q, m => by
    simp only [still, Bool.and_eq_true] at e
    rcases List.mem_cons.mp m with z | z
    · subst z
      have e1 := e.1
      cases a : h0[q]? with
      | none => rw [a] at e1; cases e1
      | some x =>
        cases b : h[q]? with
        | none => rw [a, b] at e1; cases e1
        | some y => rw [a, b] at e1; exact ⟨x, rfl, by rw [MO.beq_eq e1]⟩
    · exact still_get e.2 q z
end Lad
set_option Elab.async false
set_option linter.all false
set_option maxRecDepth 100000
set_option maxHeartbeats 2000000
/-! How a clean value, a clean heap lie in the layer's heap. -/
namespace Lad
open PySem PySem.Spec PyProof.Rows L2

/-- what stands where: the written part, the functions' addresses, the exceptions' classes -/
structure Gp where
  K : PySem.W.Frag
  fa : Nat → Addr
  xa : Nat → Addr
  /-- the functions that there are -/
  dom : Nat → Bool
/-- where the changeable things stand; addresses that no value leads to -/
structure AM where
  f : Nat → Addr
  z : List Addr
/-- an address that is no changeable thing's, nor reserved -/
def AM.out (m : AM) (n : Nat) (a : Addr) : Prop := (∀ i, i < n → m.f i ≠ a) ∧ a ∉ m.z

def kStr (x : List Nat) : Str := ⟨x.toArray⟩
def ky : Ky → Key
  | .inl i => .inl i
  | .inr x => .inr (kStr x)
theorem kStr_inj {x y : List Nat} (h : kStr x = kStr y) : x = y := by
  have := congrArg (fun z : Str => z.cps.toList) h
  simpa [kStr] using this
theorem ky_inj {a b : Ky} (h : ky a = ky b) : a = b := by
  cases a <;> cases b <;> simp [ky] at h
  · rw [h]
  · rw [kStr_inj h]

/-- a list that stands written -/
def KLst (K : PySem.W.Frag) (a : Addr) (xs : List V) : Prop := ∃ (o : Obj) (its : Array Value) (n : Nat), K.lookup a = some o ∧ o.cls = .type "list" ∧ o.dict = none ∧ o.data = .seq its n ∧ its.size ≤ sizeLine ∧ Vals xs its.toList

mutual
inductive Rep (g : Gp) (m : AM) (n : Nat) (H : Hp) : D → V → Prop
  | non : Rep g m n H .non .non
  | bl (b : Bool) : Rep g m n H (.bl b) (.bl b)
  | int (i : Int) : Rep g m n H (.int i) (.int i)
  | str (x : List Nat) : Rep g m n H (.str x) (.str (kStr x))
  | tup {a : Addr} {ds : List D} {vs : List V} (s : SqT g.K H a vs) (r : Reps g m n H ds vs) : Rep g m n H (.tup ds) (.ref a)
  | lst {a : Addr} {ds : List D} {vs : List V} (s : H a = some (.lst vs)) (o : m.out n a) (r : Reps g m n H ds vs) : Rep g m n H (.lst ds) (.ref a)
  | scr {a : Addr} {ns : List Int} (s : (Rd H a (.lst (ns.map V.int)) ∧ m.out n a) ∨ KLst g.K a (ns.map V.int)) : Rep g m n H (.scr ns) (.ref a)
  | ref {i : Nat} (l : i < n) : Rep g m n H (.ref i) (.ref (m.f i))
  | fn {f : Nat} (k : g.dom f = true) : Rep g m n H (.fn f) (.ref (g.fa f))
inductive Reps (g : Gp) (m : AM) (n : Nat) (H : Hp) : List D → List V → Prop
  | nil : Reps g m n H [] []
  | cons {d : D} {v : V} {ds : List D} {vs : List V} (a : Rep g m n H d v) (b : Reps g m n H ds vs) : Reps g m n H (d :: ds) (v :: vs)
end

theorem Reps.length {g : Gp} {m : AM} {n : Nat} {H : Hp} : ∀ {ds : List D} {vs : List V}, Reps g m n H ds vs → ds.length = vs.length
  | _, _, .nil => rfl
  | _, _, .cons _ b => congrArg (· + 1) b.length
theorem Reps.get {g : Gp} {m : AM} {n : Nat} {H : Hp} : ∀ {ds : List D} {vs : List V} {i : Nat} {d : D}, Reps g m n H ds vs → ds[i]? = some d → ∃ v, vs[i]? = some v ∧ Rep g m n H d v
  | _, _, _, _, .nil, e => by simp at e
  | _, _, 0, _, .cons a _, e => by simp at e; subst e; exact ⟨_, rfl, a⟩
  | _, _, i + 1, _, .cons _ b, e => by
    obtain ⟨v, h1, h2⟩ := Reps.get (i := i) b (by simpa using e)
    exact ⟨v, by simpa using h1, h2⟩
theorem Reps.getV {g : Gp} {m : AM} {n : Nat} {H : Hp} {ds : List D} {vs : List V} {i : Nat} {v : V} (r : Reps g m n H ds vs) (e : vs[i]? = some v) : ∃ d, ds[i]? = some d ∧ Rep g m n H d v := by
  cases q : ds[i]? with
  | none =>
    have h1 := List.getElem?_eq_none_iff.mp q
    have h2 := (List.getElem?_eq_some_iff.mp e).1
    have h3 := r.length
    omega
  | some d =>
    obtain ⟨w, h1, h2⟩ := r.get q
    rw [e] at h1
    cases h1
    exact ⟨d, rfl, h2⟩
theorem Reps.append {g : Gp} {m : AM} {n : Nat} {H : Hp} : ∀ {ds es : List D} {vs ws : List V}, Reps g m n H ds vs → Reps g m n H es ws → Reps g m n H (ds ++ es) (vs ++ ws)
  | _, _, _, _, .nil, s => s
  | _, _, _, _, .cons a b, s => .cons a (b.append s)
theorem Reps.take {g : Gp} {m : AM} {n : Nat} {H : Hp} : ∀ {ds : List D} {vs : List V} (k : Nat), Reps g m n H ds vs → Reps g m n H (ds.take k) (vs.take k)
  | _, _, 0, _ => .nil
  | _, _, _ + 1, .nil => .nil
  | _, _, k + 1, .cons a b => .cons a (b.take k)
theorem Reps.drop {g : Gp} {m : AM} {n : Nat} {H : Hp} : ∀ {ds : List D} {vs : List V} (k : Nat), Reps g m n H ds vs → Reps g m n H (ds.drop k) (vs.drop k)
  | _, _, 0, r => r
  | _, _, _ + 1, .nil => .nil
  | _, _, k + 1, .cons _ b => b.drop k
theorem Reps.set {g : Gp} {m : AM} {n : Nat} {H : Hp} {d : D} {v : V} (a : Rep g m n H d v) : ∀ {ds : List D} {vs : List V} (k : Nat), Reps g m n H ds vs → Reps g m n H (ds.set k d) (vs.set k v)
  | _, _, _, .nil => .nil
  | _, _, 0, .cons _ b => .cons a b
  | _, _, k + 1, .cons c b => .cons c (b.set a k)
theorem Reps.replicate {g : Gp} {m : AM} {n : Nat} {H : Hp} {ds : List D} {vs : List V} (r : Reps g m n H ds vs) : ∀ k : Nat, Reps g m n H (List.replicate k ds).flatten (List.replicate k vs).flatten
  | 0 => .nil
  | k + 1 => by
    rw [List.replicate_succ, List.replicate_succ, List.flatten_cons, List.flatten_cons]
    exact r.append (r.replicate k)

/-- a dict's pairs -/
inductive RepKv (g : Gp) (m : AM) (n : Nat) (H : Hp) : List (Ky × D) → List (Key × V) → Prop
  | nil : RepKv g m n H [] []
  | cons {k : Ky} {d : D} {v : V} {r : List (Ky × D)} {s : List (Key × V)} (a : Rep g m n H d v) (b : RepKv g m n H r s) : RepKv g m n H ((k, d) :: r) ((ky k, v) :: s)
/-- what stands at a changeable thing's address -/
def RepO (g : Gp) (m : AM) (n : Nat) (H : Hp) (a : Addr) : MO → Prop
  | .lst ds => ∃ vs, H a = some (.lst vs) ∧ Reps g m n H ds vs
  | .dct kvs => ∃ ws, H a = some (.dK ws) ∧ RepKv g m n H kvs ws ∧ (kvs.map (·.1)).Nodup
  | .ins _ _ => False

structure Rel (g : Gp) (m : AM) (h : Hc) (H : Hp) : Prop where
  obj : ∀ i o, h[i]? = some o → RepO g m h.length H (m.f i) o
  inj : ∀ i j, i < h.length → j < h.length → m.f i = m.f j → i = j
  res : ∀ a, a ∈ m.z → (∃ o, H a = some o) ∧ ∀ i, i < h.length → m.f i ≠ a

structure Ext (g : Gp) (m : AM) (h : Hc) (H : Hp) (m' : AM) (h' : Hc) (H' : Hp) : Prop where
  rel : Rel g m' h' H'
  len : h.length ≤ h'.length
  agree : ∀ i, i < h.length → m'.f i = m.f i
  keep : ∀ a o, H a = some o → (∀ i, i < h.length → m.f i ≠ a) → H' a = some o
  new : ∀ i, h.length ≤ i → i < h'.length → H (m'.f i) = none
  zs : m'.z = m.z

section
variable {g : Gp} {m m' m'' : AM} {h h' h'' : Hc} {H H' H'' : Hp}

theorem Rel.mut (r : Rel g m h H) {i : Nat} (l : i < h.length) : (∃ vs, H (m.f i) = some (.lst vs)) ∨ ∃ ws, H (m.f i) = some (.dK ws) := by
  have e := List.getElem?_eq_getElem l
  have q := r.obj i _ e
  cases o : h[i] with
  | lst ds => rw [o] at q; obtain ⟨vs, z, _⟩ := q; exact .inl ⟨vs, z⟩
  | dct kvs => rw [o] at q; obtain ⟨ws, z, _⟩ := q; exact .inr ⟨ws, z⟩
  | ins c fs => rw [o] at q; exact False.elim q
theorem Rel.holds (r : Rel g m h H) {i : Nat} (l : i < h.length) : ∃ o, H (m.f i) = some o := by
  rcases r.mut l with ⟨vs, z⟩ | ⟨ws, z⟩
  · exact ⟨_, z⟩
  · exact ⟨_, z⟩
/-- what is neither a changeable list nor a dict stands outside -/
theorem Rel.ne (r : Rel g m h H) {a : Addr} {o : HO} (e : H a = some o) (n1 : ∀ vs, o ≠ .lst vs) (n2 : ∀ ws, o ≠ .dK ws) : ∀ i, i < h.length → m.f i ≠ a := fun i l z => by
  subst z
  rcases r.mut l with ⟨vs, q⟩ | ⟨ws, q⟩
  · rw [e] at q; exact n1 vs (Option.some.inj q)
  · rw [e] at q; exact n2 ws (Option.some.inj q)

theorem sqt_ext {a : Addr} {vs : List V} (s : SqT g.K H a vs) (r : Rel g m h H) (e : Ext g m h H m' h' H') : SqT g.K H' a vs := by
  rcases s with (s | ⟨o, s⟩) | s
  · exact .inl (.inl (e.keep _ _ s (r.ne s (fun _ z => nomatch z) (fun _ z => nomatch z))))
  · exact .inl (.inr ⟨o, e.keep _ _ s (r.ne s (fun _ z => nomatch z) (fun _ z => nomatch z))⟩)
  · exact .inr s
theorem Ext.ne (e : Ext g m h H m' h' H') {a : Addr} {o : HO} (s : H a = some o) (n : ∀ i, i < h.length → m.f i ≠ a) : ∀ i, i < h'.length → m'.f i ≠ a := fun i l z => by
  by_cases q : i < h.length
  · exact n i q ((e.agree i q).symm.trans z)
  · have := e.new i (Nat.le_of_not_lt q) l
    rw [z, s] at this
    cases this
theorem Ext.out (e : Ext g m h H m' h' H') {a : Addr} {o : HO} (s : H a = some o) (n : m.out h.length a) : m'.out h'.length a :=
  ⟨e.ne s n.1, by rw [e.zs]; exact n.2⟩
mutual
theorem Rep.ext (r : Rel g m h H) (e : Ext g m h H m' h' H') : ∀ {d : D} {v : V}, Rep g m h.length H d v → Rep g m' h'.length H' d v
  | _, _, .non => .non
  | _, _, .bl b => .bl b
  | _, _, .int i => .int i
  | _, _, .str x => .str x
  | _, _, .tup s q => .tup (sqt_ext s r e) (q.ext r e)
  | _, _, .lst s o q => .lst (e.keep _ _ s o.1) (e.out s o) (q.ext r e)
  | _, _, .scr s => .scr (by
      rcases s with ⟨s | ⟨u, s⟩, o⟩ | s
      · exact .inl ⟨.inl (e.keep _ _ s o.1), e.out s o⟩
      · exact .inl ⟨.inr ⟨u, e.keep _ _ s o.1⟩, e.out s o⟩
      · exact .inr s)
  | _, _, .ref (i := i) l => by
    rw [← e.agree i l]
    exact .ref (Nat.lt_of_lt_of_le l e.len)
  | _, _, .fn k => .fn k
theorem Reps.ext (r : Rel g m h H) (e : Ext g m h H m' h' H') : ∀ {ds : List D} {vs : List V}, Reps g m h.length H ds vs → Reps g m' h'.length H' ds vs
  | _, _, .nil => .nil
  | _, _, .cons a b => .cons (a.ext r e) (b.ext r e)
end
theorem RepKv.ext (r : Rel g m h H) (e : Ext g m h H m' h' H') : ∀ {ds : List (Ky × D)} {vs : List (Key × V)}, RepKv g m h.length H ds vs → RepKv g m' h'.length H' ds vs
  | _, _, .nil => .nil
  | _, _, .cons a b => .cons (a.ext r e) (b.ext r e)

theorem Ext.refl (r : Rel g m h H) : Ext g m h H m h H := ⟨r, Nat.le_refl _, fun _ _ => rfl, fun _ _ e _ => e, fun i a b => absurd b (Nat.not_lt.mpr a), rfl⟩
theorem Ext.trans (r : Rel g m h H) (a : Ext g m h H m' h' H') (b : Ext g m' h' H' m'' h'' H'') : Ext g m h H m'' h'' H'' where
  rel := b.rel
  len := Nat.le_trans a.len b.len
  agree := fun i l => (b.agree i (Nat.lt_of_lt_of_le l a.len)).trans (a.agree i l)
  keep := fun x o e n => b.keep x o (a.keep x o e n) (a.ne e n)
  zs := b.zs.trans a.zs
  new := fun i l1 l2 => by
    by_cases q : i < h'.length
    · rw [b.agree i q]; exact a.new i l1 q
    · have z := b.new i (Nat.le_of_not_lt q) l2
      cases hq : H (m''.f i) with
      | none => rfl
      | some o =>
        by_cases e : ∃ j, j < h.length ∧ m.f j = m''.f i
        · obtain ⟨j, lj, ej⟩ := e
          have lj' := Nat.lt_of_lt_of_le lj a.len
          obtain ⟨o', s⟩ := a.rel.holds lj'
          rw [a.agree j lj, ej, z] at s
          cases s
        · have := a.keep _ _ hq fun j lj ej => e ⟨j, lj, ej⟩
          rw [z] at this
          cases this

/-- values carried over to another heap and another map, by what is kept -/
structure Carry (g : Gp) (m m' : AM) (n n' : Nat) (H H' : Hp) : Prop where
  tup : ∀ a vs, SqT g.K H a vs → SqT g.K H' a vs
  lst : ∀ a vs, H a = some (.lst vs) → m.out n a → H' a = some (.lst vs) ∧ m'.out n' a
  frz : ∀ a o u, H a = some (.frz o u) → m.out n a → H' a = some (.frz o u) ∧ m'.out n' a
  ref : ∀ i, i < n → i < n' ∧ m'.f i = m.f i
mutual
theorem Rep.carry {n n' : Nat} (c : Carry g m m' n n' H H') : ∀ {d : D} {v : V}, Rep g m n H d v → Rep g m' n' H' d v
  | _, _, .non => .non
  | _, _, .bl b => .bl b
  | _, _, .int i => .int i
  | _, _, .str x => .str x
  | _, _, .tup s q => .tup (c.tup _ _ s) (q.carry c)
  | _, _, .lst s o q => .lst (c.lst _ _ s o).1 (c.lst _ _ s o).2 (q.carry c)
  | _, _, .scr s => .scr (by
      rcases s with ⟨s | ⟨u, s⟩, o⟩ | s
      · exact .inl ⟨.inl (c.lst _ _ s o).1, (c.lst _ _ s o).2⟩
      · exact .inl ⟨.inr ⟨u, (c.frz _ _ _ s o).1⟩, (c.frz _ _ _ s o).2⟩
      · exact .inr s)
  | _, _, .ref (i := i) l => by
    rw [← (c.ref i l).2]
    exact .ref (c.ref i l).1
  | _, _, .fn k => .fn k
theorem Reps.carry {n n' : Nat} (c : Carry g m m' n n' H H') : ∀ {ds : List D} {vs : List V}, Reps g m n H ds vs → Reps g m' n' H' ds vs
  | _, _, .nil => .nil
  | _, _, .cons a b => .cons (a.carry c) (b.carry c)
end
theorem RepKv.carry {n n' : Nat} (c : Carry g m m' n n' H H') : ∀ {ds : List (Ky × D)} {vs : List (Key × V)}, RepKv g m n H ds vs → RepKv g m' n' H' ds vs
  | _, _, .nil => .nil
  | _, _, .cons a b => .cons (a.carry c) (b.carry c)

/-! ### a new thing that is not changed -/
theorem upd_keep {p : Addr} {o : HO} (np : H p = none) {a : Addr} {u : HO} (e : H a = some u) : upd H p o a = some u := by
  rw [upd_ne (fun z => by rw [z, np] at e; cases e)]; exact e
theorem upd_sqt {p : Addr} {o : HO} (np : H p = none) {K : PySem.W.Frag} {a : Addr} {vs : List V} (s : SqT K H a vs) : SqT K (upd H p o) a vs := by
  rcases s with (s | ⟨u, s⟩) | s
  · exact .inl (.inl (upd_keep np s))
  · exact .inl (.inr ⟨u, upd_keep np s⟩)
  · exact .inr s
theorem RepO.carry {n n' : Nat} (c : Carry g m m' n n' H H') {a : Addr} {o : MO} (q : RepO g m n H a o) (k : ∀ u, H a = some u → H' a = some u) : RepO g m' n' H' a o := by
  cases o with
  | lst ds => obtain ⟨vs, z, w⟩ := q; exact ⟨vs, k _ z, w.carry c⟩
  | dct kvs => obtain ⟨ws, z, w, nd⟩ := q; exact ⟨ws, k _ z, w.carry c, nd⟩
  | ins c fs => exact q
theorem Rel.fresh (r : Rel g m h H) {p : Addr} (np : H p = none) : m.out h.length p := by
  constructor
  · intro i l z
    obtain ⟨o, e⟩ := r.holds l
    rw [z, np] at e
    cases e
  · intro z
    obtain ⟨⟨o, e⟩, _⟩ := r.res p z
    rw [np] at e
    cases e
theorem Rel.laid (r : Rel g m h H) {p : Addr} {o : HO} (np : H p = none) : Ext g m h H m h (upd H p o) := by
  have c : Carry g m m h.length h.length H (L2.upd H p o) := ⟨fun _ _ s => upd_sqt np s, fun _ _ s q => ⟨upd_keep np s, q⟩, fun _ _ _ s q => ⟨upd_keep np s, q⟩, fun _ l => ⟨l, rfl⟩⟩
  exact ⟨⟨fun i u e => (r.obj i u e).carry c fun _ z => upd_keep np z, r.inj, fun a z => ⟨let ⟨o, e⟩ := (r.res a z).1; ⟨o, upd_keep np e⟩, (r.res a z).2⟩⟩, Nat.le_refl _, fun _ _ => rfl, fun a u e _ => upd_keep np e, fun i a b => absurd b (Nat.not_lt.mpr a), rfl⟩

/-! ### an address set aside -/
def AM.set (m : AM) (a : Addr) : AM := ⟨m.f, a :: m.z⟩
/-- a new thing is laid and set aside -/
theorem Rel.reserve (r : Rel g m h H) {p : Addr} {o : HO} (np : H p = none) : Rel g (m.set p) h (upd H p o) ∧ Carry g m (m.set p) h.length h.length H (upd H p o) := by
  have ne : ∀ a u, H a = some u → a ≠ p := fun a u e z => by rw [z, np] at e; cases e
  have c : Carry g m (m.set p) h.length h.length H (L2.upd H p o) := ⟨fun _ _ s => upd_sqt np s, fun a _ s q => ⟨upd_keep np s, q.1, by
      show a ∉ p :: m.z
      rw [List.mem_cons]; rintro (z | z)
      · exact ne _ _ s z
      · exact q.2 z⟩, fun a _ _ s q => ⟨upd_keep np s, q.1, by
      show a ∉ p :: m.z
      rw [List.mem_cons]; rintro (z | z)
      · exact ne _ _ s z
      · exact q.2 z⟩, fun _ l => ⟨l, rfl⟩⟩
  refine ⟨⟨fun i u e => (r.obj i u e).carry c fun _ z => upd_keep np z, r.inj, fun a z => ?_⟩, c⟩
  rcases List.mem_cons.mp (show a ∈ p :: m.z from z) with e | e
  · subst e; exact ⟨⟨_, upd_same⟩, (r.fresh np).1⟩
  · exact ⟨let ⟨o, q⟩ := (r.res a e).1; ⟨o, upd_keep np q⟩, (r.res a e).2⟩
/-- set aside no longer -/
theorem carry_unset {p : Addr} {n : Nat} : Carry g (m.set p) m n n H H := ⟨fun _ _ s => s, fun _ _ s q => ⟨s, q.1, fun z => q.2 (List.mem_cons_of_mem _ z)⟩, fun _ _ _ s q => ⟨s, q.1, fun z => q.2 (List.mem_cons_of_mem _ z)⟩, fun _ l => ⟨l, rfl⟩⟩
theorem Rel.unset {p : Addr} (r : Rel g (m.set p) h H) : Rel g m h H :=
  ⟨fun i u e => (r.obj i u e).carry carry_unset fun _ z => z, r.inj, fun a z => r.res a (List.mem_cons_of_mem _ z)⟩
/-- what was set aside is a changeable list from now on -/
def AM.add (m : AM) (n : Nat) (a : Addr) : AM := ⟨fun i => if i = n then a else m.f i, m.z⟩
theorem carry_add {p : Addr} {n : Nat} : Carry g (m.set p) (m.add n p) n (n + 1) H H := by
  have o : ∀ a, (m.set p).out n a → (m.add n p).out (n + 1) a := fun a q => ⟨fun i l z => by
    by_cases e : i = n
    · subst e
      have : p = a := (if_pos rfl : (m.add i p).f i = p).symm.trans z
      exact q.2 (this ▸ List.mem_cons_self)
    · have : m.f i = a := (if_neg e : (m.add n p).f i = m.f i).symm.trans z
      exact q.1 i (by omega) this, fun z => q.2 (List.mem_cons_of_mem _ z)⟩
  exact ⟨fun _ _ s => s, fun a _ s q => ⟨s, o a q⟩, fun a _ _ s q => ⟨s, o a q⟩, fun i l => ⟨by omega, if_neg (by omega)⟩⟩
theorem Rel.add {p : Addr} {ds : List D} {vs : List V} (r : Rel g (m.set p) h H) (e : H p = some (.lst vs)) (q : Reps g (m.set p) h.length H ds vs) (pz : p ∉ m.z) : Rel g (m.add h.length p) (h ++ [.lst ds]) H := by
  have ln : (h ++ [MO.lst ds]).length = h.length + 1 := by simp
  have np := (r.res p List.mem_cons_self).2
  have f1 : ∀ i, i < h.length → (m.add h.length p).f i = m.f i := fun i l => if_neg (by omega)
  have f2 : (m.add h.length p).f h.length = p := if_pos rfl
  refine ⟨fun i o z => ?_, fun i j li lj z => ?_, fun a z => ?_⟩
  · rw [ln]
    by_cases l : i < h.length
    · rw [f1 i l]
      rw [List.getElem?_append_left l] at z
      exact (r.obj i o z).carry carry_add fun _ w => w
    · have hi : i = h.length := by
        have := (List.getElem?_eq_some_iff.mp z).1
        rw [ln] at this
        omega
      subst hi
      rw [f2]
      rw [List.getElem?_append_right (Nat.le_refl _), Nat.sub_self] at z
      cases z
      exact ⟨vs, e, q.carry carry_add⟩
  · rw [ln] at li lj
    by_cases a : i < h.length
    · by_cases b : j < h.length
      · rw [f1 i a, f1 j b] at z
        exact r.inj i j a b z
      · have : j = h.length := by omega
        subst this
        rw [f1 i a, f2] at z
        exact absurd z (np i a)
    · have : i = h.length := by omega
      subst this
      by_cases b : j < h.length
      · rw [f1 j b, f2] at z
        exact absurd z.symm (np j b)
      · omega
  · obtain ⟨o, w⟩ := r.res a (List.mem_cons_of_mem _ z)
    refine ⟨o, fun i l y => ?_⟩
    rw [ln] at l
    by_cases b : i < h.length
    · rw [f1 i b] at y
      exact w i b y
    · have : i = h.length := by omega
      subst this
      rw [f2] at y
      subst y
      exact pz z
end
end Lad
set_option Elab.async false
set_option linter.all false
set_option maxRecDepth 100000
set_option maxHeartbeats 2000000
/-! Readings: what a clean evaluation says of an expression of the row. -/
namespace Lad
open PySem PySem.Spec PyProof.Rows L2

/-- slots and names -/
structure Stt (g : Gp) (m : AM) (env : Env) (h : Hc) (σ : L2.St) (H : Hp) : Prop where
  rel : Rel g m h H
  len : env.length = σ.length
  at_ : ∀ (i : Nat) (d : D), env[i]? = some (some d) → ∃ v, σ[i]? = some (some v) ∧ Rep g m h.length H d v
/-- an exception's class and dict -/
def XRep (g : Gp) (m : AM) (n : Nat) (x : Xn) (c : Value) (dd : Option Addr) (H : Hp) : Prop := c = .ref (g.xa x.cls) ∧ match x.arg with
  | none => dd = none
  | some i => ∃ d, dd = some d ∧ H d = some (.xd [("line", V.int i)]) ∧ ∀ j, j < n → m.f j ≠ d

abbrev RP (α : Type) := α → Hc → AM → Hp → Prop
def Post (g : Gp) {α : Type} (W : WX) (σ : L2.St) (m : AM) (h : Hc) (H : Hp) (r : Rs α) (R : RP α) : Prop := match r with
  | .fail => False
  | .ok a h' => ∀ m' H', Ext g m h H m' h' H' → R a h' m' H'
  | .ex x h' => ∀ m' H', Ext g m h H m' h' H' → ∀ c dd, XRep g m' h'.length x c dd H' → W c dd σ H'

section
variable {g : Gp} {α β : Type} {W : WX} {σ : L2.St} {m m' : AM} {h h' : Hc} {H H' : Hp}
theorem Post.mono {r : Rs α} {R R' : RP α} (p : Post g W σ m h H r R) (f : ∀ a h' m' H', Ext g m h H m' h' H' → R a h' m' H' → R' a h' m' H') : Post g W σ m h H r R' := by
  cases r with
  | fail => exact p
  | ok a h' => exact fun m' H' e => f a h' m' H' e (p m' H' e)
  | ex x h' => exact p
/-- what is asked of a sequel, from a later state -/
theorem Post.later {r : Rs α} {R : RP α} (rl : Rel g m h H) (e : Ext g m h H m' h' H') (p : Post g W σ m h H r R) : Post g W σ m' h' H' r R := by
  cases r with
  | fail => exact p
  | ok a h'' => exact fun m'' H'' e' => p m'' H'' (Ext.trans rl e e')
  | ex x h'' => exact fun m'' H'' e' => p m'' H'' (Ext.trans rl e e')
theorem Post.bind {r : Rs α} {k : α → Hc → Rs β} {R : RP β} (rl : Rel g m h H) (p : Post g W σ m h H (r.bind k) R) :
    Post g W σ m h H r fun a h' m' H' => Post g W σ m' h' H' (k a h') R := by
  cases r with
  | fail => exact p
  | ok a h' => exact fun m' H' e => Post.later rl e p
  | ex x h' => exact p
theorem Stt.ext {env : Env} (s : Stt g m env h σ H) (e : Ext g m h H m' h' H') : Stt g m' env h' σ H' :=
  ⟨e.rel, s.len, fun i d q => let ⟨v, a, b⟩ := s.at_ i d q; ⟨v, a, b.ext s.rel e⟩⟩

/-! ### readings -/
/-- what is asked of the value that comes -/
abbrev VQ (g : Gp) (Q : VK) : RP D := fun d h' m' H' => ∀ v, Rep g m' h'.length H' d v → Q v H'
abbrev VQs (g : Gp) (Q : List V → Hp → Prop) : RP (List D) := fun ds h' m' H' => ∀ vs, Reps g m' h'.length H' ds vs → Q vs H'
abbrev FE := Env → Hc → Rs D
def RdE (g : Gp) (W : WX) (f : FE) : TE := fun σ H Q => ∃ m env h, Stt g m env h σ H ∧ Post g W σ m h H (f env h) (VQ g Q)
def RdA (g : Gp) (W : WX) (f : Env → Hc → Rs (List D)) : TA := fun σ H Q => ∃ m env h, Stt g m env h σ H ∧ Post g W σ m h H (f env h) (VQs g Q)
def RdT (g : Gp) (W : WX) (f : Env → Hc → Rs Bool) : TT := fun σ H Q => ∃ m env h, Stt g m env h σ H ∧ Post g W σ m h H (f env h) fun b _ _ H' => Q b H'
end

section
variable {X : Cx}
theorem peOf {e : Expr} {t : TE} (f : ∀ σ H Q, t σ H Q → ∃ t', PE X e t' ∧ t' σ H Q) : PE X e t :=
  ⟨fun pins s σ H Q I q => let ⟨t', p, q'⟩ := f σ H Q q; p.run pins s σ H Q I q'⟩
theorem peImp {e : Expr} {t t' : TE} (p : PE X e t') (f : ∀ σ H Q, t σ H Q → t' σ H Q) : PE X e t := ⟨fun pins s σ H Q I q => p.run pins s σ H Q I (f σ H Q q)⟩
theorem paImp {e : List Expr} {t t' : TA} (p : PA X e t') (f : ∀ σ H Q, t σ H Q → t' σ H Q) : PA X e t := ⟨fun pos pins s σ H Q I q => p.run pos pins s σ H Q I (f σ H Q q)⟩
theorem ptImp {e : Expr} {t t' : TT} (p : PT X e t') (f : ∀ σ H Q, t σ H Q → t' σ H Q) : PT X e t := ⟨fun pins s σ H Q I q => p.run pins s σ H Q I (f σ H Q q)⟩
theorem pwImp {e : Expr} {t t' : TT} (p : PW X e t') (f : ∀ σ H Q, t σ H Q → t' σ H Q) : PW X e t := ⟨fun w pins s σ H Q I q => p.run w pins s σ H Q I (f σ H Q q)⟩
theorem psImp {e : Stmt} {t t' : TS} (p : PS X e t') (f : ∀ D σ H, t D σ H → t' D σ H) : PS X e t := ⟨fun pins s σ H D I q => p.run pins s σ H D I (f D σ H q)⟩
theorem pssImp {e : List Stmt} {t t' : TS} (p : PSs X e t') (f : ∀ D σ H, t D σ H → t' D σ H) : PSs X e t := ⟨fun pins s σ H D I q => p.run pins s σ H D I (f D σ H q)⟩

/-- what is known of the place where one stands -/
structure Cok (g : Gp) (l : Nat) (X : Cx) (W : WX) : Prop where
  K : X.K = g.K
  calm : X.calm = true
  nd : X.N.Nodup
  room : Room l X.A
  pass : ∀ σ, PassesAt (L2.CX X.prog X.w) X σ (WE W σ)
variable {g : Gp} {l : Nat} {W : WX}

/-! ### an operation by values -/
def OptP (o : Option (D × Hc)) (R : D → Hc → Prop) : Prop := match o with
  | none => False
  | some p => R p.1 p.2
/-- what an operation leaves -/
def Left (g : Gp) (m : AM) (h : Hc) (H : Hp) (R : RP D) (d : D) (h' : Hc) : Prop := ∀ m' H', Ext g m h H m' h' H' → R d h' m' H'
/-- two values and what comes of them -/
def RO (g : Gp) (f : D → D → Hc → Option (D × Hc)) : R2 := fun x y H Q => ∃ m h dx dy, Rel g m h H ∧ Rep g m h.length H dx x ∧ Rep g m h.length H dy y ∧ OptP (f dx dy h) (Left g m h H (VQ g Q))
theorem post_opt2 {σ : L2.St} {m : AM} {h : Hc} {H : Hp} {o : Option (D × Hc)} {R : RP D} (p : Post g W σ m h H (Rs.opt2 o) R) : OptP o (Left g m h H R) := by
  cases o with
  | none => exact p
  | some q => exact p

/-- two expressions, then an operation -/
theorem rd_two {fa fb : FE} {op : D → D → Hc → Option (D × Hc)} {σ : L2.St} {H : Hp} {Q : VK}
    (q : RdE g W (fun env h => (fa env h).bind fun x h1 => (fb env h1).bind fun y h2 => Rs.opt2 (op x y h2)) σ H Q) : tOp (RO g op) (RdE g W fa) (RdE g W fb) σ H Q := by
  obtain ⟨m, env, h, s, p⟩ := q
  refine ⟨m, env, h, s, (Post.bind s.rel p).mono fun d h1 m1 H1 e1 p1 v rv => ⟨m1, env, h1, s.ext e1, (Post.bind e1.rel p1).mono fun d' h2 m2 H2 e2 p2 w rw => ?_⟩⟩
  exact ⟨m2, h2, d, d', e2.rel, rv.ext e1.rel e2, rw, post_opt2 p2⟩
theorem opt_keep (o : Option D) (h : Hc) : Rs.opt o h = Rs.opt2 (keep h o) := by cases o <;> rfl
theorem j_bin {a b : Expr} {op : Operator} {bo : Bop} {fa fb : FE} {pos : Pos} (ho : OpR X (binaryOp op) (RO g fun x y h => keep h (binD bo x y))) (ha : PE X a (RdE g W fa)) (hb : PE X b (RdE g W fb)) :
    PE X (.BinOp a op b pos) (RdE g W fun env h => (fa env h).bind fun x h1 => (fb env h1).bind fun y h2 => Rs.opt (binD bo x y) h2) := by
  refine peImp (pe_op ho ha hb) fun σ H Q q => rd_two ?_
  simp only [opt_keep] at q
  exact q
theorem j_cmp {a b : Expr} {op : CmpOp} {co : Cop} {fa fb : FE} {pos : Pos} (ho : OpR X (compareOp op) (RO g fun x y h => keep h (cmpD co x y h))) (ha : PE X a (RdE g W fa)) (hb : PE X b (RdE g W fb)) (hm : behindInMarks op b = false) :
    PE X (.Compare a [op] [b] pos) (RdE g W fun env h => (fa env h).bind fun x h1 => (fb env h1).bind fun y h2 => Rs.opt (cmpD co x y h2) h2) := by
  refine peImp (pe_cmpR ho ha hb hm) fun σ H Q q => rd_two ?_
  simp only [opt_keep] at q
  exact q
theorem j_ix {a b : Expr} {fa fb : FE} {pos : Pos} (ho : IxR X (RO g fun x y h => keep h (ixD x y h))) (ha : PE X a (RdE g W fa)) (hb : PE X b (RdE g W fb)) (hs : PlainIx b) :
    PE X (.Subscript a b pos) (RdE g W fun env h => (fa env h).bind fun x h1 => (fb env h1).bind fun y h2 => Rs.opt (ixD x y h2) h2) := by
  refine peImp (pe_ix ho ha hb hs) fun σ H Q q => rd_two ?_
  simp only [opt_keep] at q
  exact q
/-! ### names, constants -/
theorem j_var {i : Nat} {x : Str} {pos : Pos} (hN : X.N[i]? = some x) (hv : Vis X.env.scope x) (hd : (x == ("__debug__" : Str)) = false) (hcd : (x == ("__classdict__" : Str)) = false) (C : CallT) :
    PE X (.Name x pos) (RdE g W (ev C (.var i))) := by
  refine peImp (pe_var hN hv hd hcd) fun σ H Q ⟨m, env, h, s, p⟩ => ?_
  rw [ev] at p
  cases e : env[i]? with
  | none => rw [e] at p; exact p.elim
  | some o =>
    cases o with
    | none => rw [e] at p; exact p.elim
    | some d =>
      rw [e] at p
      obtain ⟨v, e1, r⟩ := s.at_ i d e
      exact ⟨v, e1, p m H (Ext.refl s.rel) v r⟩
/-- a constant: its value as the layer has it -/
theorem j_val {e : Expr} {v : V} {d : D} (h0 : PE X e (tC v)) (hr : ∀ m n H, Rep g m n H d v) : PE X e (RdE g W fun _ h => .ok d h) :=
  peImp h0 fun σ H Q ⟨m, env, h, s, p⟩ => p m H (Ext.refl s.rel) v (hr _ _ _)
theorem rd_bind {fa : FE} {k : D → Hc → Rs D} {k' : FE} {σ : L2.St} {H : Hp} {Q : VK} {T : V → Hp → Prop}
    (q : RdE g W (fun env h => (fa env h).bind k) σ H Q) (f : ∀ m env h d v H1, Stt g m env h σ H1 → Rep g m h.length H1 d v → Post g W σ m h H1 (k d h) (VQ g Q) → T v H1) : RdE g W fa σ H T := by
  obtain ⟨m, env, h, s, p⟩ := q
  exact ⟨m, env, h, s, (Post.bind s.rel p).mono fun d h1 m1 H1 e1 p1 v rv => f m1 env h1 d v H1 (s.ext e1) rv p1⟩
/-! ### lists of expressions -/
theorem j_nil (C : CallT) : PA X [] (RdA g W (evs C [])) := paImp (pa_nil) fun σ H Q ⟨m, env, h, s, p⟩ => by
  rw [evs] at p
  exact p m H (Ext.refl s.rel) [] .nil
theorem j_cons {e : Expr} {es : List Expr} {C : CallT} {c : E} {cs : List E} (ha : PE X e (RdE g W (ev C c))) (hr : PA X es (RdA g W (evs C cs))) (hs : starEach (e :: es) X.env = (false, eval e X.env) :: starEach es X.env) :
    PA X (e :: es) (RdA g W (evs C (c :: cs))) := by
  refine paImp (pa_cons ha hr hs) fun σ H Q ⟨m, env, h, s, p⟩ => ?_
  rw [evs] at p
  refine ⟨m, env, h, s, (Post.bind s.rel p).mono fun d h1 m1 H1 e1 p1 v rv => ⟨m1, env, h1, s.ext e1, (Post.bind e1.rel p1).mono fun ds h2 m2 H2 e2 p2 vs rvs => ?_⟩⟩
  exact p2 m2 H2 (Ext.refl e2.rel) _ (.cons (rv.ext e1.rel e2) rvs)
/-! ### displays -/
theorem Post.monoE {α : Type} {σ : L2.St} {m : AM} {h : Hc} {H : Hp} {r : Rs α} {R R' : RP α} (p : Post g W σ m h H r R) (f : ∀ a h' m' H', r = .ok a h' → Ext g m h H m' h' H' → R a h' m' H' → R' a h' m' H') : Post g W σ m h H r R' := by
  cases r with
  | fail => exact p
  | ok a h' => exact fun m' H' e => f a h' m' H' rfl e (p m' H' e)
  | ex x h' => exact p
theorem bind_ok {α β : Type} {r : Rs α} {k : α → Hc → Rs β} {b : β} {h' : Hc} (e : r.bind k = .ok b h') : ∃ a h1, r = .ok a h1 ∧ k a h1 = .ok b h' := by
  cases r with
  | fail => cases e
  | ok a h1 => exact ⟨a, h1, rfl, e⟩
  | ex x h1 => cases e
theorem evs_len {C : CallT} : ∀ {cs : List E} {env : Env} {h h' : Hc} {ds : List D}, evs C cs env h = .ok ds h' → ds.length = cs.length
  | [], _, _, _, _, e => by rw [evs] at e; cases e; rfl
  | c :: cs, env, h, h', ds, e => by
    rw [evs] at e
    obtain ⟨d, h1, _, e2⟩ := bind_ok e
    obtain ⟨r, h2, e3, e4⟩ := bind_ok e2
    cases e4
    simp [evs_len e3]
theorem k1000 {n : Nat} (h : n ≤ 1000) : n ≤ sizeLine := Nat.le_of_lt (small1000 h)
theorem j_tup {es : List Expr} {C : CallT} {cs : List E} {k : Nat} {pos : Pos} (ha : PA X es (RdA g W (evs C cs))) (hz : cs.length ≤ 1000) :
    PE X (.Tuple es k pos) (RdE g W (ev C (.tup cs))) := by
  refine peImp (pe_tup ha) fun σ H Q ⟨m, env, h, s, p⟩ => ?_
  rw [ev] at p
  refine ⟨m, env, h, s, (Post.bind s.rel p).monoE fun ds h1 m1 H1 q e1 p1 vs rvs => ⟨k1000 ?_, fun a na => ?_⟩⟩
  · rw [← rvs.length, evs_len q]; exact hz
  · exact p1 m1 _ (e1.rel.laid na) _ (.tup (SqT.of upd_same) (rvs.ext e1.rel (e1.rel.laid na)))

/-- a new list: no value leads to it -/
def RdF (g : Gp) (W : WX) (f : FE) : TE := fun σ H Q => ∃ m env h, Stt g m env h σ H ∧ match f env h with
  | .fail => False
  | .ok d h' => (∃ ds, d = .lst ds) ∧ ∀ m' H', Ext g m h H m' h' H' → ∀ a vs ds, d = .lst ds → H a = none → H' a = some (.lst vs) → Rel g (m'.set a) h' H' → Reps g (m'.set a) h'.length H' ds vs → a ∉ m'.z → Q (.ref a) H'
  | .ex x h' => ∀ m' H', Ext g m h H m' h' H' → ∀ c dd, XRep g m' h'.length x c dd H' → W c dd σ H'
theorem rdF_E {f : FE} (hl : ∀ env h d h', f env h = .ok d h' → ∃ ds, d = .lst ds) {σ : L2.St} {H : Hp} {Q : VK} (q : RdE g W f σ H Q) : RdF g W f σ H Q := by
  obtain ⟨m, env, h, s, p⟩ := q
  refine ⟨m, env, h, s, ?_⟩
  cases e : f env h with
  | fail => rw [e] at p; exact p
  | ex x h' => rw [e] at p; exact p
  | ok d h' =>
    rw [e] at p
    refine ⟨hl _ _ _ _ e, ?_⟩
    intro m' H' x a vs ds ed na e1 rl rs nz
    subst ed
    exact p m' H' x _ (.lst e1 ⟨fun i l => (rl.res a List.mem_cons_self).2 i l, nz⟩ (rs.carry carry_unset))
theorem j_ofF {e : Expr} {f : FE} (hl : ∀ env h d h', f env h = .ok d h' → ∃ ds, d = .lst ds) (h : PE X e (RdF g W f)) : PE X e (RdE g W f) := peImp h fun _ _ _ q => rdF_E hl q
/-- .. a changeable one from now on -/
theorem rd_nw {C : CallT} {c : E} {σ : L2.St} {H : Hp} {Q : VK} (q : RdE g W (ev C (.nw c)) σ H Q) : RdF g W (ev C c) σ H Q := by
  obtain ⟨m, env, h, s, p⟩ := q
  refine ⟨m, env, h, s, ?_⟩
  rw [ev] at p
  cases e : ev C c env h with
  | fail => rw [e] at p; exact p
  | ex x h' => rw [e] at p; exact p
  | ok d h1 =>
    rw [e] at p
    refine ⟨by cases d <;> first | exact ⟨_, rfl⟩ | exact p.elim, ?_⟩
    intro m' H' x a vs ds ed na e1 rl rs nz
    subst ed
    have p' : ∀ m2 H2, Ext g m h H m2 (h1 ++ [.lst ds]) H2 → ∀ v, Rep g m2 (h1 ++ [MO.lst ds]).length H2 (.ref h1.length) v → Q v H2 := p
    have ln : (h1 ++ [MO.lst ds]).length = h1.length + 1 := by simp
    have f2 : (m'.add h1.length a).f h1.length = a := if_pos rfl
    have f1 : ∀ i, i ≠ h1.length → (m'.add h1.length a).f i = m'.f i := fun i l => if_neg l
    have r2 := p' (m'.add h1.length a) H' ⟨rl.add e1 rs nz, by rw [ln]; exact Nat.le_succ_of_le x.len, fun i l => (f1 i (by have := x.len; omega)).trans (x.agree i l), x.keep, fun i l1 l2 => by
      rw [ln] at l2
      by_cases z : i = h1.length
      · subst z; rw [f2]; exact na
      · rw [f1 i z]; exact x.new i l1 (by omega), x.zs⟩
    have := r2 _ (.ref (by rw [ln]; omega))
    rw [f2] at this
    exact this
theorem j_nw {e : Expr} {C : CallT} {c : E} (h0 : PE X e (RdF g W (ev C c))) : PE X e (RdE g W (ev C (.nw c))) := peImp h0 fun _ _ _ q => rd_nw q
theorem ext_set {m m' : AM} {h h' : Hc} {H H' : Hp} {a : Addr} (e : Ext g m h H m' h' H') (na : H' a = none) (o : HO) : Ext g m h H m' h' (upd H' a o) → True := fun _ => trivial
theorem j_lstF {es : List Expr} {C : CallT} {cs : List E} {pos : Pos} (ha : PA X es (RdA g W (evs C cs))) (hz : cs.length ≤ 1000) : PE X (.List es pos) (RdF g W (ev C (.lst cs))) := by
  refine peImp (pe_lst ha) fun σ H Q ⟨m, env, h, s, p⟩ => ?_
  rw [ev] at p
  refine ⟨m, env, h, s, ?_⟩
  cases e : evs C cs env h with
  | fail => rw [e] at p; exact p
  | ex x h' => rw [e] at p; exact p
  | ok ds h1 =>
    rw [e] at p
    intro m1 H1 e1 vs rvs
    refine ⟨k1000 (by rw [← rvs.length, evs_len e]; exact hz), fun a na => ?_⟩
    have na0 : H a = none := by
      cases q : H a with
      | none => rfl
      | some o =>
        by_cases z : ∃ i, i < h.length ∧ m.f i = a
        · obtain ⟨i, l, zi⟩ := z
          obtain ⟨o', w⟩ := e1.rel.holds (Nat.lt_of_lt_of_le l e1.len)
          rw [e1.agree i l, zi, na] at w
          cases w
        · have := e1.keep a o q fun i l w => z ⟨i, l, w⟩
          rw [na] at this
          cases this
    obtain ⟨rl, cr⟩ := e1.rel.reserve (o := .lst vs) na
    exact p.2 m1 _ (Ext.trans s.rel e1 (e1.rel.laid na)) a vs ds rfl na0 upd_same rl (rvs.carry cr) (e1.rel.fresh na).2

/-! ### truth -/
theorem truth_ok {m : AM} {h : Hc} {H : Hp} {d : D} {v : V} {k : Bool} (r : Rel g m h H) (q : Rep g m h.length H d v) (e : truthD h d = some k) : TruV g.K v H k := by
  cases q with
  | non => cases e; rfl
  | bl b => cases e; rfl
  | int i => cases e; rfl
  | str x => cases e
  | tup s rs => cases e; exact .inr (.inl ⟨_, s, by cases rs <;> rfl⟩)
  | lst s o rs => cases e; exact .inl ⟨_, SqL.of s, by cases rs <;> rfl⟩
  | scr s => cases e
  | fn _ => cases e
  | @ref i l =>
    have e' : (match h[i]? with | some (MO.lst ds) => some (!ds.isEmpty) | some (.dct kvs) => some (!kvs.isEmpty) | _ => none) = some k := e
    have z := List.getElem?_eq_getElem l
    have w := r.obj i _ z
    cases o : h[i] with
    | lst ds =>
      rw [o] at z w; rw [z] at e'
      cases e'
      obtain ⟨vs, a, b⟩ := w
      exact .inl ⟨vs, SqL.of a, by cases b <;> rfl⟩
    | dct kvs =>
      rw [o] at z w; rw [z] at e'
      cases e'
      obtain ⟨ws, a, b, _⟩ := w
      exact .inr (.inr ⟨ws, a, by cases b <;> rfl⟩)
    | ins c fs => rw [o] at w; exact w.elim
theorem j_not {a : Expr} {C : CallT} {c : E} {pos : Pos} (hK : X.K = g.K) (ha : PE X a (RdE g W (ev C c))) : PE X (.UnaryOp .Not a pos) (RdE g W (ev C (.notE c))) := by
  refine peImp (pe_notT ha) fun σ H Q ⟨m, env, h, s, p⟩ => ?_
  rw [ev] at p
  refine ⟨m, env, h, s, (Post.bind s.rel p).mono fun d h1 m1 H1 e1 p1 v rv => ?_⟩
  cases e : truthD h1 d with
  | none => rw [e] at p1; exact p1.elim
  | some k =>
    rw [e] at p1
    exact ⟨k, by rw [hK]; exact truth_ok e1.rel rv e, p1 m1 H1 (Ext.refl e1.rel) _ (.bl _)⟩
theorem j_and1 {a : Expr} {C : CallT} {c : E} {pos : Pos} (ha : PE X a (RdE g W (ev C c))) : PE X (.BoolOp .And [a] pos) (RdE g W (evAnd C [c])) := by
  refine peImp (pe_one ha) fun σ H Q ⟨m, env, h, s, p⟩ => ⟨m, env, h, s, ?_⟩
  rw [evAnd] at p
  exact p
theorem j_or1 {a : Expr} {C : CallT} {c : E} {pos : Pos} (ha : PE X a (RdE g W (ev C c))) : PE X (.BoolOp .Or [a] pos) (RdE g W (evOr C [c])) := by
  refine peImp (pe_one ha) fun σ H Q ⟨m, env, h, s, p⟩ => ⟨m, env, h, s, ?_⟩
  rw [evOr] at p
  exact p
theorem evAnd_cons {C : CallT} {c d : E} {cs : List E} {env : Env} {h : Hc} : evAnd C (c :: d :: cs) env h = (ev C c env h).bind fun x h1 => match truthD h1 x with
    | some true => evAnd C (d :: cs) env h1
    | some false => .ok x h1
    | none => .fail := by rw [evAnd] <;> first | rfl | (intro z; cases z)
theorem evOr_cons {C : CallT} {c d : E} {cs : List E} {env : Env} {h : Hc} : evOr C (c :: d :: cs) env h = (ev C c env h).bind fun x h1 => match truthD h1 x with
    | some true => .ok x h1
    | some false => evOr C (d :: cs) env h1
    | none => .fail := by rw [evOr] <;> first | rfl | (intro z; cases z)
theorem j_and {a b : Expr} {rest : List Expr} {C : CallT} {c d : E} {cs : List E} {pos : Pos} (hK : X.K = g.K) (ha : PE X a (RdE g W (ev C c))) (hb : PE X (.BoolOp .And (b :: rest) pos) (RdE g W (evAnd C (d :: cs)))) :
    PE X (.BoolOp .And (a :: b :: rest) pos) (RdE g W (evAnd C (c :: d :: cs))) := by
  refine peImp (pe_andT ha hb) fun σ H Q ⟨m, env, h, s, p⟩ => ?_
  rw [evAnd_cons] at p
  refine ⟨m, env, h, s, (Post.bind s.rel p).mono fun x h1 m1 H1 e1 p1 v rv => ?_⟩
  cases e : truthD h1 x with
  | none => rw [e] at p1; exact p1.elim
  | some k =>
    rw [e] at p1
    refine ⟨k, by rw [hK]; exact truth_ok e1.rel rv e, ?_⟩
    cases k with
    | true => exact iteT ⟨m1, env, h1, s.ext e1, p1⟩
    | false => exact iteF (p1 m1 H1 (Ext.refl e1.rel) _ rv)
theorem j_or {a b : Expr} {rest : List Expr} {C : CallT} {c d : E} {cs : List E} {pos : Pos} (hK : X.K = g.K) (ha : PE X a (RdE g W (ev C c))) (hb : PE X (.BoolOp .Or (b :: rest) pos) (RdE g W (evOr C (d :: cs)))) :
    PE X (.BoolOp .Or (a :: b :: rest) pos) (RdE g W (evOr C (c :: d :: cs))) := by
  refine peImp (pe_orT ha hb) fun σ H Q ⟨m, env, h, s, p⟩ => ?_
  rw [evOr_cons] at p
  refine ⟨m, env, h, s, (Post.bind s.rel p).mono fun x h1 m1 H1 e1 p1 v rv => ?_⟩
  cases e : truthD h1 x with
  | none => rw [e] at p1; exact p1.elim
  | some k =>
    rw [e] at p1
    refine ⟨k, by rw [hK]; exact truth_ok e1.rel rv e, ?_⟩
    cases k with
    | true => exact iteT (p1 m1 H1 (Ext.refl e1.rel) _ rv)
    | false => exact iteF ⟨m1, env, h1, s.ext e1, p1⟩
/-! ### tests -/
theorem j_tE {a : Expr} {C : CallT} {c : E} (hK : X.K = g.K) (ha : PE X a (RdE g W (ev C c))) (he : ∀ whole, PySem.isTrue a X.env whole = (do let v ← whole; standAt a.pos; holding [v] (truthy v))) : PT X a (RdT g W (evT C (.e c))) := by
  refine ptImp (pt_truth ha he) fun σ H Q ⟨m, env, h, s, p⟩ => ?_
  rw [evT] at p
  refine ⟨m, env, h, s, (Post.bind s.rel p).mono fun x h1 m1 H1 e1 p1 v rv => ?_⟩
  cases e : truthD h1 x with
  | none => rw [e] at p1; exact p1.elim
  | some k =>
    rw [e] at p1
    exact ⟨k, by rw [hK]; exact truth_ok e1.rel rv e, p1 m1 H1 (Ext.refl e1.rel)⟩
theorem cmp_bl {co : Cop} {x y d : D} {h : Hc} (e : cmpD co x y h = some d) : ∃ b, d = .bl b := by
  cases co <;> simp only [cmpD, leD] at e <;> (repeat' split at e) <;> first | (cases e; exact ⟨_, rfl⟩) | cases e
theorem j_tCmp {a b : Expr} {op : CmpOp} {co : Cop} {C : CallT} {ca cb : E} {pos : Pos} (ho : OpR X (compareOp op) (RO g fun x y h => keep h (cmpD co x y h))) (ha : PE X a (RdE g W (ev C ca))) (hb : PE X b (RdE g W (ev C cb))) (hm : behindInMarks op b = false) :
    PT X (.Compare a [op] [b] pos) (RdT g W (evT C (.e (.cmp co ca cb)))) := by
  refine ptImp (pt_cmpR ho ha hb hm) fun σ H Q ⟨m, env, h, s, p⟩ => ?_
  rw [evT, ev] at p
  have q : RdE g W (fun env h => (ev C ca env h).bind fun x h1 => (ev C cb env h1).bind fun y h2 => Rs.opt2 (keep h2 (cmpD co x y h2))) σ H (fun x H' => ∃ k, x = .bl k ∧ Q k H') := by
    refine ⟨m, env, h, s, ?_⟩
    have e1 : ∀ (r : Rs D) (k : D → Hc → Rs D) (k2 : D → Hc → Rs Bool), (r.bind k).bind k2 = r.bind fun a h => (k a h).bind k2 := fun r k k2 => by cases r <;> rfl
    rw [e1] at p
    simp only [← opt_keep]
    · cases ea : ev C ca env h with
      | fail => rw [ea] at p; exact p
      | ex x h' => rw [ea] at p; exact p
      | ok x h1 =>
        rw [ea] at p
        simp only [Rs.bind] at p ⊢
        cases eb : ev C cb env h1 with
        | fail => rw [eb] at p; exact p
        | ex x h' => rw [eb] at p; exact p
        | ok y h2 =>
          rw [eb] at p
          simp only [Rs.bind] at p ⊢
          cases ec : cmpD co x y h2 with
          | none => rw [ec] at p; exact p
          | some d =>
            obtain ⟨b, rfl⟩ := cmp_bl ec
            rw [ec] at p
            intro m' H' e v rv
            cases rv
            exact ⟨b, rfl, p m' H' e⟩
  exact rd_two q
theorem j_tNot {a : Expr} {C : CallT} {t : T} {pos : Pos} (ha : PT X a (RdT g W (evT C t))) : PT X (.UnaryOp .Not a pos) (RdT g W (evT C (.not t))) := by
  refine ptImp (pt_not ha) fun σ H Q ⟨m, env, h, s, p⟩ => ?_
  rw [evT] at p
  exact ⟨m, env, h, s, (Post.bind s.rel p).mono fun x h1 m1 H1 e1 p1 => p1 m1 H1 (Ext.refl e1.rel)⟩
theorem j_wAnd1 {a : Expr} {C : CallT} {t : T} {pos : Pos} (ha : PT X a (RdT g W (evT C t))) : PW X (.BoolOp .And [a] pos) (RdT g W (evAll C [t])) := by
  refine pwImp (pw_and1 ha) fun σ H Q ⟨m, env, h, s, p⟩ => ?_
  rw [evAll] at p
  refine ⟨m, env, h, s, (Post.bind s.rel p).mono fun k h1 m1 H1 e1 p1 => ?_⟩
  cases k with
  | true => rw [if_pos rfl, evAll] at p1; exact p1 m1 H1 (Ext.refl e1.rel)
  | false => exact p1 m1 H1 (Ext.refl e1.rel)
theorem j_wOr1 {a : Expr} {C : CallT} {t : T} {pos : Pos} (ha : PT X a (RdT g W (evT C t))) : PW X (.BoolOp .Or [a] pos) (RdT g W (evAny C [t])) := by
  refine pwImp (pw_or1 ha) fun σ H Q ⟨m, env, h, s, p⟩ => ?_
  rw [evAny] at p
  refine ⟨m, env, h, s, (Post.bind s.rel p).mono fun k h1 m1 H1 e1 p1 => ?_⟩
  cases k with
  | true => exact p1 m1 H1 (Ext.refl e1.rel)
  | false => rw [if_neg Bool.false_ne_true, evAny] at p1; exact p1 m1 H1 (Ext.refl e1.rel)
theorem j_wAnd {a b : Expr} {rest : List Expr} {C : CallT} {t : T} {ts : List T} {pos : Pos} (ha : PT X a (RdT g W (evT C t))) (hb : PW X (.BoolOp .And (b :: rest) pos) (RdT g W (evAll C ts))) :
    PW X (.BoolOp .And (a :: b :: rest) pos) (RdT g W (evAll C (t :: ts))) := by
  refine pwImp (pw_and ha hb) fun σ H Q ⟨m, env, h, s, p⟩ => ?_
  rw [evAll] at p
  refine ⟨m, env, h, s, (Post.bind s.rel p).mono fun k h1 m1 H1 e1 p1 => ?_⟩
  cases k with
  | true => exact iteT ⟨m1, env, h1, s.ext e1, p1⟩
  | false => exact iteF (p1 m1 H1 (Ext.refl e1.rel))
theorem j_wOr {a b : Expr} {rest : List Expr} {C : CallT} {t : T} {ts : List T} {pos : Pos} (ha : PT X a (RdT g W (evT C t))) (hb : PW X (.BoolOp .Or (b :: rest) pos) (RdT g W (evAny C ts))) :
    PW X (.BoolOp .Or (a :: b :: rest) pos) (RdT g W (evAny C (t :: ts))) := by
  refine pwImp (pw_or ha hb) fun σ H Q ⟨m, env, h, s, p⟩ => ?_
  rw [evAny] at p
  refine ⟨m, env, h, s, (Post.bind s.rel p).mono fun k h1 m1 H1 e1 p1 => ?_⟩
  cases k with
  | true => exact iteT (p1 m1 H1 (Ext.refl e1.rel))
  | false => exact iteF ⟨m1, env, h1, s.ext e1, p1⟩
theorem j_ife {c a b : Expr} {C : CallT} {t : T} {ca cb : E} {pos : Pos} (hc : PT X c (RdT g W (evT C t))) (ha : PE X a (RdE g W (ev C ca))) (hb : PE X b (RdE g W (ev C cb))) : PE X (.IfExp c a b pos) (RdE g W (ev C (.ife t ca cb))) := by
  refine peImp (pe_ifExp hc ha hb) fun σ H Q ⟨m, env, h, s, p⟩ => ?_
  rw [ev] at p
  refine ⟨m, env, h, s, (Post.bind s.rel p).mono fun k h1 m1 H1 e1 p1 => ?_⟩
  cases k with
  | true => exact iteT ⟨m1, env, h1, s.ext e1, p1⟩
  | false => exact iteF ⟨m1, env, h1, s.ext e1, p1⟩
theorem j_tIfe {c a b : Expr} {C : CallT} {t ta tb : T} {pos : Pos} (hc : PT X c (RdT g W (evT C t))) (ha : PT X a (RdT g W (evT C ta))) (hb : PT X b (RdT g W (evT C tb))) : PT X (.IfExp c a b pos) (RdT g W (evT C (.ife t ta tb))) := by
  refine ⟨fun pins s0 σ H Q I ⟨m, env, h, s, p⟩ => ?_⟩
  rw [evT] at p
  have e : PySem.isTrue (.IfExp c a b pos) X.env (eval (.IfExp c a b pos) X.env) = (do
      if ← PySem.isTrue c X.env (eval c X.env) then PySem.isTrue a X.env (eval a X.env) else PySem.isTrue b X.env (eval b X.env)) := by rw [PySem.isTrue]
  rw [e]
  refine wpAny_bind (thn (hc.run pins s0 σ H (fun k H1 => if k = true then RdT g W (evT C ta) σ H1 Q else RdT g W (evT C tb) σ H1 Q) I ⟨m, env, h, s, (Post.bind s.rel p).mono fun k h1 m1 H1 e1 p1 => ?_⟩) fun k s1 ⟨H1, I1, q1⟩ => ?_)
  · cases k with
    | true => exact iteT ⟨m1, env, h1, s.ext e1, p1⟩
    | false => exact iteF ⟨m1, env, h1, s.ext e1, p1⟩
  · cases k with
    | true => rw [if_pos rfl] at q1 ⊢; exact ha.run pins s1 σ H1 Q I1 q1
    | false => rw [if_neg Bool.false_ne_true] at q1 ⊢; exact hb.run pins s1 σ H1 Q I1 q1
end
end Lad
set_option Elab.async false
set_option linter.all false
set_option maxRecDepth 100000
set_option maxHeartbeats 2000000
/-! Readings: calls, built-ins, methods, slices, chains. -/
namespace Lad
open PySem PySem.Spec PyProof.Rows L2
section
variable {X : Cx} {g : Gp} {l : Nat} {W : WX}
/-- two lists of values in a chain -/
theorem j_chain {a b c : Expr} {op op' : CmpOp} {o1 o2 : Cop} {C : CallT} {ca cb cc : E} {pos : Pos} (ho : OpR X (compareOp op) (RO g fun x y h => keep h (cmpD o1 x y h))) (ho' : OpR X (compareOp op') (RO g fun x y h => keep h (cmpD o2 x y h)))
    (ha : PE X a (RdE g W (ev C ca))) (hb : PE X b (RdE g W (ev C cb))) (hc : PE X c (RdE g W (ev C cc))) (hm : lastMarks [op, op'] [b, c] = false) :
    PE X (.Compare a [op, op'] [b, c] pos) (RdE g W (ev C (.chain o1 o2 ca cb cc))) := by
  refine peImp (pe_chain ho ho' ha hb hc hm) fun σ H Q ⟨m, env, h, s, p⟩ => ?_
  rw [ev] at p
  refine ⟨m, env, h, s, (Post.bind s.rel p).mono fun d h1 m1 H1 e1 p1 v rv => ⟨m1, env, h1, s.ext e1, (Post.bind e1.rel p1).mono fun d' h2 m2 H2 e2 p2 w rw => ?_⟩⟩
  have s2 := (s.ext e1).ext e2
  refine ⟨m2, h2, d, d', e2.rel, rv.ext e1.rel e2, rw, ?_⟩
  show OptP (keep h2 (cmpD o1 d d' h2)) _
  cases ec : cmpD o1 d d' h2 with
  | none => rw [ec] at p2; exact p2
  | some z =>
    obtain ⟨k, rfl⟩ := cmp_bl ec
    rw [ec] at p2
    intro m3 H3 e3 z rz
    cases rz
    refine ⟨k, rfl, ?_⟩
    cases k with
    | false => exact iteF (p2 m3 H3 e3 _ (.bl _))
    | true =>
      refine iteT ⟨m3, env, h2, s2.ext e3, ?_⟩
      have p3 : Post g W σ m2 h2 H2 ((ev C cc env h2).bind fun z h4 => Rs.opt (cmpD o2 d' z h4) h4) (VQ g Q) := p2
      simp only [opt_keep] at p3
      refine (Post.bind e3.rel (Post.later e2.rel e3 p3)).mono fun u h4 m4 H4 e4 p4 y ry => ?_
      exact ⟨m4, h4, d', u, e4.rel, (rw.ext e2.rel e3).ext e3.rel e4, ry, post_opt2 p4⟩
theorem j_tChain {a b c : Expr} {op op' : CmpOp} {o1 o2 : Cop} {C : CallT} {ca cb cc : E} {pos : Pos} (ho : OpR X (compareOp op) (RO g fun x y h => keep h (cmpD o1 x y h))) (ho' : OpR X (compareOp op') (RO g fun x y h => keep h (cmpD o2 x y h)))
    (ha : PE X a (RdE g W (ev C ca))) (hb : PE X b (RdE g W (ev C cb))) (hc : PE X c (RdE g W (ev C cc))) (hm : lastMarks [op, op'] [b, c] = false) :
    PT X (.Compare a [op, op'] [b, c] pos) (RdT g W (evT C (.e (.chain o1 o2 ca cb cc)))) := by
  refine ptImp (pt_chain ho ho' ha hb hc hm) fun σ H Q ⟨m, env, h, s, p⟩ => ?_
  rw [evT, ev] at p
  have e1 : ∀ (r : Rs D) (k : D → Hc → Rs D) (k2 : D → Hc → Rs Bool), (r.bind k).bind k2 = r.bind fun a h => (k a h).bind k2 := fun r k k2 => by cases r <;> rfl
  rw [e1] at p
  refine ⟨m, env, h, s, (Post.bind s.rel p).mono fun d h1 m1 H1 x1 p1 v rv => ⟨m1, env, h1, s.ext x1, ?_⟩⟩
  rw [e1] at p1
  refine (Post.bind x1.rel p1).mono fun d' h2 m2 H2 e2 p2 w rw => ?_
  have s2 := (s.ext x1).ext e2
  refine ⟨m2, h2, d, d', e2.rel, rv.ext x1.rel e2, rw, ?_⟩
  show OptP (keep h2 (cmpD o1 d d' h2)) _
  cases ec : cmpD o1 d d' h2 with
  | none => rw [ec] at p2; exact p2
  | some z =>
    obtain ⟨k, rfl⟩ := cmp_bl ec
    rw [ec] at p2
    intro m3 H3 e3 z rz
    cases rz
    refine ⟨k, rfl, ?_⟩
    cases k with
    | false => exact iteF ⟨false, rfl, p2 m3 H3 e3⟩
    | true =>
      refine iteT ⟨m3, env, h2, s2.ext e3, ?_⟩
      have p3 : Post g W σ m2 h2 H2 (((ev C cc env h2).bind fun z h4 => Rs.opt (cmpD o2 d' z h4) h4).bind fun x h1 => match truthD h1 x with | some t => .ok t h1 | none => .fail) (fun b _ _ H' => Q b H') := p2
      rw [e1] at p3
      refine (Post.bind e3.rel (Post.later e2.rel e3 p3)).mono fun u h4 m4 H4 e4 p4 y ry => ?_
      refine ⟨m4, h4, d', u, e4.rel, (rw.ext e2.rel e3).ext e3.rel e4, ry, ?_⟩
      show OptP (keep h4 (cmpD o2 d' u h4)) _
      cases ed : cmpD o2 d' u h4 with
      | none => rw [ed] at p4; exact p4
      | some z2 =>
        obtain ⟨k2, rfl⟩ := cmp_bl ed
        rw [ed] at p4
        intro m5 H5 e5 z rz
        cases rz
        exact ⟨k2, rfl, p4 m5 H5 e5⟩
theorem j_neg {a : Expr} {C : CallT} {c : E} {pos : Pos} (ha : PE X a (RdE g W (ev C c))) : PE X (.UnaryOp .USub a pos) (RdE g W (ev C (.neg c))) := by
  refine peImp (pe_un un_neg ha) fun σ H Q ⟨m, env, h, s, p⟩ => ?_
  rw [ev] at p
  refine ⟨m, env, h, s, (Post.bind s.rel p).mono fun d h1 m1 H1 e1 p1 v rv => ?_⟩
  cases rv with
  | int i => exact ⟨i, rfl, p1 m1 H1 (Ext.refl e1.rel) _ (.int _)⟩
  | _ => exact False.elim p1
/-! ### slices -/
/-- an end: none where it is not written -/
def PartIs (d : D) (o : Option Int) : Prop := (d = .non ∧ o = none) ∨ ∃ i, d = .int i ∧ o = some i
def RdO (g : Gp) (W : WX) (f : FE) : TO := fun σ H Q => ∃ m env h, Stt g m env h σ H ∧ Post g W σ m h H (f env h) fun d h' m' H' => ∀ o, PartIs d o → Q o H'
theorem j_oNone (C : CallT) : PO X none (RdO g W fun env h => (ev C (.c .non) env h).bind (isP (.c .non))) := by
  refine ⟨fun pins s0 σ H Q I ⟨m, env, h, s, p⟩ => po_none.run pins s0 σ H Q I ?_⟩
  have p' : Post g W σ m h H ((ev C (.c .non) env h).bind (isP (.c .non))) fun d h' m' H' => ∀ o, PartIs d o → Q o H' := p
  rw [show ev C (.c .non) env h = .ok .non h by rw [ev]] at p'
  exact p' m H (Ext.refl s.rel) none (.inl ⟨rfl, rfl⟩)
def RS (g : Gp) (f : D → D → D → Hc → Option D) : V → Option Int → Option Int → Hp → VK → Prop := fun x lo hi H Q => ∃ m h d i j, Rel g m h H ∧ Rep g m h.length H d x ∧ PartIs i lo ∧ PartIs j hi ∧ OptP (keep h (f d i j h)) (Left g m h H (VQ g Q))
theorem j_sl {a : Expr} {lo hi : Option Expr} {C : CallT} {c ci cj : E} {p2 pos : Pos} (hr : SlR X (RS g slD)) (ha : PE X a (RdE g W (ev C c))) (hl : PO X lo (RdO g W fun env h => (ev C ci env h).bind (isP ci))) (hh : PO X hi (RdO g W fun env h => (ev C cj env h).bind (isP cj))) :
    PE X (.Subscript a (.Slice lo hi none p2) pos) (RdE g W (ev C (.sl c ci cj))) := by
  refine peImp (pe_slice hr ha hl hh) fun σ H Q ⟨m, env, h, s, p⟩ => ?_
  rw [ev] at p
  refine ⟨m, env, h, s, (Post.bind s.rel p).mono fun d h1 m1 H1 e1 p1 v rv => ⟨m1, env, h1, s.ext e1, (Post.bind e1.rel p1).mono fun i h2 m2 H2 e2 p2 o ho =>
    ⟨m2, env, h2, (s.ext e1).ext e2, (Post.bind e2.rel p2).mono fun j h3 m3 H3 e3 p3 o' ho' => ?_⟩⟩⟩
  rw [opt_keep] at p3
  exact ⟨m3, h3, d, i, j, e3.rel, (rv.ext e1.rel e2).ext e2.rel e3, ho, ho', post_opt2 p3⟩
theorem j_oSome {e : Expr} {C : CallT} {c : E} (hn : noneE c = false) (ha : PE X e (RdE g W (ev C c))) : PO X (some e) (RdO g W fun env h => (ev C c env h).bind (isP c)) := by
  refine ⟨fun pins s0 σ H Q I ⟨m, env, h, s, p⟩ => (po_some ha).run pins s0 σ H Q I ⟨m, env, h, s, (Post.bind s.rel p).mono fun d h1 m1 H1 e1 p1 v rv => ?_⟩⟩
  have p2 : Post g W σ m1 h1 H1 (if noneE c || isI d then .ok d h1 else .fail) fun d h' m' H' => ∀ o, PartIs d o → Q o H' := p1
  rw [hn, Bool.false_or] at p2
  cases rv with
  | int i => exact ⟨i, rfl, p2 m1 H1 (Ext.refl e1.rel) (some i) (.inr ⟨i, rfl, rfl⟩)⟩
  | _ => exact False.elim p2
/-! ### calls -/
/-- the promise: what the clean call says -/
def spC (g : Gp) (f : List D → Hc → Rs D) : Sp := fun vs H Q E => ∃ m h ds, Rel g m h H ∧ Reps g m h.length H ds vs ∧ Post g (fun c d _ H => E c d H) [] m h H (f ds h) (VQ g Q)
structure FnAt (g : Gp) (X : Cx) (l : Nat) (C : CallT) (f : Nat) : Prop where
  ok : ∃ fd ps, FnOk X.prog X.w X.K X.mg X.base (L2.CX X.prog X.w) l (g.fa f) fd ps (spC g (C f)) ∧ Binds X.K fd ps []
  kp : PySem.W.keepIn X.K (.ref (g.fa f)) = true
theorem call_rd {C : CallT} {f : Nat} {cs : List E} {σ : L2.St} {H : Hp} {Q : VK} (q : RdE g W (fun env h => (evs C cs env h).bind fun ds h1 => C f ds h1) σ H Q) :
    RdA g W (evs C cs) σ H fun vs H1 => spC g (C f) vs H1 Q (WE W σ) := by
  obtain ⟨m, env, h, s, p⟩ := q
  refine ⟨m, env, h, s, (Post.bind s.rel p).mono fun ds h1 m1 H1 e1 p1 vs rvs => ⟨m1, h1, ds, e1.rel, rvs, ?_⟩⟩
  cases e : C f ds h1 with
  | fail => rw [e] at p1; exact p1
  | ok d h2 => rw [e] at p1; exact p1
  | ex x h2 => rw [e] at p1; exact p1
theorem j_call {x : Str} {e : Expr} {es : List Expr} {C : CallT} {f : Nat} {cs : List E} {p pos : Pos} (k : Cok g l X W) (F : FnAt g X l C f) (hg : Gl X x) (hm : X.mg x = some (.ref (g.fa f))) (ha : PA X (e :: es) (RdA g W (evs C cs)))
    (hdb : (x == ("__debug__" : Str)) = false) (he : starEach (e :: es) X.env = (false, eval e X.env) :: starEach es X.env) (hpl : (backTo pos (starEach es X.env)).any (·.1) = false) :
    PE X (.Call (.Name x p) (e :: es) [] pos) (RdE g W (ev C (.call f cs))) := by
  obtain ⟨⟨fd, ps, F1, hb⟩, hk⟩ := F
  refine peImp (pe_callS F1 k.room hg hm hk hb k.pass ha hdb he hpl) fun σ H Q q => ?_
  have q' : RdE g W (fun env h => (evs C cs env h).bind fun ds h1 => C f ds h1) σ H Q := by
    obtain ⟨m, env, h, s, p⟩ := q
    rw [ev] at p
    exact ⟨m, env, h, s, p⟩
  exact call_rd q'
theorem j_callv {x : Str} {i : Nat} {e : Expr} {es : List Expr} {C : CallT} {cs : List E} {p pos : Pos} (k : Cok g l X W) (F : ∀ f, g.dom f = true → FnAt g X l C f) (hN : X.N[i]? = some x) (hv : Vis X.env.scope x) (ha : PA X (e :: es) (RdA g W (evs C cs)))
    (hdb : (x == ("__debug__" : Str)) = false) (hcd : (x == ("__classdict__" : Str)) = false) (he : starEach (e :: es) X.env = (false, eval e X.env) :: starEach es X.env) (hpl : (backTo pos (starEach es X.env)).any (·.1) = false) :
    PE X (.Call (.Name x p) (e :: es) [] pos) (RdE g W (ev C (.callv i cs))) := by
  refine ⟨fun pins s0 σ H Q I ⟨m, env, h, s, p⟩ => ?_⟩
  rw [ev] at p
  cases ee : env[i]? with
  | none => rw [ee] at p; exact p.elim
  | some o =>
    cases o with
    | none => rw [ee] at p; exact p.elim
    | some d =>
      cases d with
      | fn f =>
        rw [ee] at p
        obtain ⟨v, e1, rv⟩ := s.at_ i _ ee
        cases rv with
        | fn dk =>
        obtain ⟨⟨fd, ps, F1, hb⟩, hk⟩ := F f dk
        refine wpAny_Call_Name_kw (thn ((pe_var hN hv hdb hcd).run pins s0 σ H (fun v H1 => v = .ref (g.fa f) ∧ H1 = H) I ⟨.ref (g.fa f), e1, rfl, rfl⟩) fun u s1 ⟨v, H1, I1, r1, q1⟩ => ?_)
        obtain ⟨rfl, rfl⟩ := q1
        cases r1
        have q' : RdE g W (fun env h => (evs C cs env h).bind fun ds h1 => C f ds h1) σ H1 Q := ⟨m, env, h, s, p⟩
        refine PySem.W.callWith_K (h₀ := X.base) I.ok.mod.kin hk (thn (ha.run pos pins s1 σ _ _ I1 (call_rd q')) fun us s2 ⟨vs, H2, I2, r, q⟩ => ⟨I2.kIn, ?_⟩) he hpl
        exact run_fnS F1 k.room hb (k.pass σ) I2 r q
      | _ => rw [ee] at p; exact p.elim
/-! ### built-ins by values -/
def RB (g : Gp) (f : List D → Hc → Option (D × Hc)) : List V → Hp → VK → Prop := fun vs H Q => ∃ m h ds, Rel g m h H ∧ Reps g m h.length H ds vs ∧ OptP (f ds h) (Left g m h H (VQ g Q))
theorem rd_bi {C : CallT} {cs : List E} {op : List D → Hc → Option (D × Hc)} {σ : L2.St} {H : Hp} {Q : VK} (q : RdE g W (fun env h => (evs C cs env h).bind fun ds h1 => Rs.opt2 (op ds h1)) σ H Q) :
    RdA g W (evs C cs) σ H fun vs H1 => RB g op vs H1 Q := by
  obtain ⟨m, env, h, s, p⟩ := q
  exact ⟨m, env, h, s, (Post.bind s.rel p).mono fun ds h1 m1 H1 e1 p1 vs rvs => ⟨m1, h1, ds, e1.rel, rvs, post_opt2 p1⟩⟩
theorem ev_bi {C : CallT} {b : BI} {cs : List E} : ev C (.bi b cs) = fun env h => (evs C cs env h).bind fun ds h1 => Rs.opt2 (biD b ds h1) := by funext env h; rw [ev]
theorem j_biB {x : Str} {id : String} {e : Expr} {es : List Expr} {C : CallT} {b : BI} {cs : List E} {p pos : Pos} (hc : CallR X (.builtin id) (RB g (biD b))) (hg : Gl X x) (hm : X.mg x = none) (hv : bootBuiltins x = some (.builtin id)) (ha : PA X (e :: es) (RdA g W (evs C cs)))
    (hn : x ≠ "__name__") (hdb : (x == ("__debug__" : Str)) = false) (he : starEach (e :: es) X.env = (false, eval e X.env) :: starEach es X.env) (hpl : (backTo pos (starEach es X.env)).any (·.1) = false) :
    PE X (.Call (.Name x p) (e :: es) [] pos) (RdE g W (ev C (.bi b cs))) :=
  peImp (pe_callB hc hg hm hv ha hn hdb he hpl) fun σ H Q q => rd_bi (by rw [ev_bi] at q; exact q)
theorem j_biT {x : Str} {T : String} {e : Expr} {es : List Expr} {C : CallT} {b : BI} {cs : List E} {p pos : Pos} (hc : CallR X (.type T) (RB g (biD b))) (hg : Gl X x) (hm : X.mg x = none) (hv : bootBuiltins x = some (.type T)) (ha : PA X (e :: es) (RdA g W (evs C cs)))
    (hn : x ≠ "__name__") (hdb : (x == ("__debug__" : Str)) = false) (he : starEach (e :: es) X.env = (false, eval e X.env) :: starEach es X.env) (hpl : (backTo pos (starEach es X.env)).any (·.1) = false) :
    PE X (.Call (.Name x p) (e :: es) [] pos) (RdE g W (ev C (.bi b cs))) :=
  peImp (pe_callTy hc hg hm hv ha hn hdb he hpl) fun σ H Q q => rd_bi (by rw [ev_bi] at q; exact q)
/-- a built-in that makes a new list -/
def RBL (g : Gp) (fl : Hc → List D → Option (List D)) : List V → Hp → VK → Prop := fun vs H Q => ∃ m h ds es, Rel g m h H ∧ Reps g m h.length H ds vs ∧ fl h ds = some es ∧ ∀ p ws, H p = none → Reps g m h.length H es ws → ws.length ≤ sizeLine → Q (.ref p) (upd H p (.lst ws))
theorem rdF_bi {C : CallT} {b : BI} {cs : List E} {fl : Hc → List D → Option (List D)} (hf : ∀ ds h, biD b ds h = keep h ((fl h ds).map .lst)) {σ : L2.St} {H : Hp} {Q : VK} (q : RdF g W (ev C (.bi b cs)) σ H Q) :
    RdA g W (evs C cs) σ H fun vs H1 => RBL g fl vs H1 Q := by
  obtain ⟨m, env, h, s, p⟩ := q
  refine ⟨m, env, h, s, ?_⟩
  rw [ev] at p
  cases e : evs C cs env h with
  | fail => rw [e] at p; exact p
  | ex x h' => rw [e] at p; exact p
  | ok ds h1 =>
    rw [e] at p
    intro m1 H1 e1 vs rvs
    simp only [Rs.bind, hf] at p
    cases ef : fl h1 ds with
    | none => rw [ef] at p; exact False.elim p
    | some es =>
      rw [ef] at p
      refine ⟨m1, h1, ds, es, e1.rel, rvs, ef, fun a ws na rws hz => ?_⟩
      have na0 : H a = none := by
        cases q : H a with
        | none => rfl
        | some o =>
          by_cases z : ∃ i, i < h.length ∧ m.f i = a
          · obtain ⟨i, l, zi⟩ := z
            obtain ⟨o', w⟩ := e1.rel.holds (Nat.lt_of_lt_of_le l e1.len)
            rw [e1.agree i l, zi, na] at w
            cases w
          · have := e1.keep a o q fun i l w => z ⟨i, l, w⟩
            rw [na] at this
            cases this
      obtain ⟨rl, cr⟩ := e1.rel.reserve (o := .lst ws) na
      exact p.2 m1 _ (Ext.trans s.rel e1 (e1.rel.laid na)) a ws es rfl na0 upd_same rl (rws.carry cr) (e1.rel.fresh na).2
theorem j_biTF {x : Str} {T : String} {e : Expr} {es : List Expr} {C : CallT} {b : BI} {cs : List E} {fl : Hc → List D → Option (List D)} {p pos : Pos} (hf : ∀ ds h, biD b ds h = keep h ((fl h ds).map .lst)) (hc : CallR X (.type T) (RBL g fl)) (hg : Gl X x) (hm : X.mg x = none) (hv : bootBuiltins x = some (.type T)) (ha : PA X (e :: es) (RdA g W (evs C cs)))
    (hn : x ≠ "__name__") (hdb : (x == ("__debug__" : Str)) = false) (he : starEach (e :: es) X.env = (false, eval e X.env) :: starEach es X.env) (hpl : (backTo pos (starEach es X.env)).any (·.1) = false) :
    PE X (.Call (.Name x p) (e :: es) [] pos) (RdF g W (ev C (.bi b cs))) :=
  peImp (pe_callTy hc hg hm hv ha hn hdb he hpl) fun σ H Q q => rdF_bi hf q
theorem j_biBF {x : Str} {id : String} {e : Expr} {es : List Expr} {C : CallT} {b : BI} {cs : List E} {fl : Hc → List D → Option (List D)} {p pos : Pos} (hf : ∀ ds h, biD b ds h = keep h ((fl h ds).map .lst)) (hc : CallR X (.builtin id) (RBL g fl)) (hg : Gl X x) (hm : X.mg x = none) (hv : bootBuiltins x = some (.builtin id)) (ha : PA X (e :: es) (RdA g W (evs C cs)))
    (hn : x ≠ "__name__") (hdb : (x == ("__debug__" : Str)) = false) (he : starEach (e :: es) X.env = (false, eval e X.env) :: starEach es X.env) (hpl : (backTo pos (starEach es X.env)).any (·.1) = false) :
    PE X (.Call (.Name x p) (e :: es) [] pos) (RdF g W (ev C (.bi b cs))) :=
  peImp (pe_callB hc hg hm hv ha hn hdb he hpl) fun σ H Q q => rdF_bi hf q
/-! ### binary operations that make a new list -/
def ROL (g : Gp) (fl : D → D → Option (List D)) : R2 := fun x y H Q => ∃ m h dx dy es, Rel g m h H ∧ Rep g m h.length H dx x ∧ Rep g m h.length H dy y ∧ fl dx dy = some es ∧ ∀ p ws, H p = none → Reps g m h.length H es ws → ws.length ≤ sizeLine → Q (.ref p) (upd H p (.lst ws))
theorem na_back {m m1 : AM} {h h1 : Hc} {H H1 : Hp} (e1 : Ext g m h H m1 h1 H1) {a : Addr} (na : H1 a = none) : H a = none := by
  cases q : H a with
  | none => rfl
  | some o =>
    by_cases z : ∃ i, i < h.length ∧ m.f i = a
    · obtain ⟨i, l, zi⟩ := z
      obtain ⟨o', w⟩ := e1.rel.holds (Nat.lt_of_lt_of_le l e1.len)
      rw [e1.agree i l, zi, na] at w
      cases w
    · have := e1.keep a o q fun i l w => z ⟨i, l, w⟩
      rw [na] at this
      cases this
/-- the lists that an operation makes -/
def binL (bo : Bop) (x y : D) : Option (List D) := match binD bo x y with
  | some (.lst l) => some l
  | _ => none
theorem j_binF {a b : Expr} {op : Operator} {bo : Bop} {C : CallT} {ca cb : E} {pos : Pos} (hr : OpR X (binaryOp op) (ROL g (binL bo))) (ha : PE X a (RdE g W (ev C ca))) (hb : PE X b (RdE g W (ev C cb))) :
    PE X (.BinOp a op b pos) (RdF g W (ev C (.bin bo ca cb))) := by
  refine peImp (pe_op hr ha hb) fun σ H Q ⟨m, env, h, s, p⟩ => ?_
  rw [ev] at p
  refine ⟨m, env, h, s, ?_⟩
  cases e : ev C ca env h with
  | fail => rw [e] at p; exact p
  | ex x h' => rw [e] at p; exact p
  | ok dx h1 =>
    rw [e] at p
    simp only [Rs.bind] at p
    intro m1 H1 e1 v rv
    refine ⟨m1, env, h1, s.ext e1, ?_⟩
    cases e' : ev C cb env h1 with
    | fail => rw [e'] at p; exact p
    | ex x h' => rw [e'] at p; exact fun m' H' e2 => p m' H' (Ext.trans s.rel e1 e2)
    | ok dy h2 =>
      rw [e'] at p
      simp only [Rs.bind] at p
      intro m2 H2 e2 w rw
      cases eb : binD bo dx dy with
      | none => rw [eb] at p; exact False.elim p
      | some r =>
        rw [eb] at p
        have x2 := Ext.trans s.rel e1 e2
        obtain ⟨l, rfl⟩ := p.1
        refine ⟨m2, h2, dx, dy, l, e2.rel, rv.ext e1.rel e2, rw, by unfold binL; rw [eb], fun a ws na rws hz => ?_⟩
        obtain ⟨rl, cr⟩ := e2.rel.reserve (o := .lst ws) na
        exact p.2 m2 _ (Ext.trans s.rel x2 (e2.rel.laid na)) a ws l rfl (na_back x2 na) upd_same rl (rws.carry cr) (e2.rel.fresh na).2
end
end Lad
set_option Elab.async false
set_option linter.all false
set_option maxRecDepth 100000
set_option maxHeartbeats 2000000
/-! Readings: methods, isinstance, walks, comprehensions. -/
namespace Lad
open PySem PySem.Spec PyProof.Rows L2
section
variable {X : Cx} {g : Gp} {l : Nat} {W : WX}
/-! ### methods -/
def RM (g : Gp) (mt : Mt) (d : D) : V → List V → Hp → VK → Prop := fun x vs H Q => ∃ m h ds, Rel g m h H ∧ Rep g m h.length H d x ∧ Reps g m h.length H ds vs ∧ OptP (methD mt d ds h) (Left g m h H (VQ g Q))
/-- a method of the thing x (as it stands in h) -/
structure MAlt (g : Gp) (X : Cx) (mt : Mt) (name : Str) (d : D) (h : Hc) : Prop where
  ex : ∃ T id, PlainAttrs T ∧ Slot T name id ∧ typeOf (.builtin id) = pure (.type "method_descriptor") ∧ (∀ m H v, Rel g m h H → Rep g m h.length H d v → tyV X.K T v H) ∧ MtR X id (RM g mt d)
theorem j_meth {o : Expr} {name : Str} {e : Expr} {es : List Expr} {C : CallT} {mt : Mt} {c : E} {cs : List E} {apos cpos : Pos} (hk : ∀ d h, recvOk mt h d = true → MAlt g X mt name d h) (d0 : D) (h0 : Hc) (k0 : recvOk mt h0 d0 = true)
    (ho : PE X o (RdE g W (ev C c))) (ha : PA X (e :: es) (RdA g W (evs C cs))) (hbase : attributeBase o name X.env (eval o X.env) = eval o X.env)
    (hfew : ((backTo cpos (starEach (e :: es) X.env)).all (fun x => !x.1) && (backToKw cpos (keywordEach [] X.env)).all (fun x => x.1.isSome)
      && decide ((e :: es).length + ([] : List Keyword).length + (if ([] : List Keyword).isEmpty then 0 else 1) < 30)) = true)
    (hline : (apos.endLine == cpos.line) = true) (hs : starEach (e :: es) X.env = (false, eval e X.env) :: starEach es X.env) (hplain : (backTo cpos (starEach es X.env)).any (·.1) = false) :
    PE X (.Call (.Attribute o name apos) (e :: es) [] cpos) (RdE g W (ev C (.meth mt c cs))) := by
  refine peOf fun σ H Q ⟨m, env, h, s, p⟩ => ?_
  rw [ev] at p
  cases ec : ev C c env h with
  | fail => rw [ec] at p; exact p.elim
  | ex x h1 =>
    rw [ec] at p
    obtain ⟨T, id, pa, sl, ty, tv, mr⟩ := (hk d0 h0 k0).ex
    refine ⟨_, pe_bm pa sl ty mr ho ha hbase hfew hline hs hplain, m, env, h, s, ?_⟩
    rw [ec]
    exact p
  | ok d h1 =>
    rw [ec] at p
    cases er : recvOk mt h1 d with
    | false => simp only [Rs.bind, er] at p; exact False.elim p
    | true =>
      simp only [Rs.bind, er, if_true] at p
      obtain ⟨T, id, pa, sl, ty, tv, mr⟩ := (hk d h1 er).ex
      refine ⟨_, pe_bm pa sl ty mr ho ha hbase hfew hline hs hplain, m, env, h, s, ?_⟩
      rw [ec]
      intro m1 H1 e1 v rv
      refine ⟨tv m1 H1 v e1.rel rv, m1, env, h1, s.ext e1, (Post.bind e1.rel (Post.later s.rel e1 p)).mono fun ds h2 m2 H2 e2 p2 vs rvs => ?_⟩
      exact ⟨m2, h2, ds, e2.rel, rv.ext e1.rel e2, rvs, post_opt2 p2⟩
theorem j_meth0 {o : Expr} {name : Str} {C : CallT} {mt : Mt} {c : E} {apos cpos : Pos} (hk : ∀ d h, recvOk mt h d = true → MAlt g X mt name d h) (d0 : D) (h0 : Hc) (k0 : recvOk mt h0 d0 = true)
    (ho : PE X o (RdE g W (ev C c))) (hbase : attributeBase o name X.env (eval o X.env) = eval o X.env) (hline : (apos.endLine == cpos.line) = true) :
    PE X (.Call (.Attribute o name apos) [] [] cpos) (RdE g W (ev C (.meth mt c []))) := by
  refine peOf fun σ H Q ⟨m, env, h, s, p⟩ => ?_
  rw [ev] at p
  cases ec : ev C c env h with
  | fail => rw [ec] at p; exact p.elim
  | ex x h1 =>
    rw [ec] at p
    obtain ⟨T, id, pa, sl, ty, tv, mr⟩ := (hk d0 h0 k0).ex
    refine ⟨_, pe_bm0 pa sl ty mr ho hbase hline, m, env, h, s, ?_⟩
    rw [ec]
    exact p
  | ok d h1 =>
    rw [ec] at p
    cases er : recvOk mt h1 d with
    | false => simp only [Rs.bind, er] at p; exact False.elim p
    | true =>
      simp only [Rs.bind, er, if_true, evs] at p
      obtain ⟨T, id, pa, sl, ty, tv, mr⟩ := (hk d h1 er).ex
      refine ⟨_, pe_bm0 pa sl ty mr ho hbase hline, m, env, h, s, ?_⟩
      rw [ec]
      intro m1 H1 e1 v rv
      exact ⟨tv m1 H1 v e1.rel rv, m1, h1, [], e1.rel, rv, .nil, post_opt2 (Post.later s.rel e1 p)⟩

/-! ### isinstance -/
def tyStr (h : Hc) : D → Option String
  | .non => some "NoneType"
  | .bl _ => some "bool"
  | .int _ => some "int"
  | .str _ => some "str"
  | .tup _ => some "tuple"
  | .lst _ => some "list"
  | .ref i => match h[i]? with
    | some (.lst _) => some "list"
    | _ => none
  | _ => none
theorem tyx_of {m : AM} {h : Hc} {H : Hp} {d : D} {v : V} {t : String} (r : Rel g m h H) (q : Rep g m h.length H d v) (e : tyStr h d = some t) : TyX g.K H v (.type t) := by
  cases q with
  | non => cases e; exact .base .non
  | bl b => cases e; exact .base (.bl b)
  | int i => cases e; exact .base (.int i)
  | str x => cases e; exact .base (.str _)
  | tup s rs =>
    cases e
    rcases s with (s | ⟨o, s⟩) | ⟨o, its, n, s, c, _⟩
    · exact .base (.tup s)
    · exact .fTuple s
    · exact .kTuple s c
  | lst s o rs => cases e; exact .base (.lst s)
  | scr s => cases e
  | fn _ => cases e
  | @ref i lt =>
    have e' : (match h[i]? with | some (MO.lst ds) => some "list" | _ => none) = some t := e
    have z := List.getElem?_eq_getElem lt
    have w := r.obj i _ z
    cases o : h[i] with
    | lst ds =>
      rw [o] at z w; rw [z] at e'
      cases e'
      obtain ⟨vs, a, b⟩ := w
      exact .base (.lst a)
    | dct kvs => rw [o] at z; rw [z] at e'; cases e'
    | ins c fs => rw [o] at z; rw [z] at e'; cases e'
def tyName : Ty → Option String
  | .int => some "int"
  | .bool => some "bool"
  | .str => some "str"
  | .list => some "list"
  | .tuple => some "tuple"
  | _ => none
theorem kit_all : ∀ a ∈ ["NoneType", "bool", "int", "str", "tuple", "list"], ∀ b ∈ ["int", "bool", "str", "list", "tuple"], kitB a b = some (a == b || (a == "bool" && b == "int")) := by decide +kernel
theorem isi_str {h : Hc} {d : D} {t : Ty} {n : String} {b : Bool} (hn : tyName t = some n) (e : isiD h d t = some b) : ∃ s, tyStr h d = some s ∧ kitB s n = some b := by
  have key : ∀ s, s ∈ ["NoneType", "bool", "int", "str", "tuple", "list"] → kitB s n = some (s == n || (s == "bool" && n == "int")) := fun s hs => kit_all s hs n (by cases t <;> simp [tyName] at hn <;> subst hn <;> simp)
  cases d with
  | non => refine ⟨_, rfl, ?_⟩; rw [key _ (by simp)]; cases t <;> simp [tyName] at hn <;> subst hn <;> (cases e; rfl)
  | bl x => refine ⟨_, rfl, ?_⟩; rw [key _ (by simp)]; cases t <;> simp [tyName] at hn <;> subst hn <;> (cases e; rfl)
  | int x => refine ⟨_, rfl, ?_⟩; rw [key _ (by simp)]; cases t <;> simp [tyName] at hn <;> subst hn <;> (cases e; rfl)
  | str x => refine ⟨_, rfl, ?_⟩; rw [key _ (by simp)]; cases t <;> simp [tyName] at hn <;> subst hn <;> (cases e; rfl)
  | tup x => refine ⟨_, rfl, ?_⟩; rw [key _ (by simp)]; cases t <;> simp [tyName] at hn <;> subst hn <;> (cases e; rfl)
  | lst x => refine ⟨_, rfl, ?_⟩; rw [key _ (by simp)]; cases t <;> simp [tyName] at hn <;> subst hn <;> (cases e; rfl)
  | ref i =>
    have e' : (match h[i]? with | some (MO.lst _) => some (t == .list) | _ => none) = some b := e
    show ∃ s, (match h[i]? with | some (MO.lst _) => some "list" | _ => none) = some s ∧ kitB s n = some b
    cases q : h[i]? with
    | none => rw [q] at e'; cases e'
    | some o =>
      rw [q] at e'
      cases o with
      | lst ds => refine ⟨_, rfl, ?_⟩; rw [key _ (by simp)]; cases t <;> simp [tyName] at hn <;> subst hn <;> (cases e'; rfl)
      | _ => cases e'
  | exc c a => cases t <;> simp [tyName] at hn <;> cases e
  | _ => cases e
def tyNames : List Ty → Option (List String)
  | [] => some []
  | t :: ts => match tyName t, tyNames ts with
    | some n, some l => some (n :: l)
    | _, _ => none
theorem isi_any {K : PySem.W.Frag} {h : Hc} {d : D} : ∀ {ts : List Ty} {ns : List String} {b : Bool}, tyNames ts = some ns → isiAny h d ts = some b → ts ≠ [] → ∃ s, tyStr h d = some s ∧ PySem.W.kitAny K (.type s) (ns.map Value.type) = some b
  | [], _, _, _, _, z => absurd rfl z
  | t :: ts, ns, b, hn, e, _ => by
    unfold tyNames at hn
    cases h1 : tyName t with
    | none => rw [h1] at hn; cases hn
    | some n =>
      cases h2 : tyNames ts with
      | none => rw [h1, h2] at hn; cases hn
      | some l =>
        rw [h1, h2] at hn
        cases hn
        unfold isiAny at e
        cases h3 : isiD h d t with
        | none => rw [h3] at e; cases e
        | some k =>
          obtain ⟨s, hs, hk⟩ := isi_str h1 h3
          refine ⟨s, hs, ?_⟩
          rw [h3] at e
          rw [List.map_cons]
          cases k with
          | true => cases e; exact kitAny_cons (kit_ty hk) (fun z => by cases z) fun _ => rfl
          | false =>
            refine kitAny_cons (kit_ty hk) (fun _ => ?_) fun z => by cases z
            by_cases ez : ts = []
            · subst ez
              cases h2
              cases e
              rfl
            · obtain ⟨s', hs', hk'⟩ := isi_any (K := K) h2 e ez
              rw [hs] at hs'
              cases hs'
              exact hk'
theorem isi_one {h : Hc} {d : D} {t : Ty} {b : Bool} (e : isiAny h d [t] = some b) : isiD h d t = some b := by
  unfold isiAny at e
  cases q : isiD h d t with
  | none => rw [q] at e; cases e
  | some k => rw [q] at e; cases k <;> (cases e; rfl)
theorem isiAny_str {h : Hc} {d : D} {ts : List Ty} {ns : List String} {b : Bool} (hn : tyNames ts = some ns) (e : isiAny h d ts = some b) (z : ts ≠ []) : ∃ s, tyStr h d = some s := by
  obtain ⟨s, hs, _⟩ := isi_any (K := []) hn e z
  exact ⟨s, hs⟩
/-- the names of built-in types, in a tuple -/
theorem pa_types {X : Cx} : ∀ {es : List Expr} {ns : List String}, (∀ (i : Nat) (e : Expr), es[i]? = some e → ∃ n, ns[i]? = some n ∧ PE X e (tC (.ty n)) ∧ ∀ r, starEach (e :: r) X.env = (false, eval e X.env) :: starEach r X.env) → es.length = ns.length → PA X es (fun _ H Q => Q (ns.map V.ty) H)
  | [], [], _, _ => pa_nil
  | e :: es, n :: ns, h, hl => by
    obtain ⟨n', e1, p, st⟩ := h 0 e rfl
    cases e1
    exact pa_cons p (pa_types (fun i e q => h (i + 1) e q) (by simpa using hl)) (st es)
  | [], _ :: _, _, hl => by simp at hl
  | _ :: _, [], _, hl => by simp at hl
theorem paired_ty : ∀ ns : List String, Paired ClsV (ns.map V.ty) (ns.map Value.type)
  | [] => .nil
  | n :: ns => .cons (.ty n) (paired_ty ns)
theorem j_isi1 {a : Expr} {tx : Expr} {C : CallT} {c : E} {t : Ty} {n : String} {p pos : Pos} (hK : X.K = g.K) (hn : tyName t = some n) (hg : Gl X "isinstance") (hm : X.mg "isinstance" = none) (ha : PE X a (RdE g W (ev C c))) (ht : PE X tx (tC (.ty n)))
    (hs : starEach [a, tx] X.env = (false, eval a X.env) :: starEach [tx] X.env) (hs2 : starEach [tx] X.env = (false, eval tx X.env) :: starEach [] X.env) (hpl : (backTo pos (starEach [tx] X.env)).any (·.1) = false) :
    PE X (.Call (.Name "isinstance" p) [a, tx] [] pos) (RdE g W (ev C (.isi c [t]))) := by
  refine peImp (pe_callB call_isi hg hm (by decide +kernel) (pa_cons ha (pa_cons ht pa_nil hs2) hs) (by decide) (by decide) hs hpl) fun σ H Q ⟨m, env, h, s, p⟩ => ?_
  rw [ev] at p
  refine ⟨m, env, h, s, (Post.bind s.rel p).mono fun d h1 m1 H1 e1 p1 v rv => ?_⟩
  cases e : isiAny h1 d [t] with
  | none => rw [e] at p1; exact False.elim p1
  | some b =>
    rw [e] at p1
    obtain ⟨st, hst, hkb⟩ := isi_str hn (isi_one e)
    refine ⟨v, .ty n, .type st, .type n, b, rfl, .ty n, by rw [hK]; exact tyx_of e1.rel rv hst, kit_ty hkb, p1 m1 H1 (Ext.refl e1.rel) _ (.bl b)⟩
theorem j_isiT {a : Expr} {txs : List Expr} {kk : Nat} {tp : Pos} {C : CallT} {c : E} {ts : List Ty} {ns : List String} {p pos : Pos} (hK : X.K = g.K) (hn : tyNames ts = some ns) (hz : ts ≠ []) (hl : ns.length ≤ 1000) (hg : Gl X "isinstance") (hm : X.mg "isinstance" = none) (ha : PE X a (RdE g W (ev C c)))
    (ht : PA X txs (fun _ H Q => Q (ns.map V.ty) H))
    (hs : starEach [a, .Tuple txs kk tp] X.env = (false, eval a X.env) :: starEach [.Tuple txs kk tp] X.env) :
    PE X (.Call (.Name "isinstance" p) [a, .Tuple txs kk tp] [] pos) (RdE g W (ev C (.isi c ts))) := by
  refine peImp (pe_callB call_isiT hg hm (by decide +kernel) (pa_cons ha (pa_cons (pe_tup ht) pa_nil) hs) (by decide) (by decide) hs rfl) fun σ H Q ⟨m, env, h, s, p⟩ => ?_
  rw [ev] at p
  refine ⟨m, env, h, s, (Post.bind s.rel p).mono fun d h1 m1 H1 e1 p1 v rv => ⟨by rw [List.length_map]; exact k1000 hl, fun a na => ?_⟩⟩
  cases e : isiAny h1 d ts with
  | none => rw [e] at p1; exact False.elim p1
  | some b =>
    rw [e] at p1
    obtain ⟨st, hst, hkb⟩ := isi_any (K := X.K) hn e hz
    have x := e1.rel.laid (o := .tup (ns.map V.ty)) na
    exact ⟨v, a, ns.map V.ty, .type st, ns.map Value.type, b, rfl, upd_same, paired_ty ns, by rw [hK]; exact tyx_of x.rel (rv.ext e1.rel x) hst, hkb, p1 m1 _ x _ (.bl b)⟩
end
end Lad
set_option Elab.async false
set_option linter.all false
set_option maxRecDepth 100000
set_option maxHeartbeats 2000000
/-! Readings: what is walked, comprehensions. -/
namespace Lad
open PySem PySem.Spec PyProof.Rows L2
section
variable {X : Cx} {g : Gp} {l : Nat} {W : WX}
def WalkD (g : Gp) (J : L2.It) (p : List D × List Nat) (m1 : AM) (h1 : Hc) (H1 : Hp) : Prop := ∀ m' h' H', Carry g m1 m' h1.length h'.length H1 H' → Rel g m' h' H' → still h1 p.2 h' = true →
  (∀ i, i < p.1.length → J.go i H') ∧ J.stop p.1.length H' ∧ ∀ (i : Nat) x H'' d, p.1[i]? = some d → J.yld i H' x H'' → Ext g m' h' H' m' h' H'' ∧ Rep g m' h'.length H'' d x
def RdI (g : Gp) (W : WX) (f : Env → Hc → Rs (List D × List Nat)) : TI := fun σ H R => ∃ m env h, Stt g m env h σ H ∧ Post g W σ m h H (f env h) fun p h1 m1 H1 => ∀ J, WalkD g J p m1 h1 H1 → R J H1
theorem piOf {tg e : Expr} {t : TI} (f : ∀ σ H R, t σ H R → ∃ t', PI X tg e t' ∧ t' σ H R) : PI X tg e t :=
  ⟨fun pins s σ H R I q => let ⟨t', p, q'⟩ := f σ H R q; p.run pins s σ H R I q'⟩
theorem piImp {tg e : Expr} {t t' : TI} (p : PI X tg e t') (f : ∀ σ H R, t σ H R → t' σ H R) : PI X tg e t := ⟨fun pins s σ H R I q => p.run pins s σ H R I (f σ H R q)⟩
/-- a list as it stands later on -/
def LstAt (g : Gp) (d : D) (ds : List D) (a : Addr) (m1 : AM) (h1 : Hc) (H1 : Hp) : Prop := ∀ m' h' H', Carry g m1 m' h1.length h'.length H1 H' → Rel g m' h' H' → still h1 (refsOf d) h' = true → ∃ vs, SqL g.K H' a vs ∧ Reps g m' h'.length H' ds vs
def TupAt (g : Gp) (ds : List D) (a : Addr) (m1 : AM) (h1 : Hc) (H1 : Hp) : Prop := ∀ m' h' H', Carry g m1 m' h1.length h'.length H1 H' → Rel g m' h' H' → ∃ vs, SqT g.K H' a vs ∧ Reps g m' h'.length H' ds vs
theorem carry_refl {m : AM} {n : Nat} {H : Hp} : Carry g m m n n H H := ⟨fun _ _ s => s, fun _ _ s q => ⟨s, q⟩, fun _ _ _ s q => ⟨s, q⟩, fun _ l => ⟨l, rfl⟩⟩
theorem still_self {h : Hc} {d : D} {H : Hp} {m : AM} {v : V} (r : Rep g m h.length H d v) : still h (refsOf d) h = true := by
  cases r with
  | ref l =>
    show (MO.obeq h[_]? h[_]? && true) = true
    rw [List.getElem?_eq_getElem l, Bool.and_true]
    exact MO.beq_refl _
  | _ => rfl
theorem items_at {m1 : AM} {h1 : Hc} {H1 : Hp} {d : D} {ds : List D} {v : V} (r : Rel g m1 h1 H1) (q : Rep g m1 h1.length H1 d v) (e : items? h1 d = some ds) :
    ∃ a, v = .ref a ∧ (((∃ xs, d = .tup xs) ∧ TupAt g ds a m1 h1 H1) ∨ ((∀ xs, d ≠ .tup xs) ∧ LstAt g d ds a m1 h1 H1)) := by
  cases q with
  | @tup a ds' vs s rs => cases e; exact ⟨a, rfl, .inl ⟨⟨_, rfl⟩, fun m' h' H' c r' => ⟨vs, c.tup _ _ s, rs.carry c⟩⟩⟩
  | @lst a ds' vs s o rs => cases e; exact ⟨a, rfl, .inr ⟨fun _ z => (nomatch z), fun m' h' H' c r' _ => ⟨vs, SqL.of (c.lst _ _ s o).1, rs.carry c⟩⟩⟩
  | @ref i lt =>
    have e' : (match h1[i]? with | some (MO.lst ds) => some ds | _ => none) = some ds := e
    refine ⟨m1.f i, rfl, .inr ⟨fun _ z => (nomatch z), fun m' h' H' c r' st => ?_⟩⟩
    obtain ⟨o, e1, e2⟩ := still_get st i List.mem_cons_self
    rw [e1] at e'
    cases o with
    | lst ds' =>
      cases e'
      obtain ⟨vs, x, y⟩ := r'.obj i _ e2
      rw [(c.ref i lt).2] at x
      exact ⟨vs, SqL.of x, y⟩
    | _ => cases e'
  | _ => cases e
theorem rep_at {g : Gp} {m : AM} {n : Nat} {H : Hp} {ds : List D} {vs : List V} {i : Nat} {d : D} {v : V} (r : Reps g m n H ds vs) (e : ds[i]? = some d) (e' : vs[i]? = some v) : Rep g m n H d v := by
  obtain ⟨w, h1, h2⟩ := r.get e
  rw [e'] at h1
  cases h1
  exact h2
theorem walkD_list {d : D} {ds : List D} {a : Addr} {m1 : AM} {h1 : Hc} {H1 : Hp} (L : LstAt g d ds a m1 h1 H1) : WalkD g (Itl g.K a) (ds, refsOf d) m1 h1 H1 := by
  intro m' h' H' c r st
  obtain ⟨vs, s, rs⟩ := L m' h' H' c r st
  have hl := rs.length
  refine ⟨fun i hi => ⟨vs, vs[i]'(by rw [← hl]; exact hi), s, List.getElem?_eq_getElem _⟩, ⟨vs, s, Nat.le_of_eq hl.symm⟩, fun i x H'' d' e y => ?_⟩
  obtain ⟨rfl, y⟩ := y
  exact ⟨Ext.refl r, rep_at rs e (y vs s)⟩
theorem walkD_tup {d : D} {ds : List D} {a : Addr} {m1 : AM} {h1 : Hc} {H1 : Hp} (L : TupAt g ds a m1 h1 H1) : WalkD g (Itt g.K a) (ds, refsOf d) m1 h1 H1 := by
  intro m' h' H' c r st
  obtain ⟨vs, s, rs⟩ := L m' h' H' c r
  have hl := rs.length
  refine ⟨fun i hi => ⟨vs, vs[i]'(by rw [← hl]; exact hi), s, List.getElem?_eq_getElem _⟩, ⟨vs, s, Nat.le_of_eq hl.symm⟩, fun i x H'' d' e y => ?_⟩
  obtain ⟨rfl, y⟩ := y
  exact ⟨Ext.refl r, rep_at rs e (y vs s)⟩
theorem j_iSq {tg e : Expr} {C : CallT} {c : E} (hK : X.K = g.K) (he : PE X e (RdE g W (ev C c))) : PI X tg e (RdI g W (evIt C (.sq c))) := by
  refine piOf fun σ H R ⟨m, env, h, s, p⟩ => ?_
  rw [evIt] at p
  cases ec : ev C c env h with
  | fail => rw [ec] at p; exact p.elim
  | ex x h1 =>
    rw [ec] at p
    refine ⟨_, pi_list he, m, env, h, s, ?_⟩
    rw [ec]
    exact p
  | ok d h1 =>
    rw [ec] at p
    simp only [Rs.bind] at p
    cases ei : items? h1 d with
    | none => rw [ei] at p; exact False.elim p
    | some ds =>
      rw [ei] at p
      by_cases it : ∃ xs, d = .tup xs
      · refine ⟨_, pi_tup he, m, env, h, s, ?_⟩
        rw [ec]
        intro m1 H1 e1 v rv
        obtain ⟨a, rfl, ⟨_, L⟩ | ⟨n, _⟩⟩ := items_at e1.rel rv ei
        · refine ⟨a, rfl, ?_, ?_⟩
          · obtain ⟨vs, q, _⟩ := L m1 h1 H1 carry_refl e1.rel
            exact ⟨vs, by rw [hK]; exact q⟩
          · rw [hK]; exact p m1 H1 e1 _ (walkD_tup L)
        · obtain ⟨xs, z⟩ := it; exact absurd z (n xs)
      · refine ⟨_, pi_list he, m, env, h, s, ?_⟩
        rw [ec]
        intro m1 H1 e1 v rv
        obtain ⟨a, rfl, ⟨⟨xs, z⟩, _⟩ | ⟨_, L⟩⟩ := items_at e1.rel rv ei
        · exact absurd ⟨xs, z⟩ it
        · refine ⟨a, rfl, ?_, ?_⟩
          · obtain ⟨vs, q, _⟩ := L m1 h1 H1 carry_refl e1.rel (still_self rv)
            exact ⟨vs, by rw [hK]; exact q⟩
          · rw [hK]; exact p m1 H1 e1 _ (walkD_list L)
theorem rangeD_get : ∀ (n : Nat) (lo : Int) (i : Nat) (d : D), (rangeD lo n)[i]? = some d → d = .int (lo + i)
  | 0, _, _, _, e => by simp [rangeD] at e
  | n + 1, lo, 0, d, e => by simp [rangeD] at e; rw [← e]; simp
  | n + 1, lo, i + 1, d, e => by
    have := rangeD_get n (lo + 1) i d (by simpa [rangeD] using e)
    rw [this]
    congr 1
    omega
theorem rangeD_len : ∀ (n : Nat) (lo : Int), (rangeD lo n).length = n
  | 0, _ => rfl
  | n + 1, lo => by simp [rangeD, rangeD_len n]
theorem walkD_range {lo : Int} {n : Nat} {m1 : AM} {h1 : Hc} {H1 : Hp} : WalkD g (Itr lo n) (rangeD lo n, []) m1 h1 H1 := by
  intro m' h' H' c r st
  refine ⟨fun i hi => by rw [rangeD_len] at hi; exact hi, by show n ≤ (rangeD lo n).length; rw [rangeD_len]; exact Nat.le_refl _, fun i x H'' d e y => ?_⟩
  obtain ⟨rfl, rfl⟩ := y
  rw [rangeD_get _ _ _ _ e]
  exact ⟨Ext.refl r, .int _⟩
theorem inRange_ok {i : Int} (h : inRange i = true) : -(2 ^ 62) ≤ i ∧ i < 2 ^ 62 := by
  simp only [inRange, Bool.and_eq_true, decide_eq_true_eq] at h
  omega
theorem j_iRng1 {tg a : Expr} {C : CallT} {c : E} {p pos : Pos} (hg : Gl X "range") (hm : X.mg "range" = none) (ha : PE X a (RdE g W (ev C c))) (hs : starEach [a] X.env = [(false, eval a X.env)]) :
    PI X tg (.Call (.Name "range" p) [a] [] pos) (RdI g W (evIt C (.rng1 c))) := by
  refine piImp (pi_range1 hg hm (pa_cons ha pa_nil (by rw [hs] <;> rfl)) hs) fun σ H R ⟨m, env, h, s, p⟩ => ?_
  rw [evIt] at p
  refine ⟨m, env, h, s, (Post.bind s.rel p).mono fun d h1 m1 H1 e1 p1 v rv => ?_⟩
  cases rv with
  | int i =>
    cases q : inRange i with
    | false => simp only [q] at p1; exact False.elim p1
    | true =>
      simp only [q, if_true] at p1
      have b := inRange_ok q
      exact ⟨i, rfl, b.1, b.2, p1 m1 H1 (Ext.refl e1.rel) _ walkD_range⟩
  | _ => exact False.elim p1
theorem j_iRng2 {tg a b : Expr} {C : CallT} {c d : E} {p pos : Pos} (hg : Gl X "range") (hm : X.mg "range" = none) (ha : PE X a (RdE g W (ev C c))) (hb : PE X b (RdE g W (ev C d))) (hs : starEach [a, b] X.env = [(false, eval a X.env), (false, eval b X.env)]) (hs2 : starEach [b] X.env = [(false, eval b X.env)]) :
    PI X tg (.Call (.Name "range" p) [a, b] [] pos) (RdI g W (evIt C (.rng2 c d))) := by
  refine piImp (pi_range2 hg hm (pa_cons ha (pa_cons hb pa_nil (by rw [hs2] <;> rfl)) (by rw [hs, hs2])) hs hs2) fun σ H R ⟨m, env, h, s, p⟩ => ?_
  rw [evIt] at p
  refine ⟨m, env, h, s, (Post.bind s.rel p).mono fun x h1 m1 H1 e1 p1 v rv => ⟨m1, env, h1, s.ext e1, (Post.bind e1.rel p1).mono fun y h2 m2 H2 e2 p2 w rw => ?_⟩⟩
  cases rv with
  | int i =>
    cases rw with
    | int j =>
      cases q : (inRange i && inRange j) with
      | false => simp only [q] at p2; exact False.elim p2
      | true =>
        simp only [q, if_true] at p2
        rw [Bool.and_eq_true] at q
        have b1 := inRange_ok q.1
        have b2 := inRange_ok q.2
        exact ⟨i, j, rfl, ⟨b1.1, b1.2, b2.1, b2.2⟩, p2 m2 H2 (Ext.refl e2.rel) _ walkD_range⟩
    | _ => exact False.elim p2
  | _ => cases rw <;> exact False.elim p2
/-! ### pairs -/
theorem zipD_get : ∀ (xs ys : List D) (i : Nat) (d : D), (zipD xs ys)[i]? = some d → ∃ x y, xs[i]? = some x ∧ ys[i]? = some y ∧ d = .tup [x, y]
  | [], _, _, _, e => by simp [zipD] at e
  | _ :: _, [], _, _, e => by simp [zipD] at e
  | x :: xs, y :: ys, 0, d, e => by simp [zipD] at e; exact ⟨x, y, rfl, rfl, e.symm⟩
  | x :: xs, y :: ys, i + 1, d, e => by
    obtain ⟨a, b, h1, h2, h3⟩ := zipD_get xs ys i d (by simpa [zipD] using e)
    exact ⟨a, b, by simpa using h1, by simpa using h2, h3⟩
theorem zipD_len : ∀ (xs ys : List D), (zipD xs ys).length = min xs.length ys.length
  | [], _ => by simp [zipD]
  | _ :: _, [] => by simp [zipD]
  | x :: xs, y :: ys => by simp [zipD, zipD_len xs ys]
theorem enumD_get : ∀ (xs : List D) (n : Int) (i : Nat) (d : D), (enumD n xs)[i]? = some d → ∃ x, xs[i]? = some x ∧ d = .tup [.int (n + i), x]
  | [], _, _, _, e => by simp [enumD] at e
  | x :: xs, n, 0, d, e => by simp [enumD] at e; exact ⟨x, rfl, e.symm.trans (by simp)⟩
  | x :: xs, n, i + 1, d, e => by
    obtain ⟨a, h1, h2⟩ := enumD_get xs (n + 1) i d (by simpa [enumD] using e)
    refine ⟨a, by simpa using h1, ?_⟩
    rw [h2]
    have : n + 1 + (i : Int) = n + ((i + 1 : Nat) : Int) := by omega
    rw [this]
theorem enumD_len : ∀ (xs : List D) (n : Int), (enumD n xs).length = xs.length
  | [], _ => rfl
  | x :: xs, n => by simp [enumD, enumD_len xs]
theorem pair_new {m : AM} {h : Hc} {H : Hp} {T : Addr} {x y : V} {a b : D} (r : Rel g m h H) (nT : H T = none) (ra : Rep g m h.length H a x) (rb : Rep g m h.length H b y) :
    Ext g m h H m h (upd H T (.tup [x, y])) ∧ Rep g m h.length (upd H T (.tup [x, y])) (.tup [a, b]) (.ref T) := by
  have e := r.laid (o := .tup [x, y]) nT
  exact ⟨e, .tup (SqT.of upd_same) (.cons (ra.ext r e) (.cons (rb.ext r e) .nil))⟩
theorem walkD_zipL {d d' : D} {xs ys : List D} {a b : Addr} {m1 : AM} {h1 : Hc} {H1 : Hp} (L : LstAt g d xs a m1 h1 H1) (L' : LstAt g d' ys b m1 h1 H1) : WalkD g (Itz g.K a b) (zipD xs ys, refsOf d ++ refsOf d') m1 h1 H1 := by
  intro m' h' H' c r st
  have st2 : ∀ (rs ss : List Nat), still h1 (rs ++ ss) h' = true → still h1 rs h' = true ∧ still h1 ss h' = true := by
    intro rs ss
    induction rs with
    | nil => intro z; exact ⟨rfl, z⟩
    | cons r rs ih =>
      intro z
      simp only [List.cons_append, still, Bool.and_eq_true] at z ⊢
      exact ⟨⟨z.1, (ih z.2).1⟩, (ih z.2).2⟩
  obtain ⟨vs, s, rs⟩ := L m' h' H' c r (st2 _ _ st).1
  obtain ⟨ws, s', rs'⟩ := L' m' h' H' c r (st2 _ _ st).2
  have hl := rs.length
  have hl' := rs'.length
  refine ⟨fun i hi => ?_, ⟨vs, ws, s, s', ?_⟩, fun i x H'' e q y => ?_⟩
  · rw [zipD_len] at hi
    exact ⟨vs, ws, vs[i]'(by omega), ws[i]'(by omega), s, s', List.getElem?_eq_getElem _, List.getElem?_eq_getElem _⟩
  · show _ ≤ (zipD xs ys).length ∨ _ ≤ (zipD xs ys).length
    rw [zipD_len]; omega
  · obtain ⟨T, u, w, rfl, nT, rfl, hu, hw⟩ := y
    obtain ⟨x1, y1, q1, q2, rfl⟩ := zipD_get _ _ _ _ q
    exact pair_new r nT (rep_at rs q1 (hu vs s)) (rep_at rs' q2 (hw ws s'))
theorem walkD_zipT {d d' : D} {xs ys : List D} {a b : Addr} {m1 : AM} {h1 : Hc} {H1 : Hp} (L : TupAt g xs a m1 h1 H1) (L' : TupAt g ys b m1 h1 H1) : WalkD g (RZ.ItzT g.K a b) (zipD xs ys, refsOf d ++ refsOf d') m1 h1 H1 := by
  intro m' h' H' c r st
  obtain ⟨vs, s, rs⟩ := L m' h' H' c r
  obtain ⟨ws, s', rs'⟩ := L' m' h' H' c r
  have hl := rs.length
  have hl' := rs'.length
  refine ⟨fun i hi => ?_, ⟨vs, ws, s, s', ?_⟩, fun i x H'' e q y => ?_⟩
  · rw [zipD_len] at hi
    exact ⟨vs, ws, vs[i]'(by omega), ws[i]'(by omega), s, s', List.getElem?_eq_getElem _, List.getElem?_eq_getElem _⟩
  · show _ ≤ (zipD xs ys).length ∨ _ ≤ (zipD xs ys).length
    rw [zipD_len]; omega
  · obtain ⟨T, u, w, rfl, nT, rfl, hu, hw⟩ := y
    obtain ⟨x1, y1, q1, q2, rfl⟩ := zipD_get _ _ _ _ q
    exact pair_new r nT (rep_at rs q1 (hu vs s)) (rep_at rs' q2 (hw ws s'))
theorem walkD_enumL {d : D} {xs : List D} {a : Addr} {m1 : AM} {h1 : Hc} {H1 : Hp} (L : LstAt g d xs a m1 h1 H1) : WalkD g (Ite g.K a) (enumD 0 xs, refsOf d) m1 h1 H1 := by
  intro m' h' H' c r st
  obtain ⟨vs, s, rs⟩ := L m' h' H' c r st
  have hl := rs.length
  refine ⟨fun i hi => ?_, ⟨vs, s, ?_⟩, fun i x H'' e q y => ?_⟩
  · rw [enumD_len] at hi
    exact ⟨vs, vs[i]'(by omega), s, List.getElem?_eq_getElem _⟩
  · show _ ≤ (enumD 0 xs).length
    rw [enumD_len]; omega
  · obtain ⟨T, u, rfl, nT, rfl, hu⟩ := y
    obtain ⟨x1, q1, rfl⟩ := enumD_get _ _ _ _ q
    have e0 : (0 : Int) + (i : Int) = (i : Int) := by omega
    rw [e0]
    exact pair_new r nT (.int _) (rep_at rs q1 (hu vs s))
end
end Lad
set_option Elab.async false
set_option linter.all false
set_option maxRecDepth 100000
set_option maxHeartbeats 2000000
/-! Readings: pairs walked, targets, comprehensions. -/
namespace Lad
open PySem PySem.Spec PyProof.Rows L2
theorem still_app {h0 h : Hc} : ∀ {rs ss : List Nat}, still h0 rs h = true → still h0 ss h = true → still h0 (rs ++ ss) h = true
  | [], _, _, b => b
  | r :: rs, ss, a, b => by
    simp only [List.cons_append, still, Bool.and_eq_true] at a ⊢
    exact ⟨a.1, still_app a.2 b⟩
theorem still_items {h : Hc} {d : D} {xs : List D} (e : items? h d = some xs) : still h (refsOf d) h = true := by
  cases d with
  | ref i =>
    show (MO.obeq h[i]? h[i]? && true) = true
    have e' : (match h[i]? with | some (MO.lst ds) => some ds | _ => none) = some xs := e
    cases q : h[i]? with
    | none => rw [q] at e'; cases e'
    | some o => rw [Bool.and_true]; exact MO.beq_refl o
  | _ => rfl
theorem evIt_still {C : CallT} {it : It} {env : Env} {h h1 : Hc} {p : List D × List Nat} (e : evIt C it env h = .ok p h1) : still h1 p.2 h1 = true := by
  cases it with
  | sq c =>
    rw [evIt] at e
    obtain ⟨d, h2, _, e2⟩ := bind_ok e
    cases q : items? h2 d with
    | none => rw [q] at e2; cases e2
    | some xs => rw [q] at e2; cases e2; exact still_items q
  | rng1 c =>
    rw [evIt] at e
    obtain ⟨d, h2, _, e2⟩ := bind_ok e
    cases d with
    | int n =>
      simp only [] at e2
      split at e2
      · cases e2; rfl
      · cases e2
    | _ => cases e2
  | rng2 c c' =>
    rw [evIt] at e
    obtain ⟨d, h2, _, e2⟩ := bind_ok e
    obtain ⟨d', h3, _, e3⟩ := bind_ok e2
    split at e3
    · split at e3
      · cases e3; rfl
      · cases e3
    · cases e3
  | zip c c' =>
    rw [evIt] at e
    obtain ⟨d, h2, _, e2⟩ := bind_ok e
    obtain ⟨d', h3, _, e3⟩ := bind_ok e2
    split at e3
    · split at e3
      · cases e3
        rename_i q1 q2
        exact still_app (still_items q1) (still_items q2)
      · cases e3
    · cases e3
  | enum c =>
    rw [evIt] at e
    obtain ⟨d, h2, _, e2⟩ := bind_ok e
    by_cases hT : isTup d = true
    · rw [if_pos hT] at e2; cases e2
    rw [if_neg hT] at e2
    cases q : items? h2 d with
    | none => rw [q] at e2; cases e2
    | some xs => rw [q] at e2; cases e2; exact still_items q
  | rev c =>
    rw [evIt] at e
    obtain ⟨d, h2, _, e2⟩ := bind_ok e
    cases q : items? h2 d with
    | none => rw [q] at e2; cases e2
    | some xs => rw [q] at e2; cases e2; exact still_items q
section
variable {X : Cx} {g : Gp} {l : Nat} {W : WX}
theorem lst_ext {m1 m2 : AM} {h1 h2 : Hc} {H1 H2 : Hp} {d : D} {xs : List D} {v : V} (r : Rel g m1 h1 H1) (q : Rep g m1 h1.length H1 d v) (e : Ext g m1 h1 H1 m2 h2 H2) : Rep g m2 h2.length H2 d v := q.ext r e
theorem isTup_iff {d : D} : isTup d = true ↔ ∃ xs, d = .tup xs := by
  cases d <;> simp [isTup]
theorem j_iZip {elts : List Expr} {kk : Nat} {tpos : Pos} {a b : Expr} {C : CallT} {c d : E} {p pos : Pos} (hK : X.K = g.K) (hg : Gl X "zip") (hm : X.mg "zip" = none) (ha : PE X a (RdE g W (ev C c))) (hb : PE X b (RdE g W (ev C d)))
    (hs : starEach [a, b] X.env = (false, eval a X.env) :: starEach [b] X.env) (hs2 : starEach [b] X.env = (false, eval b X.env) :: starEach [] X.env) (hpl : (backTo pos (starEach [b] X.env)).any (·.1) = false) :
    PI X (.Tuple elts kk tpos) (.Call (.Name "zip" p) [a, b] [] pos) (RdI g W (evIt C (.zip c d))) := by
  refine piImp (RZ.pi_zipA hg hm (pa_cons ha (pa_cons hb pa_nil hs2) hs) hs hpl) fun σ H R ⟨m, env, h, s, p⟩ => ?_
  rw [evIt] at p
  refine ⟨m, env, h, s, (Post.bind s.rel p).mono fun x h1 m1 H1 e1 p1 v rv => ⟨m1, env, h1, s.ext e1, (Post.bind e1.rel p1).mono fun y h2 m2 H2 e2 p2 w rw => ?_⟩⟩
  by_cases hT : (isTup x == isTup y) = true
  · rw [if_pos hT] at p2
    cases ex : items? h2 x with
    | none => rw [ex] at p2; exact False.elim p2
    | some xs =>
      cases ey : items? h2 y with
      | none => rw [ex, ey] at p2; exact False.elim p2
      | some ys =>
        rw [ex, ey] at p2
        have hT' : isTup x = isTup y := by simpa using hT
        have rv2 := rv.ext e1.rel e2
        obtain ⟨a1, rfl, q1⟩ := items_at e2.rel rv2 ex
        obtain ⟨a2, rfl, q2⟩ := items_at e2.rel rw ey
        rcases q1 with ⟨⟨u1, rfl⟩, L1⟩ | ⟨n1, L1⟩
        · rcases q2 with ⟨⟨u2, rfl⟩, L2⟩ | ⟨n2, L2⟩
          · obtain ⟨vs, z1, _⟩ := L1 m2 h2 H2 carry_refl e2.rel
            obtain ⟨ws, z2, _⟩ := L2 m2 h2 H2 carry_refl e2.rel
            refine ⟨a1, a2, vs, ws, rfl, .inr ⟨by rw [hK]; exact z1, by rw [hK]; exact z2, ?_⟩⟩
            rw [hK]
            exact p2 m2 H2 (Ext.refl e2.rel) _ (walkD_zipT L1 L2)
          · obtain ⟨xs', rfl⟩ := isTup_iff.mp hT'.symm
            exact absurd rfl (n2 xs')
        · rcases q2 with ⟨⟨u2, rfl⟩, L2⟩ | ⟨n2, L2⟩
          · obtain ⟨xs', rfl⟩ := isTup_iff.mp hT'
            exact absurd rfl (n1 xs')
          · obtain ⟨vs, z1, _⟩ := L1 m2 h2 H2 carry_refl e2.rel (still_self rv2)
            obtain ⟨ws, z2, _⟩ := L2 m2 h2 H2 carry_refl e2.rel (still_self rw)
            refine ⟨a1, a2, vs, ws, rfl, .inl ⟨by rw [hK]; exact z1, by rw [hK]; exact z2, ?_⟩⟩
            rw [hK]
            exact p2 m2 H2 (Ext.refl e2.rel) _ (walkD_zipL L1 L2)
  · rw [if_neg hT] at p2
    exact False.elim p2

/-! ### targets -/
theorem pgImp {e : Expr} {t t' : TG} (p : PG X e t) (f : ∀ v σ H Q, t' v σ H Q → t v σ H Q) : PG X e t' := ⟨fun pins s σ H v u Q I r h => p.run pins s σ H v u Q I r (f v σ H Q h)⟩
theorem pgsImp {e : List Expr} {t t' : TGs} (p : PGs X e t) (f : ∀ v σ H Q, t' v σ H Q → t v σ H Q) : PGs X e t' := ⟨fun pins s σ H v u Q I r h => p.run pins s σ H v u Q I r (f v σ H Q h)⟩
theorem wipe_set_out {σ : L2.St} {i : Nat} {x : Option V} : ∀ {vs : List Nat}, i ∉ vs → wipe (σ.set i x) vs = (wipe σ vs).set i x
  | [], _ => rfl
  | v :: vs, h => by
    have h1 : i ≠ v := fun e => h (by rw [e]; exact List.mem_cons_self)
    have h2 : i ∉ vs := fun e => h (List.mem_cons_of_mem _ e)
    show (wipe (σ.set i x) vs).set v none = ((wipe σ vs).set v none).set i x
    rw [wipe_set_out h2, List.set_comm _ _ h1]
theorem wipe_set {σ : L2.St} {i : Nat} {x : Option V} : ∀ {vs : List Nat}, i ∈ vs → wipe (σ.set i x) vs = wipe σ vs
  | v :: vs, h => by
    show (wipe (σ.set i x) vs).set v none = (wipe σ vs).set v none
    by_cases h2 : i ∈ vs
    · rw [wipe_set h2]
    · have : i = v := by rcases List.mem_cons.mp h with e | e; exact e; exact absurd e h2
      subst this
      rw [wipe_set_out h2, List.set_set]
theorem wipe_in {σ : L2.St} {i : Nat} : ∀ {vs : List Nat}, i ∈ vs → i < σ.length → (wipe σ vs)[i]? = some none
  | v :: vs, h, l => by
    show ((wipe σ vs).set v none)[i]? = some none
    by_cases z : v = i
    · subst z
      rw [List.getElem?_set_self (by rw [wipe_length]; exact l)]
    · rw [List.getElem?_set_ne z]
      exact wipe_in (by rcases List.mem_cons.mp h with e | e; exact absurd e.symm z; exact e) l
theorem wipe_wipe (σ : L2.St) (vs : List Nat) : wipe (wipe σ vs) vs = wipe σ vs := by
  apply List.ext_getElem?
  intro i
  by_cases z : i ∈ vs
  · by_cases l : i < σ.length
    · rw [wipe_in z (by rw [wipe_length]; exact l), wipe_in z l]
    · rw [List.getElem?_eq_none (by rw [wipe_length, wipe_length]; omega), List.getElem?_eq_none (by rw [wipe_length]; omega)]
  · rw [wipe_out z]
theorem wipeD_length (env : Env) : ∀ vs : List Nat, (wipeD env vs).length = env.length
  | [] => rfl
  | v :: vs => by unfold wipeD; rw [List.length_set, wipeD_length env vs]
theorem wipeD_some {env : Env} {i : Nat} {x : D} : ∀ {vs : List Nat}, (wipeD env vs)[i]? = some (some x) → env[i]? = some (some x) ∧ i ∉ vs
  | [], h => ⟨h, by simp⟩
  | v :: vs, h => by
    unfold wipeD at h
    by_cases hi : v = i
    · subst hi
      by_cases hv : v < (wipeD env vs).length
      · rw [List.getElem?_set_self hv] at h; cases h
      · rw [List.getElem?_eq_none (by simpa using hv)] at h; cases h
    · rw [List.getElem?_set_ne hi] at h
      obtain ⟨h1, h2⟩ := wipeD_some h
      exact ⟨h1, by simp only [List.mem_cons, not_or]; exact ⟨fun e => hi e.symm, h2⟩⟩
section
variable {m m' : AM} {env : Env} {h h' : Hc} {σ : L2.St} {H H' : Hp}
theorem Stt.set {i : Nat} {d : D} {v : V} (s : Stt g m env h σ H) (r : Rep g m h.length H d v) : Stt g m (env.set i (some d)) h (σ.set i (some v)) H := by
  refine ⟨s.rel, by rw [List.length_set, List.length_set, s.len], fun j d' e => ?_⟩
  by_cases z : i = j
  · subst z
    by_cases l : i < env.length
    · rw [List.getElem?_set_self l] at e
      cases e
      exact ⟨v, by rw [List.getElem?_set_self (by rw [← s.len]; exact l)], r⟩
    · rw [List.getElem?_eq_none (by rw [List.length_set]; omega)] at e; cases e
  · rw [List.getElem?_set_ne z] at e ⊢
    exact s.at_ j d' e
theorem Stt.unset {i : Nat} (s : Stt g m env h σ H) {σ' : L2.St} (hl : σ'.length = σ.length) (hσ : ∀ j, j ≠ i → σ'[j]? = σ[j]?) : Stt g m (env.set i none) h σ' H := by
  refine ⟨s.rel, by rw [List.length_set, s.len, hl], fun j d' e => ?_⟩
  by_cases z : i = j
  · subst z
    by_cases l : i < env.length
    · rw [List.getElem?_set_self l] at e; cases e
    · rw [List.getElem?_eq_none (by rw [List.length_set]; omega)] at e; cases e
  · rw [List.getElem?_set_ne z] at e
    rw [hσ j (Ne.symm z)]
    exact s.at_ j d' e
theorem Stt.wipe (s : Stt g m env h σ H) (vs : List Nat) : Stt g m (wipeD env vs) h (L2.wipe σ vs) H := by
  refine ⟨s.rel, by rw [wipeD_length, wipe_length, s.len], fun j d e => ?_⟩
  obtain ⟨e1, n⟩ := wipeD_some e
  rw [wipe_out n]
  exact s.at_ j d e1
theorem Stt.carry (s : Stt g m env h σ H) (r : Rel g m' h' H') (c : Carry g m m' h.length h'.length H H') : Stt g m' env h' σ H' :=
  ⟨r, s.len, fun j d e => let ⟨v, a, b⟩ := s.at_ j d e; ⟨v, a, b.carry c⟩⟩
end
def RdG (g : Gp) (is : List Nat) (tp : Bool) : TG := fun v σ H Q => ∃ m env h d env2, Stt g m env h σ H ∧ Rep g m h.length H d v ∧ bindG env is tp d = some env2 ∧
  ∀ σ2, Stt g m env2 h σ2 H → (∀ vs, (∀ i ∈ is, i ∈ vs) → wipe σ2 vs = wipe σ vs) → Q σ2 H
def RdGs (g : Gp) (is : List Nat) : TGs := fun ws σ H Q => ∃ m env h ds env2, Stt g m env h σ H ∧ Reps g m h.length H ds ws ∧ setAll env is ds = some env2 ∧
  ∀ σ2, Stt g m env2 h σ2 H → (∀ vs, (∀ i ∈ is, i ∈ vs) → wipe σ2 vs = wipe σ vs) → Q σ2 H
theorem j_gName {i : Nat} {x : Str} {pos : Pos} (hN : X.N.Nodup) (hi : X.N[i]? = some x) (hx : Loc X.env.scope x) (hf : X.fn x = true ∨ X.env.scope.names.lookup x = some .local) : PG X (.Name x pos) (RdG g [i] false) := by
  refine pgImp (pg_name hN hi hx hf) fun v σ H Q ⟨m, env, h, d, env2, s, r, e, q⟩ => ?_
  have e' : env.set i (some d) = env2 := Option.some.inj e
  subst e'
  exact q _ (s.set r) fun vs hv => wipe_set (hv i (by simp))
theorem j_gsNil : PGs X [] (RdGs g []) := by
  refine pgsImp pgs_nil fun vs σ H Q ⟨m, env, h, ds, env2, s, r, e, q⟩ => ?_
  cases r with
  | nil => have e' : env = env2 := Option.some.inj e
           subst e'
           exact ⟨rfl, q σ s fun _ _ => rfl⟩
  | cons a b => cases e
theorem j_gsCons {e : Expr} {es : List Expr} {i : Nat} {is : List Nat} (h1 : PG X e (RdG g [i] false)) (h2 : PGs X es (RdGs g is)) (hs : (assignEach (e :: es) X.env).map (·.2) = assign e X.env :: (assignEach es X.env).map (·.2)) : PGs X (e :: es) (RdGs g (i :: is)) := by
  refine pgsImp (pgs_cons h1 h2 hs) fun vs σ H Q ⟨m, env, h, ds, env2, s, r, e, q⟩ => ?_
  cases r with
  | nil => cases e
  | @cons d v ds' vs' a b =>
    refine ⟨v, vs', rfl, m, env, h, d, env.set i (some d), s, a, rfl, fun σ2 s2 w2 => ⟨m, _, h, ds', env2, s2, b, e, fun σ3 s3 w3 => q σ3 s3 fun us hu => ?_⟩⟩
    rw [w3 us fun j hj => hu j (List.mem_cons_of_mem _ hj), w2 us fun j hj => by
      have : j = i := by simpa using hj
      subst this
      exact hu j List.mem_cons_self]
theorem setAll_len : ∀ {is : List Nat} {ds : List D} {env env2 : Env}, setAll env is ds = some env2 → ds.length = is.length
  | [], [], _, _, _ => rfl
  | [], _ :: _, _, _, e => by cases e
  | _ :: _, [], _, _, e => by cases e
  | i :: is, d :: ds, _, _, e => by simp [setAll_len (is := is) (ds := ds) e]
theorem j_gTup {es : List Expr} {is : List Nat} {k : Nat} {pos : Pos} (hK : X.K = g.K) (hc : X.calm = true) (h : PGs X es (RdGs g is)) (hn : (assignEach es X.env).length = is.length) (hst : (assignEach es X.env).findIdx? (·.1) = none) : PG X (.Tuple es k pos) (RdG g is true) := by
  refine pgImp (pg_tup hc h hn hst) fun v σ H Q ⟨m, env, hh, d, env2, s, r, e, q⟩ => ?_
  cases d with
  | tup ds =>
    have e' : setAll env is ds = some env2 := by cases is <;> exact e
    cases r with
    | @tup a _ vs sq rs =>
      refine ⟨a, vs, rfl, by rw [hK]; exact sq, by rw [← rs.length]; exact setAll_len e', m, env, hh, ds, env2, s, rs, e', q⟩
  | _ => cases is <;> cases e

/-! ### a comprehension -/
section
variable {m m1 m2 m' : AM} {h h1 h2 h' : Hc} {H H1 H2 H' : Hp} {D : Addr}
theorem Ext.carryD (e : Ext g m h H m' h' H') (r : Rel g m h H) (nD : H D = none) : Carry g m (m'.set D) h.length h'.length H H' := by
  have o : ∀ a u, H a = some u → m.out h.length a → (m'.set D).out h'.length a := fun a u s q => ⟨e.ne s q.1, by
    show a ∉ D :: m'.z
    rw [List.mem_cons]
    rintro (z | z)
    · rw [z, nD] at s; cases s
    · rw [e.zs] at z; exact q.2 z⟩
  exact ⟨fun _ _ s => sqt_ext s r e, fun a _ s q => ⟨e.keep _ _ s q.1, o a _ s q⟩, fun a _ _ s q => ⟨e.keep _ _ s q.1, o a _ s q⟩, fun i l => ⟨Nat.lt_of_lt_of_le l e.len, e.agree i l⟩⟩
theorem Ext.transD (a : Ext g m1 h1 H1 m2 h2 H2) (b : Ext g (m2.set D) h2 H2 m' h' H') (nD : H1 D = none) : Ext g m1 h1 H1 ⟨m'.f, m2.z⟩ h' H' ∧ m' = AM.set ⟨m'.f, m2.z⟩ D := by
  have em : m' = AM.set ⟨m'.f, m2.z⟩ D := by
    have := b.zs
    cases m'
    simp only [AM.set] at this ⊢
    rw [this]
  refine ⟨⟨?_, Nat.le_trans a.len b.len, fun i l => (b.agree i (Nat.lt_of_lt_of_le l a.len)).trans (a.agree i l), fun x o e n => b.keep x o (a.keep x o e n) (a.ne e n), fun i l1 l2 => ?_, a.zs⟩, em⟩
  · have := b.rel
    rw [em] at this
    exact this.unset
  · show H1 (m'.f i) = none
    by_cases q : i < h2.length
    · rw [b.agree i q]; exact a.new i l1 q
    · have z := b.new i (Nat.le_of_not_lt q) l2
      cases hq : H1 (m'.f i) with
      | none => rfl
      | some o =>
        by_cases e : ∃ j, j < h1.length ∧ m1.f j = m'.f i
        · obtain ⟨j, lj, ej⟩ := e
          obtain ⟨o', s⟩ := a.rel.holds (Nat.lt_of_lt_of_le lj a.len)
          rw [a.agree j lj, ej, z] at s
          cases s
        · have := a.keep _ _ hq fun j lj ej => e ⟨j, lj, ej⟩
          rw [z] at this
          cases this
/-- what stands aside is written -/
theorem carry_setD {vs ws : List V} {n : Nat} (e : H D = some (.lst vs)) : Carry g (m.set D) (m.set D) n n H (upd H D (.lst ws)) := by
  refine ⟨fun a us s => ?_, fun a us s q => ⟨?_, q⟩, fun a o u s q => ⟨?_, q⟩, fun i l => ⟨l, rfl⟩⟩
  · rcases s with (s | ⟨u, s⟩) | s
    · exact .inl (.inl (by rw [upd_ne (fun z => by rw [z, e] at s; cases s)]; exact s))
    · exact .inl (.inr ⟨u, by rw [upd_ne (fun z => by rw [z, e] at s; cases s)]; exact s⟩)
    · exact .inr s
  · rw [upd_ne (fun z => q.2 (by rw [z]; exact List.mem_cons_self))]; exact s
  · rw [upd_ne (fun z => by rw [z, e] at s; cases s)]; exact s
theorem Rel.setD {vs ws : List V} (r : Rel g (m.set D) h H) (e : H D = some (.lst vs)) : Rel g (m.set D) h (upd H D (.lst ws)) := by
  have ne := (r.res D List.mem_cons_self).2
  refine ⟨fun i o z => ?_, r.inj, fun a z => ⟨?_, (r.res a z).2⟩⟩
  · have q := r.obj i o z
    have nd : (m.set D).f i ≠ D := ne i (List.getElem?_eq_some_iff.mp z).1
    cases o with
    | lst ds => obtain ⟨us, x, y⟩ := q; exact ⟨us, by rw [upd_ne nd]; exact x, y.carry (carry_setD e)⟩
    | dct kvs => obtain ⟨us, x, y, nn⟩ := q; exact ⟨us, by rw [upd_ne nd]; exact x, y.carry (carry_setD e), nn⟩
    | ins c fs => exact q
  · by_cases z2 : a = D
    · rw [z2]; exact ⟨_, upd_same⟩
    · obtain ⟨o, q⟩ := (r.res a z).1
      exact ⟨o, by rw [upd_ne z2]; exact q⟩
theorem Ext.updD {o : HO} (e : Ext g m1 h1 H1 m2 h2 H2) (nD : H1 D = none) (r : Rel g m2 h2 (upd H2 D o)) : Ext g m1 h1 H1 m2 h2 (upd H2 D o) :=
  ⟨r, e.len, e.agree, fun a u s n => by rw [upd_ne (fun z => by rw [z, nD] at s; cases s)]; exact e.keep a u s n, e.new, e.zs⟩
end
def WF : WX := fun _ _ _ _ => False
/-- what each item gives -/
def lcF (C : CallT) (own is : List Nat) (tp : Bool) (ifs : List T) (e : E) (env : Env) : D → Hc → Rs (Option D) := fun x h2 => match bindG (wipeD env own) is tp x with
  | some env2 => (evAll C ifs env2 h2).bind fun k h3 => if k then (ev C e env2 h3).bind fun v h4 => .ok (some v) h4 else .ok none h3
  | none => .fail
theorem ev_lc {C : CallT} {own is : List Nat} {tp : Bool} {it : It} {ifs : List T} {e : E} {env : Env} {h : Hc} : ev C (.lc own is tp it ifs e) env h = (evIt C it env h).bind fun xs h1 =>
    ((lcGo (still h1 xs.2) (lcF C own is tp ifs e env) xs.1 h1).nox).bind fun ys h5 => if ys.length ≤ sizeMax then .ok (.lst ys) h5 else .fail := by rw [ev]; rfl
theorem sizeMax_lt : sizeMax < sizeLine := by decide
theorem lc_read {C : CallT} {own is : List Nat} {tp : Bool} {it : It} {ifs : List T} {e : E} (hio : ∀ i ∈ is, i ∈ own) {σ : L2.St} {H : Hp} {Q : VK} (q : RdF g W (ev C (.lc own is tp it ifs e)) σ H Q) :
    tLc (RdI g W (evIt C it)) (RdG g is tp) (RdT g WF (evAll C ifs)) (RdE g WF (ev C e)) own σ H Q := by
  obtain ⟨m, env, h, s, p⟩ := q
  refine ⟨m, env, h, s, ?_⟩
  rw [ev_lc] at p
  cases ei : evIt C it env h with
  | fail => rw [ei] at p; exact p
  | ex x h' => rw [ei] at p; exact p
  | ok pr h1 =>
    rw [ei] at p
    simp only [Rs.bind] at p
    have st1 := evIt_still ei
    cases el : lcGo (still h1 pr.2) (lcF C own is tp ifs e env) pr.1 h1 with
    | fail => rw [el] at p; exact False.elim p
    | ex x h' => rw [el] at p; exact False.elim p
    | ok ys h5 =>
      rw [el] at p
      simp only [Rs.nox] at p
      by_cases hz : ys.length ≤ sizeMax
      · rw [if_pos hz] at p
        intro m1 H1 e1 J wd D nD
        refine ⟨fun i mm Hx => mm = pr.1.length - i ∧ i ≤ pr.1.length ∧ ∃ m2 h2 dn rest vacc, Ext g m1 h1 H1 m2 h2 Hx ∧ Rel g (m2.set D) h2 Hx ∧ Hx D = some (.lst vacc) ∧ Reps g (m2.set D) h2.length Hx dn vacc ∧ D ∉ m2.z ∧
          lcGo (still h1 pr.2) (lcF C own is tp ifs e env) (pr.1.drop i) h2 = .ok rest h5 ∧ dn ++ rest = ys ∧ still h1 pr.2 h2 = true, ⟨pr.1.length, by simp, Nat.zero_le _, m1, h1, [], ys, [], e1.rel.laid nD, (e1.rel.reserve nD).1, upd_same, .nil, (e1.rel.fresh nD).2, el, rfl, st1⟩, ?_⟩
        rintro i mm Hx ⟨rfl, hi, m2, h2, dn, rest, vacc, x2, r2, hD, rd, nz, er, ed, st⟩
        have cD := x2.carryD e1.rel nD
        obtain ⟨wgo, wstop, wyld⟩ := wd (m2.set D) h2 Hx cD r2 st
        by_cases hlt : i < pr.1.length
        · obtain ⟨x, ex⟩ : ∃ x, pr.1[i]? = some x := ⟨pr.1[i], List.getElem?_eq_getElem hlt⟩
          have edr : pr.1.drop i = x :: pr.1.drop (i + 1) := by
            rw [List.drop_eq_getElem_cons hlt]
            rw [List.getElem?_eq_getElem hlt] at ex
            rw [Option.some.inj ex]
          rw [edr] at er
          simp only [lcGo] at er
          obtain ⟨y, h3, ey, er2⟩ := bind_ok er
          by_cases st3 : still h1 pr.2 h3 = true
          · rw [if_pos st3] at er2
            obtain ⟨rest', h6, el2, er3⟩ := bind_ok er2
            have e6 : h6 = h5 := by cases er3; rfl
            subst e6
            refine .inr ⟨wgo i hlt, fun Hn => ∃ m4 h4 dn' rest' vacc', Ext g m1 h1 H1 m4 h4 Hn ∧ Rel g (m4.set D) h4 Hn ∧ Hn D = some (.lst vacc') ∧ Reps g (m4.set D) h4.length Hn dn' vacc' ∧ D ∉ m4.z ∧
              lcGo (still h1 pr.2) (lcF C own is tp ifs e env) (pr.1.drop (i + 1)) h4 = .ok rest' h6 ∧ dn' ++ rest' = ys ∧ still h1 pr.2 h4 = true, fun Hn w => ⟨pr.1.length - (i + 1), by omega, rfl, by omega, w⟩, fun vx H3 hy => ?_⟩
            obtain ⟨x3, rx⟩ := wyld i vx H3 x ex hy
            unfold lcF at ey
            cases eb : bindG (wipeD env own) is tp x with
            | none => rw [eb] at ey; cases ey
            | some env2 =>
              rw [eb] at ey
              obtain ⟨k, h3b, ek, ey2⟩ := bind_ok ey
              have sw : Stt g (m2.set D) (wipeD env own) h2 (wipe σ own) H3 := (((s.wipe own).carry r2 ((Ext.trans s.rel e1 x2).carryD s.rel (na_back e1 nD))).ext x3)
              have neD := (r2.res D List.mem_cons_self).2
              have hD3 : H3 D = some (.lst vacc) := x3.keep D _ hD neD
              refine ⟨m2.set D, wipeD env own, h2, x, env2, sw, rx, eb, fun σ2 s2 hw => ⟨(hw own hio).trans (wipe_wipe σ own), m2.set D, env2, h2, s2, ?_⟩⟩
              rw [ek]
              intro m3 H4 x4
              have x24 := Ext.trans r2 x3 x4
              obtain ⟨y4, em4⟩ := Ext.transD x2 x24 nD
              have hD4 : H4 D = some (.lst vacc) := x4.keep D _ hD3 neD
              cases k with
              | false =>
                rw [if_neg Bool.false_ne_true] at ey2
                refine iteF ?_
                cases ey2
                have e7 : rest = rest' := by cases er3; rfl
                subst e7
                refine ⟨⟨m3.f, m2.z⟩, h3, dn, rest, vacc, y4, ?_, hD4, ?_, nz, el2, ed, st3⟩
                · rw [← em4]; exact x4.rel
                · rw [← em4]; exact rd.ext r2 x24
              | true =>
                rw [if_pos rfl] at ey2
                refine iteT ?_
                obtain ⟨v, h7, ev7, ey3⟩ := bind_ok ey2
                cases ey3
                have e7 : rest = v :: rest' := by cases er3; rfl
                subst e7
                refine ⟨m3, env2, h3b, s2.ext x4, ?_⟩
                rw [ev7]
                intro m5 H5 x5 vy rvy
                have x25 := Ext.trans r2 x24 x5
                obtain ⟨y5, em5⟩ := Ext.transD x2 x25 nD
                have hD5 : H5 D = some (.lst vacc) := x25.keep D _ hD neD
                have r5 : Rel g (AM.set ⟨m5.f, m2.z⟩ D) h3 H5 := by rw [← em5]; exact x5.rel
                have rv5 : Rep g (AM.set ⟨m5.f, m2.z⟩ D) h3.length H5 v vy := by rw [← em5]; exact rvy
                have rd5 : Reps g (AM.set ⟨m5.f, m2.z⟩ D) h3.length H5 dn vacc := by rw [← em5]; exact rd.ext r2 x25
                have r6 := r5.setD (ws := vacc ++ [vy]) hD5
                have c6 : Carry g (AM.set ⟨m5.f, m2.z⟩ D) (AM.set ⟨m5.f, m2.z⟩ D) h3.length h3.length H5 (L2.upd H5 D (.lst (vacc ++ [vy]))) := carry_setD hD5
                refine ⟨vacc, hD5, ?_, ⟨m5.f, m2.z⟩, h3, dn ++ [v], rest', vacc ++ [vy], y5.updD nD r6.unset, r6, upd_same, (rd5.carry c6).append (.cons (rv5.carry c6) .nil), nz, el2, by rw [← ed]; simp, st3⟩
                have := sizeMax_lt
                have l1 := rd.length
                rw [← ed, List.length_append, List.length_cons] at hz
                omega
          · rw [if_neg st3] at er2; cases er2
        · have ei : i = pr.1.length := by omega
          subst ei
          rw [List.drop_length] at er
          simp only [lcGo] at er
          cases er
          rw [List.append_nil] at ed
          subst ed
          exact .inl ⟨wstop, p.2 m2 Hx (Ext.trans s.rel e1 x2) D vacc dn rfl (na_back e1 nD) hD r2 rd nz⟩
      · rw [if_neg hz] at p; exact False.elim p
theorem j_lc {elt tg iter : Expr} {ifs : List Expr} {scope : Scope} {own : List (Str × Nat)} {pos : Pos} {C : CallT} {is : List Nat} {tp : Bool} {it : It} {ts : List T} {c : E} (hc : X.calm = true) (hN : X.N.Nodup) (hio : ∀ i ∈ is, i ∈ own.map (·.2)) (hi : PI X tg iter (RdI g W (evIt C it))) (ok : BlkOk X.N X.env.scope scope own)
    (hg : ∀ (s : Shared) (H : Hp) (C : Addr) (cl : List (Str × Addr)) (fp : List Addr), PG (X.blk s H scope (compEnvC scope cl C X.env) fp) tg (RdG g is tp))
    (ht : ∀ (s : Shared) (H : Hp) (Ca : Addr) (cl : List (Str × Addr)) (fp : List Addr), PTs (X.blk s H scope (compEnvC scope cl Ca X.env) fp) ifs (RdT g WF (evAll C ts)))
    (he : ∀ (s : Shared) (H : Hp) (Ca : Addr) (cl : List (Str × Addr)) (fp : List Addr), PE (X.blk s H scope (compEnvC scope cl Ca X.env) fp) elt (RdE g WF (ev C c))) (hs : ∀ x, foldedSetIterable iter X.env x = pure x) :
    PE X (.ListComp elt [⟨tg, iter, ifs, 0⟩] scope pos) (RdF g W (ev C (.lc (own.map (·.2)) is tp it ts c))) :=
  peImp (pe_lc hc hN hi ok hg ht he hs) fun σ H Q q => lc_read hio q
end
end Lad
set_option Elab.async false
set_option linter.all false
set_option maxRecDepth 100000
set_option maxHeartbeats 2000000
/-! Readings: statements. -/
namespace Lad
open PySem PySem.Spec PyProof.Rows L2
section
variable {g : Gp} {W : WX}
def PostF (g : Gp) (W : WX) (m : AM) (h : Hc) (H : Hp) (D : Ends) (r : Fl) : Prop := match r with
  | .fail => False
  | .next env' h' => ∀ m' H' σ', Ext g m h H m' h' H' → Stt g m' env' h' σ' H' → D.nx σ' H'
  | .brk env' h' => ∀ m' H' σ', Ext g m h H m' h' H' → Stt g m' env' h' σ' H' → D.bk σ' H'
  | .cont env' h' => ∀ m' H' σ', Ext g m h H m' h' H' → Stt g m' env' h' σ' H' → D.ct σ' H'
  | .ret d h' => ∀ m' H', Ext g m h H m' h' H' → ∀ v, Rep g m' h'.length H' d v → D.rt v H'
  | .ex x env' h' => ∀ m' H' σ', Ext g m h H m' h' H' → Stt g m' env' h' σ' H' → ∀ c dd, XRep g m' h'.length x c dd H' → W c dd σ' H'
theorem PostF.later {m m' : AM} {h h' : Hc} {H H' : Hp} {D : Ends} {r : Fl} (rl : Rel g m h H) (e : Ext g m h H m' h' H') (p : PostF g W m h H D r) : PostF g W m' h' H' D r := by
  cases r with
  | fail => exact p
  | next env h2 => exact fun m2 H2 σ2 e2 => p m2 H2 σ2 (Ext.trans rl e e2)
  | brk env h2 => exact fun m2 H2 σ2 e2 => p m2 H2 σ2 (Ext.trans rl e e2)
  | cont env h2 => exact fun m2 H2 σ2 e2 => p m2 H2 σ2 (Ext.trans rl e e2)
  | ret d h2 => exact fun m2 H2 e2 => p m2 H2 (Ext.trans rl e e2)
  | ex x env h2 => exact fun m2 H2 σ2 e2 => p m2 H2 σ2 (Ext.trans rl e e2)
theorem PostF.toFl {α : Type} {m : AM} {env : Env} {h : Hc} {σ : L2.St} {H : Hp} {D : Ends} {r : Rs α} {k : α → Hc → Fl} (s : Stt g m env h σ H) (p : PostF g W m h H D (r.toFl env k)) :
    Post g W σ m h H r fun a h' m' H' => PostF g W m' h' H' D (k a h') := by
  cases r with
  | fail => exact p
  | ok a h' => exact fun m' H' e => PostF.later s.rel e p
  | ex x h' => exact fun m' H' e => p m' H' σ e (s.ext e)
def RdS (g : Gp) (W : WX) (f : Env → Hc → Fl) : TS := fun D σ H => ∃ m env h, Stt g m env h σ H ∧ PostF g W m h H D (f env h)
end
section
variable {X : Cx} {g : Gp} {l : Nat} {W : WX} {C : CallT}
theorem exSs_nil {env : Env} {h : Hc} : exSs C [] env h = .next env h := by rw [exSs]
theorem exSs_cons {st : S} {ss : List S} {env : Env} {h : Hc} : exSs C (st :: ss) env h = match exS C st env h with
    | .next env2 h2 => exSs C ss env2 h2
    | r => r := by first | (rw [exSs]; done) | (rw [exSs]; split <;> first | rfl | (rename_i q; simp [q]))
theorem j_sNil : PSs X [] (RdS g W (exSs C [])) := by
  refine pssImp pss_nil fun D σ H ⟨m, env, h, s, p⟩ => ?_
  rw [exSs_nil] at p
  exact p m H σ (Ext.refl s.rel) s
theorem j_sCons {st : Stmt} {sts : List Stmt} {c : S} {cs : List S} (h1 : PS X st (RdS g W (exS C c))) (h2 : PSs X sts (RdS g W (exSs C cs))) : PSs X (st :: sts) (RdS g W (exSs C (c :: cs))) := by
  refine pssImp (pss_cons h1 h2) fun D σ H ⟨m, env, h, s, p⟩ => ⟨m, env, h, s, ?_⟩
  rw [exSs_cons] at p
  cases e : exS C c env h with
  | fail => rw [e] at p; exact p
  | next env2 h2 =>
    rw [e] at p
    exact fun m' H' σ' x s' => ⟨m', env2, h2, s', PostF.later s.rel x p⟩
  | brk env2 h2 => rw [e] at p; exact p
  | cont env2 h2 => rw [e] at p; exact p
  | ret d h2 => rw [e] at p; exact p
  | ex x env2 h2 => rw [e] at p; exact p
theorem j_pass {pos : Pos} : PS X (.Pass pos) (RdS g W (exS C .pass)) := by
  refine psImp ps_pass fun D σ H ⟨m, env, h, s, p⟩ => ?_
  rw [exS] at p
  exact p m H σ (Ext.refl s.rel) s
theorem j_brk {pos : Pos} : PS X (.Break pos) (RdS g W (exS C .brk)) := by
  refine psImp ps_break fun D σ H ⟨m, env, h, s, p⟩ => ?_
  rw [exS] at p
  exact p m H σ (Ext.refl s.rel) s
theorem j_ret {e : Expr} {c : E} {pos : Pos} (he : PE X e (RdE g W (ev C c))) : PS X (.Return (some e) pos) (RdS g W (exS C (.ret c))) := by
  refine psImp (ps_ret he) fun D σ H ⟨m, env, h, s, p⟩ => ?_
  rw [exS] at p
  refine ⟨m, env, h, s, (PostF.toFl s p).mono fun d h1 m1 H1 e1 p1 v rv => p1 m1 H1 (Ext.refl e1.rel) v rv⟩
theorem j_retN {pos : Pos} : PS X (.Return none pos) (RdS g W (exS C (.ret (.c .non)))) := by
  refine psImp ps_retN fun D σ H ⟨m, env, h, s, p⟩ => ?_
  rw [exS, ev] at p
  exact p m H (Ext.refl s.rel) _ .non
theorem j_expr {e : Expr} {c : E} {pos : Pos} (he : PE X e (RdE g W (ev C c))) (hs : swapsWith e none pos.line X.env = pure false) : PS X (.Expr e pos) (RdS g W (exS C (.ex c))) := by
  refine psImp (ps_expr he hs) fun D σ H ⟨m, env, h, s, p⟩ => ?_
  rw [exS] at p
  refine ⟨m, env, h, s, (PostF.toFl s p).mono fun d h1 m1 H1 e1 p1 v rv => p1 m1 H1 σ (Ext.refl e1.rel) (s.ext e1)⟩
theorem j_if {c : Expr} {a b : List Stmt} {t : T} {ca cb : List S} {pos : Pos} (hc : PT X c (RdT g W (evT C t))) (ha : PSs X a (RdS g W (exSs C ca))) (hb : PSs X b (RdS g W (exSs C cb))) : PS X (.If c a b pos) (RdS g W (exS C (.ifs t ca cb))) := by
  refine psImp (ps_if hc ha hb) fun D σ H ⟨m, env, h, s, p⟩ => ?_
  rw [exS] at p
  refine ⟨m, env, h, s, (PostF.toFl s p).mono fun k h1 m1 H1 e1 p1 => ?_⟩
  cases k with
  | true => exact iteT ⟨m1, env, h1, s.ext e1, p1⟩
  | false => exact iteF ⟨m1, env, h1, s.ext e1, p1⟩
/-! ### stores -/
theorem j_asgN {e : Expr} {c : E} {i : Nat} {x : Str} {pos pos' : Pos} (hN : X.N.Nodup) (hi : X.N[i]? = some x) (hx : Loc X.env.scope x) (hf : X.fn x = true ∨ X.env.scope.names.lookup x = some .local) (he : PE X e (RdE g W (ev C c))) (hs : swapsWith e (some (.Name x pos')) pos.line X.env = pure false) :
    PS X (.Assign [.Name x pos'] e pos) (RdS g W (exS C (.asg (.nm i) c))) := by
  refine psImp (ps_set hN hi hx he hs hf) fun D σ H ⟨m, env, h, s, p⟩ => ?_
  rw [exS] at p
  refine ⟨m, env, h, s, (PostF.toFl s p).mono fun d h1 m1 H1 e1 p1 v rv => ?_⟩
  exact p1 m1 H1 _ (Ext.refl e1.rel) ((s.ext e1).set rv)
theorem storeG_tp {is : List Nat} {d : Lad.D} {env : Env} {h : Hc} : storeG C (.tp is) d env h = match bindG env is true d with
    | some env1 => .next env1 h
    | none => .fail := rfl
theorem j_asgT {es : List Expr} {k : Nat} {tpos : Pos} {e : Expr} {c : E} {is : List Nat} {pos : Pos} (he : PE X e (RdE g W (ev C c))) (hg : PG X (.Tuple es k tpos) (RdG g is true)) (hs : swapsWithSole [.Tuple es k tpos] e pos.line X.env = pure false) (hw : swappedStores [.Tuple es k tpos] e X.env = pure none) :
    PS X (.Assign [.Tuple es k tpos] e pos) (RdS g W (exS C (.asg (.tp is) c))) := by
  refine psImp (ps_asg he hg hs hw rfl) fun D σ H ⟨m, env, h, s, p⟩ => ?_
  rw [exS] at p
  refine ⟨m, env, h, s, (PostF.toFl s p).mono fun d h1 m1 H1 e1 p1 v rv => ?_⟩
  rw [storeG_tp] at p1
  cases eb : bindG env is true d with
  | none => rw [eb] at p1; exact p1.elim
  | some env2 =>
    rw [eb] at p1
    exact ⟨m1, env, h1, d, env2, s.ext e1, rv, eb, fun σ2 s2 _ => p1 m1 H1 σ2 (Ext.refl e1.rel) s2⟩
/-- a, b = x, y -/
theorem setAll_two {env env2 : Env} {i j : Nat} {d1 d2 : D} (e : setAll env [i, j] [d1, d2] = some env2) : env2 = (env.set i (some d1)).set j (some d2) := (Option.some.inj e).symm
theorem evs_two {cs : List E} {env : Env} {h h1 : Hc} {ds : List D} (e : evs C cs env h = .ok ds h1) (n : cs.length = 2) : ∃ a b, ds = [a, b] := by
  have l := evs_len e
  rw [n] at l
  match ds, l with
  | [a, b], _ => exact ⟨a, b, rfl⟩
theorem evs_three {cs : List E} {env : Env} {h h1 : Hc} {ds : List D} (e : evs C cs env h = .ok ds h1) (n : cs.length = 3) : ∃ a b c, ds = [a, b, c] := by
  have l := evs_len e
  rw [n] at l
  match ds, l with
  | [a, b, c], _ => exact ⟨a, b, c, rfl⟩
theorem j_par2 {i j : Nat} {x y : Str} {a b : Expr} {cs : List E} {px py pt pos : Pos} {kt k2 : Nat} {pt2 : Pos} (hc : X.calm = true) (hN : X.N.Nodup) (hi : X.N[i]? = some x) (hj : X.N[j]? = some y) (hij : i ≠ j)
    (hx : X.env.scope.names.lookup x = some .local) (hy : X.env.scope.names.lookup y = some .local) (ha : PA X [a, b] (RdA g W (evs C cs))) (hn : cs.length = 2)
    (hw : swappedStores [.Tuple [.Name x px, .Name y py] kt pt] (.Tuple [a, b] k2 pt2) X.env = pure (some [x, y]))
    (hs : swapsWithSole [.Tuple [.Name x px, .Name y py] kt pt] (.Tuple [a, b] k2 pt2) pos.line X.env = pure false) :
    PS X (.Assign [.Tuple [.Name x px, .Name y py] kt pt] (.Tuple [a, b] k2 pt2) pos) (RdS g W (exS C (.asg (.tp [i, j]) (.tup cs)))) := by
  refine psImp (ps_par hc hN hi hj hij hx hy ha hw hs) fun D σ H ⟨m, env, h, s, p⟩ => ⟨m, env, h, s, ?_⟩
  rw [exS, ev] at p
  cases e : evs C cs env h with
  | fail => rw [e] at p; exact p
  | ex x' h' => rw [e] at p; exact fun m' H' x'' => p m' H' σ x'' (s.ext x'')
  | ok ds h1 =>
    obtain ⟨d1, d2, rfl⟩ := evs_two e hn
    rw [e] at p
    intro m1 H1 e1 vs rvs
    cases rvs with
    | cons r1 rr =>
      cases rr with
      | cons r2 rr2 =>
        cases rr2
        exact ⟨_, _, rfl, p m1 H1 _ e1 (((s.ext e1).set r1).set r2)⟩
theorem j_par3 {i j l : Nat} {x y z : Str} {a b c : Expr} {cs : List E} {px py pz pt pos : Pos} {kt k2 : Nat} {pt2 : Pos} (hc : X.calm = true) (hN : X.N.Nodup) (hi : X.N[i]? = some x) (hj : X.N[j]? = some y) (hl : X.N[l]? = some z) (hij : i ≠ j) (hil : i ≠ l) (hjl : j ≠ l)
    (hx : X.env.scope.names.lookup x = some .local) (hy : X.env.scope.names.lookup y = some .local) (hz : X.env.scope.names.lookup z = some .local) (ha : PA X [a, b, c] (RdA g W (evs C cs))) (hn : cs.length = 3)
    (hw : swappedStores [.Tuple [.Name x px, .Name y py, .Name z pz] kt pt] (.Tuple [a, b, c] k2 pt2) X.env = pure (some [x, y, z]))
    (hs : swapsWithSole [.Tuple [.Name x px, .Name y py, .Name z pz] kt pt] (.Tuple [a, b, c] k2 pt2) pos.line X.env = pure false) :
    PS X (.Assign [.Tuple [.Name x px, .Name y py, .Name z pz] kt pt] (.Tuple [a, b, c] k2 pt2) pos) (RdS g W (exS C (.asg (.tp [i, j, l]) (.tup cs)))) := by
  refine psImp (ps_par3 hc hN hi hj hl hij hil hjl hx hy hz ha hw hs) fun D σ H ⟨m, env, h, s, p⟩ => ⟨m, env, h, s, ?_⟩
  rw [exS, ev] at p
  cases e : evs C cs env h with
  | fail => rw [e] at p; exact p
  | ex x' h' => rw [e] at p; exact fun m' H' x'' => p m' H' σ x'' (s.ext x'')
  | ok ds h1 =>
    obtain ⟨d1, d2, d3, rfl⟩ := evs_three e hn
    rw [e] at p
    intro m1 H1 e1 vs rvs
    cases rvs with
    | cons r1 rr =>
      cases rr with
      | cons r2 rr2 =>
        cases rr2 with
        | cons r3 rr3 =>
          cases rr3
          exact ⟨_, _, _, rfl, p m1 H1 _ e1 ((((s.ext e1).set r1).set r2).set r3)⟩
/-! ### op= -/
theorem rd_aug {bo : Bop} {i : Nat} {c : E} {D : Ends} {σ : L2.St} {H : Hp} (q : RdS g W (exS C (.aug i bo c)) D σ H) : tAug i (RdE g W (ev C c)) (RO g fun x y h => keep h (augD bo x y)) D σ H := by
  obtain ⟨m, env, h, s, p⟩ := q
  rw [exS] at p
  cases e0 : env[i]? with
  | none => rw [e0] at p; exact p.elim
  | some o =>
    cases o with
    | none => rw [e0] at p; exact p.elim
    | some x =>
      rw [e0] at p
      obtain ⟨v, e1, rx⟩ := s.at_ i x e0
      refine ⟨v, e1, m, env, h, s, (PostF.toFl s p).mono fun y h1 m1 H1 x1 p1 w rw => ?_⟩
      refine ⟨m1, h1, x, y, x1.rel, rx.ext s.rel x1, rw, ?_⟩
      cases eb : augD bo x y with
      | none => rw [eb] at p1; exact p1.elim
      | some z =>
        rw [eb] at p1
        show OptP (keep h1 (augD bo x y)) _
        rw [eb]
        exact fun m2 H2 x2 zv rz => p1 m2 H2 _ x2 (((s.ext x1).ext x2).set rz)
theorem j_aug {i : Nat} {x : Str} {e : Expr} {op : Operator} {bo : Bop} {c : E} {pos pos' : Pos} (hN : X.N.Nodup) (hi : X.N[i]? = some x) (hx : Loc X.env.scope x) (hf : X.fn x = true ∨ X.env.scope.names.lookup x = some .local) (he : PE X e (RdE g W (ev C c))) (ho : PIp X op (RO g fun x y h => keep h (augD bo x y))) :
    PS X (.AugAssign (.Name x pos') op e pos) (RdS g W (exS C (.aug i bo c))) := psImp (ps_aug hN hi hx he ho hf) fun D σ H q => rd_aug q
/-! ### a[b] = e -/
def RSet (g : Gp) : TSet := fun o i v H Q => ∃ m h d1 d2 d3, Rel g m h H ∧ Rep g m h.length H d1 o ∧ Rep g m h.length H d2 i ∧ Rep g m h.length H d3 v ∧ match setD d1 d2 d3 h with
  | some h' => ∀ m' H', Ext g m h H m' h' H' → Q H'
  | none => False
theorem j_asgI {a b e : Expr} {ca cb c : E} {tpos pos : Pos} (he : PE X e (RdE g W (ev C c))) (ha : PE X a (RdE g W (ev C ca))) (hb : PE X b (RdE g W (ev C cb))) (hs0 : PSet X (RSet g))
    (hass : ∀ v, assign (.Subscript a b tpos) X.env v = (do
      let ov ← holding [v] (eval a X.env)
      let iv ← holding [v, ov] (eval b X.env)
      standAt tpos
      holding [v, ov, iv] (setItem ov iv v)
      release [v, ov, iv] []))
    (hs : swapsWithSole [.Subscript a b tpos] e pos.line X.env = pure false) (hw : swappedStores [.Subscript a b tpos] e X.env = pure none) :
    PS X (.Assign [.Subscript a b tpos] e pos) (RdS g W (exS C (.asg (.ix ca cb) c))) := by
  refine psImp (ps_asg he (pg_sub ha hb hs0 hass) hs hw rfl) fun D σ H ⟨m, env, h, s, p⟩ => ?_
  rw [exS] at p
  refine ⟨m, env, h, s, (PostF.toFl s p).mono fun d h1 m1 H1 e1 p1 v rv => ?_⟩
  unfold storeG at p1
  have s1 := s.ext e1
  refine ⟨m1, env, h1, s1, (PostF.toFl s1 p1).mono fun o h2 m2 H2 e2 p2 ov ro => ?_⟩
  have s2 := s1.ext e2
  refine ⟨m2, env, h2, s2, (PostF.toFl s2 p2).mono fun i h3 m3 H3 e3 p3 iv ri => ?_⟩
  refine ⟨m3, h3, o, i, d, e3.rel, ro.ext e2.rel e3, ri, (rv.ext e1.rel e2).ext e2.rel e3, ?_⟩
  cases es : setD o i d h3 with
  | none => rw [es] at p3; exact p3.elim
  | some h4 =>
    rw [es] at p3
    exact fun m4 H4 e4 => p3 m4 H4 σ e4 ((s2.ext e3).ext e4)
/-! ### loops -/
theorem whl_succ {t : Env → Hc → Rs Bool} {b : Env → Hc → Fl} {n : Nat} {env : Env} {h : Hc} : whlGo t b (n + 1) env h = (t env h).toFl env fun k h1 => if k then (match b env h1 with
      | .next env2 h2 => whlGo t b n env2 h2
      | .cont env2 h2 => whlGo t b n env2 h2
      | .brk env2 h2 => .next env2 h2
      | r => r) else .next env h1 := rfl
theorem rd_while {t : Env → Hc → Rs Bool} {b : Env → Hc → Fl} {n : Nat} {D : Ends} {σ : L2.St} {H : Hp} (q : RdS g W (whlGo t b n) D σ H) : tWhile (RdT g W t) (RdS g W b) D σ H := by
  refine ⟨fun n σ H => RdS g W (whlGo t b n) D σ H, ⟨n, q⟩, fun k σ H ⟨m, env, h, s, p⟩ => ?_⟩
  cases k with
  | zero => exact p.elim
  | succ k =>
    rw [whl_succ] at p
    refine ⟨m, env, h, s, (PostF.toFl s p).mono fun c h1 m1 H1 e1 p1 => ?_⟩
    have s1 := s.ext e1
    cases c with
    | false => exact iteF (p1 m1 H1 σ (Ext.refl e1.rel) s1)
    | true =>
      refine iteT ⟨fun σ' H' => RdS g W (whlGo t b k) D σ' H', fun σ' H' w => ⟨k, Nat.lt_succ_self k, w⟩, m1, env, h1, s1, ?_⟩
      have p2 : PostF g W m1 h1 H1 D (match b env h1 with
        | .next env2 h2 => whlGo t b k env2 h2
        | .cont env2 h2 => whlGo t b k env2 h2
        | .brk env2 h2 => .next env2 h2
        | r => r) := p1
      cases eb : b env h1 with
      | fail => rw [eb] at p2; exact p2
      | next env2 h2 => rw [eb] at p2; exact fun m' H' σ' x s' => ⟨m', env2, h2, s', PostF.later s1.rel x p2⟩
      | cont env2 h2 => rw [eb] at p2; exact fun m' H' σ' x s' => ⟨m', env2, h2, s', PostF.later s1.rel x p2⟩
      | brk env2 h2 => rw [eb] at p2; exact p2
      | ret d h2 => rw [eb] at p2; exact p2
      | ex x env2 h2 => rw [eb] at p2; exact p2
theorem j_while {c : Expr} {body : List Stmt} {t : T} {b : List S} {pos : Pos} (hp : PassesOwn (model X.prog X.w) X.A X.env X.xe) (hc : PT X c (RdT g W (evT C t))) (hb : PSs X body (RdS g W (exSs C b))) : PS X (.While c body [] pos) (RdS g W (exS C (.whl t b))) := by
  refine psImp (ps_while hp hc hb) fun D σ H ⟨m, env, h, s, p⟩ => ?_
  rw [exS] at p
  exact rd_while ⟨m, env, h, s, p⟩
theorem forGo_none {st : Hc → Bool} {is : List Nat} {tp : Bool} {b : Env → Hc → Fl} {x : Lad.D} {xs : List Lad.D} {env : Env} {h : Hc} (e : bindG env is tp x = none) : forGo st is tp b (x :: xs) env h = .fail := by simp only [forGo, e]
theorem forGo_some {st : Hc → Bool} {is : List Nat} {tp : Bool} {b : Env → Hc → Fl} {x : Lad.D} {xs : List Lad.D} {env env1 : Env} {h : Hc} (e : bindG env is tp x = some env1) : forGo st is tp b (x :: xs) env h = match b env1 h with
      | .next env2 h2 => if st h2 then forGo st is tp b xs env2 h2 else .fail
      | .cont env2 h2 => if st h2 then forGo st is tp b xs env2 h2 else .fail
      | .brk env2 h2 => .next env2 h2
      | r => r := by first | (simp only [forGo, e]; done) | (simp only [forGo, e]; cases b env1 h <;> rfl)
/-- from one state to another, nothing made -/
theorem Ext.carry {m m' : AM} {h h' : Hc} {H H' : Hp} (e : Ext g m h H m' h' H') (r : Rel g m h H) : Carry g m m' h.length h'.length H H' :=
  ⟨fun _ _ s => sqt_ext s r e, fun a _ s q => ⟨e.keep _ _ s q.1, e.out s q⟩, fun a _ _ s q => ⟨e.keep _ _ s q.1, e.out s q⟩, fun i l => ⟨Nat.lt_of_lt_of_le l e.len, e.agree i l⟩⟩
theorem j_for {tg iter : Expr} {body : List Stmt} {is : List Nat} {tp : Bool} {it : It} {b : List S} {pos : Pos} (hp : PassesOwn (model X.prog X.w) X.A X.env X.xe) (hc : X.calm = true) (hi : PI X tg iter (RdI g W (evIt C it))) (hg : PG X tg (RdG g is tp)) (hb : PSs X body (RdS g W (exSs C b)))
    (hs : ∀ x, foldedSetIterable iter X.env x = pure x) : PS X (.For tg iter body [] pos) (RdS g W (exS C (.forS is tp it b))) := by
  refine psImp (ps_for hp hc hi hg hb hs) fun D σ H ⟨m, env, h, s, p⟩ => ?_
  rw [exS] at p
  refine ⟨m, env, h, s, ?_⟩
  cases ei : evIt C it env h with
  | fail => rw [ei] at p; exact p
  | ex x h' => rw [ei] at p; exact fun m' H' e => p m' H' σ e (s.ext e)
  | ok pr h1 =>
    rw [ei] at p
    have st1 := evIt_still ei
    intro m1 H1 e1 J wd
    have p : PostF g W m h H D (forGo (still h1 pr.2) is tp (exSs C b) pr.1 env h1) := p
    refine ⟨fun i mm σx Hx => mm = pr.1.length - i ∧ i ≤ pr.1.length ∧ ∃ m2 env2 h2, Ext g m1 h1 H1 m2 h2 Hx ∧ Stt g m2 env2 h2 σx Hx ∧ still h1 pr.2 h2 = true ∧ PostF g W m2 h2 Hx D (forGo (still h1 pr.2) is tp (exSs C b) (pr.1.drop i) env2 h2),
      ⟨pr.1.length, by simp, Nat.zero_le _, m1, env, h1, Ext.refl e1.rel, s.ext e1, st1, PostF.later s.rel e1 p⟩, ?_⟩
    rintro i mm σx Hx ⟨rfl, hi2, m2, env2, h2, x2, s2, st, p2⟩
    obtain ⟨wgo, wstop, wyld⟩ := wd m2 h2 Hx (x2.carry e1.rel) x2.rel st
    by_cases hlt : i < pr.1.length
    · obtain ⟨x, ex⟩ : ∃ x, pr.1[i]? = some x := ⟨pr.1[i], List.getElem?_eq_getElem hlt⟩
      have edr : pr.1.drop i = x :: pr.1.drop (i + 1) := by
        rw [List.drop_eq_getElem_cons hlt]
        rw [List.getElem?_eq_getElem hlt] at ex
        rw [Option.some.inj ex]
      rw [edr] at p2
      cases eb : bindG env2 is tp x with
      | none => rw [forGo_none eb] at p2; exact p2.elim
      | some env3 =>
        rw [forGo_some eb] at p2
        refine .inr ⟨wgo i hlt, fun σn Hn => ∃ m4 env4 h4, Ext g m1 h1 H1 m4 h4 Hn ∧ Stt g m4 env4 h4 σn Hn ∧ still h1 pr.2 h4 = true ∧ PostF g W m4 h4 Hn D (forGo (still h1 pr.2) is tp (exSs C b) (pr.1.drop (i + 1)) env4 h4),
          fun σn Hn w => ⟨pr.1.length - (i + 1), by omega, rfl, by omega, w⟩, fun vx H3 hy => ?_⟩
        obtain ⟨x3, rx⟩ := wyld i vx H3 x ex hy
        refine ⟨m2, env2, h2, x, env3, s2.ext x3, rx, eb, fun σ3 s3 _ => ⟨m2, env3, h2, s3, ?_⟩⟩
        have p3 := PostF.later s2.rel x3 p2
        clear p2
        cases er : exSs C b env3 h2 with
        | fail => rw [er] at p3; exact p3
        | ret d h4 => rw [er] at p3; exact p3
        | ex xx env4 h4 => rw [er] at p3; exact p3
        | brk env4 h4 => rw [er] at p3; exact p3
        | next env4 h4 =>
          rw [er] at p3
          intro m4 H4 σ4 x4 s4
          by_cases z : still h1 pr.2 h4 = true
          · have p4 : PostF g W m2 h2 H3 D (if still h1 pr.2 h4 = true then forGo (still h1 pr.2) is tp (exSs C b) (pr.1.drop (i + 1)) env4 h4 else .fail) := p3
            rw [if_pos z] at p4
            exact ⟨m4, env4, h4, Ext.trans e1.rel x2 (Ext.trans s2.rel x3 x4), s4, z, PostF.later x3.rel x4 p4⟩
          · have p4 : PostF g W m2 h2 H3 D (if still h1 pr.2 h4 = true then forGo (still h1 pr.2) is tp (exSs C b) (pr.1.drop (i + 1)) env4 h4 else .fail) := p3
            rw [if_neg z] at p4
            exact p4.elim
        | cont env4 h4 =>
          rw [er] at p3
          intro m4 H4 σ4 x4 s4
          by_cases z : still h1 pr.2 h4 = true
          · have p4 : PostF g W m2 h2 H3 D (if still h1 pr.2 h4 = true then forGo (still h1 pr.2) is tp (exSs C b) (pr.1.drop (i + 1)) env4 h4 else .fail) := p3
            rw [if_pos z] at p4
            exact ⟨m4, env4, h4, Ext.trans e1.rel x2 (Ext.trans s2.rel x3 x4), s4, z, PostF.later x3.rel x4 p4⟩
          · have p4 : PostF g W m2 h2 H3 D (if still h1 pr.2 h4 = true then forGo (still h1 pr.2) is tp (exSs C b) (pr.1.drop (i + 1)) env4 h4 else .fail) := p3
            rw [if_neg z] at p4
            exact p4.elim
    · have ei : i = pr.1.length := by omega
      subst ei
      rw [List.drop_length] at p2
      unfold forGo at p2
      exact .inl ⟨wstop, p2 m2 Hx σx (Ext.refl x2.rel) s2⟩
end
end Lad
set_option Elab.async false
set_option linter.all false
set_option maxRecDepth 100000
set_option maxHeartbeats 4000000
/-! Values: data, operators. -/
namespace Lad
open PySem PySem.Spec PyProof.Rows L2
/-! ### data -/
mutual
def pyOf : Lad.D → PyData
  | .non => .none
  | .bl b => .bool b
  | .int i => .int i
  | .str x => .str (kStr x)
  | .tup ds => .tuple (pyAll ds)
  | .lst ds => .list (pyAll ds)
  | _ => .none
def pyAll : List Lad.D → List PyData
  | [] => []
  | d :: ds => pyOf d :: pyAll ds
end
theorem kStr_beq (x y : List Nat) : (kStr x == kStr y) = (x == y) := by
  cases h : x == y with
  | true => rw [eq_of_beq h]; exact beq_self_eq_true _
  | false =>
    apply Bool.eq_false_iff.mpr
    intro z
    rw [kStr_inj (eq_of_beq z)] at h
    simp at h
mutual
theorem py_eqv : ∀ (a b : Lad.D), a.data = true → b.data = true → PyData.eqv (pyOf a) (pyOf b) = D.eqv a b
  | .non, b, _, hb => by cases b <;> first | (simp [pyOf, PyData.eqv, D.eqv]; done) | (simp [D.data] at hb)
  | .bl x, b, _, hb => by cases b <;> first | (simp [pyOf, PyData.eqv, D.eqv, Lad.b2i]; done) | (simp [D.data] at hb)
  | .int x, b, _, hb => by cases b <;> first | (simp [pyOf, PyData.eqv, D.eqv, Lad.b2i]; done) | (simp [D.data] at hb)
  | .str x, b, _, hb => by cases b <;> first | (simp only [pyOf, PyData.eqv, D.eqv, kStr_beq]; done) | (simp [D.data] at hb)
  | .tup xs, b, ha, hb => by
    cases b with
    | tup ys => simp only [pyOf, PyData.eqv, D.eqv]; exact py_eqvs xs ys (by simpa [D.data] using ha) (by simpa [D.data] using hb)
    | _ => first | (simp only [pyOf, PyData.eqv, D.eqv]; done) | (simp [D.data] at hb)
  | .lst xs, b, ha, hb => by
    cases b with
    | lst ys => simp only [pyOf, PyData.eqv, D.eqv]; exact py_eqvs xs ys (by simpa [D.data] using ha) (by simpa [D.data] using hb)
    | _ => first | (simp only [pyOf, PyData.eqv, D.eqv]; done) | (simp [D.data] at hb)
  | .scr _, _, ha, _ => by simp [D.data] at ha
  | .ref _, _, ha, _ => by simp [D.data] at ha
  | .fn _, _, ha, _ => by simp [D.data] at ha
  | .kd _, _, ha, _ => by simp [D.data] at ha
  | .exc _ _, _, ha, _ => by simp [D.data] at ha
theorem py_eqvs : ∀ (xs ys : List Lad.D), D.datas xs = true → D.datas ys = true → PyData.eqvAll (pyAll xs) (pyAll ys) = D.eqvs xs ys
  | [], [], _, _ => by simp only [pyAll, PyData.eqvAll, D.eqvs]
  | [], _ :: _, _, _ => by simp only [pyAll, PyData.eqvAll, D.eqvs]
  | _ :: _, [], _, _ => by simp only [pyAll, PyData.eqvAll, D.eqvs]
  | x :: xs, y :: ys, ha, hb => by
    simp only [D.datas, Bool.and_eq_true] at ha hb
    simp only [pyAll, PyData.eqvAll, D.eqvs, py_eqv x y ha.1 hb.1, py_eqvs xs ys ha.2 hb.2]
end
theorem strOk_k {x : List Nat} (h : (x.all fun c => decide (c < 1114112)) = true) : PyData.strOk (kStr x) = true := by
  unfold PyData.strOk kStr
  rw [← Array.all_toList]
  exact h
mutual
theorem py_lay : ∀ (a : Lad.D), a.data = true → (pyOf a).canLay0 = true
  | .non, _ => by simp [pyOf, PyData.canLay0]
  | .bl _, _ => by simp [pyOf, PyData.canLay0]
  | .int _, _ => by simp [pyOf, PyData.canLay0]
  | .str x, h => by simp only [pyOf, PyData.canLay0]; exact strOk_k (by simpa [D.data] using h)
  | .tup xs, h => by simp only [pyOf, PyData.canLay0]; exact py_lays xs (by simpa [D.data] using h)
  | .lst xs, h => by simp only [pyOf, PyData.canLay0]; exact py_lays xs (by simpa [D.data] using h)
  | .scr _, ha => by simp [D.data] at ha
  | .ref _, ha => by simp [D.data] at ha
  | .fn _, ha => by simp [D.data] at ha
  | .kd _, ha => by simp [D.data] at ha
  | .exc _ _, ha => by simp [D.data] at ha
theorem py_lays : ∀ (xs : List Lad.D), D.datas xs = true → PyData.canLayAll0 (pyAll xs) = true
  | [], _ => by simp [pyAll, PyData.canLayAll0]
  | x :: xs, h => by
    simp only [D.datas, Bool.and_eq_true] at h
    simp only [pyAll, PyData.canLayAll0, py_lay x h.1, py_lays xs h.2, Bool.and_self]
end
mutual
theorem py_depth : ∀ (a : Lad.D), (pyOf a).depth = a.depth
  | .non => by simp [pyOf, PyData.depth, D.depth]
  | .bl _ => by simp [pyOf, PyData.depth, D.depth]
  | .int _ => by simp [pyOf, PyData.depth, D.depth]
  | .str x => by simp [pyOf, PyData.depth, D.depth]
  | .tup xs => by simp only [pyOf, PyData.depth, D.depth, py_depths xs]
  | .lst xs => by simp only [pyOf, PyData.depth, D.depth, py_depths xs]
  | .scr _ => by simp [pyOf, PyData.depth, D.depth]
  | .ref _ => by simp [pyOf, PyData.depth, D.depth]
  | .fn _ => by simp [pyOf, PyData.depth, D.depth]
  | .kd _ => by simp [pyOf, PyData.depth, D.depth]
  | .exc _ _ => by simp [pyOf, PyData.depth, D.depth]
theorem py_depths : ∀ (xs : List Lad.D), PyData.depthAll (pyAll xs) = D.depths xs
  | [] => by simp [pyAll, PyData.depthAll, D.depths]
  | x :: xs => by simp only [pyAll, PyData.depthAll, D.depths, py_depth x, py_depths xs]
end
theorem pyAll_map : ∀ xs : List Lad.D, pyAll xs = xs.map pyOf
  | [] => rfl
  | x :: xs => by simp [pyAll, pyAll_map xs]
section
variable {g : Gp} {m : AM} {n : Nat} {H : Hp}
mutual
theorem dp_of : ∀ {d : Lad.D} {v : V}, Rep g m n H d v → d.data = true → Dp g.K H v (pyOf d)
  | _, _, .non, _ => by simp only [pyOf]; exact .non
  | _, _, .bl b, _ => by simp only [pyOf]; exact .bl b
  | _, _, .int i, _ => by simp only [pyOf]; exact .int i
  | _, _, .str x, _ => by simp only [pyOf]; exact .str _
  | _, _, .tup s r, h => by simp only [pyOf]; exact .tup s (dps_of r (by simpa [D.data] using h))
  | _, _, .lst s o r, h => by simp only [pyOf]; exact .lst (SqL.of s) (dps_of r (by simpa [D.data] using h))
  | _, _, .scr _, h => by simp [D.data] at h
  | _, _, .ref _, h => by simp [D.data] at h
  | _, _, .fn _, h => by simp [D.data] at h
theorem dps_of : ∀ {ds : List Lad.D} {vs : List V}, Reps g m n H ds vs → D.datas ds = true → DpAll g.K H vs (pyAll ds)
  | _, _, .nil, _ => by simp only [pyAll]; exact .nil
  | _, _, .cons a b, h => by
    simp only [D.datas, Bool.and_eq_true] at h
    simp only [pyAll]
    exact .cons (dp_of a h.1) (dps_of b h.2)
end
end
section
variable {g : Gp} {m : AM} {h : Hc} {H : Hp}
theorem ref_lst {i : Nat} {ds : List Lad.D} {v : V} (r : Rel g m h H) (q : Rep g m h.length H (.ref i) v) (e : h[i]? = some (.lst ds)) : ∃ vs, v = .ref (m.f i) ∧ H (m.f i) = some (.lst vs) ∧ Reps g m h.length H ds vs := by
  cases q with
  | ref l =>
    obtain ⟨vs, a, b⟩ := r.obj i _ e
    exact ⟨vs, rfl, a, b⟩
theorem ref_dct {i : Nat} {kvs : List (Ky × Lad.D)} {v : V} (r : Rel g m h H) (q : Rep g m h.length H (.ref i) v) (e : h[i]? = some (.dct kvs)) : ∃ ws, v = .ref (m.f i) ∧ H (m.f i) = some (.dK ws) ∧ RepKv g m h.length H kvs ws ∧ (kvs.map (·.1)).Nodup := by
  cases q with
  | ref l =>
    obtain ⟨vs, a, b, c⟩ := r.obj i _ e
    exact ⟨vs, rfl, a, b, c⟩
theorem dp_deref {d : Lad.D} {v : V} (r : Rel g m h H) (q : Rep g m h.length H d v) (e : (deref h d).data = true) : Dp g.K H v (pyOf (deref h d)) := by
  cases d with
  | ref i =>
    have e0 : deref h (.ref i) = (match h[i]? with | some (.lst ds) => .lst ds | _ => .ref i) := rfl
    cases o : h[i]? with
    | none => rw [e0, o] at e; simp [D.data] at e
    | some x =>
      cases x with
      | lst ds =>
        rw [e0, o] at e ⊢
        obtain ⟨vs, rfl, a, b⟩ := ref_lst r q o
        simp only [pyOf]
        exact .lst (SqL.of a) (dps_of b (by simpa [D.data] using e))
      | _ => rw [e0, o] at e; simp [D.data] at e
  | _ => exact dp_of q e
end
/-- the room of an operation -/
def Rm (X : Cx) : Prop := X.A.units + 70 < cLine
section
variable {X : Cx} {g : Gp}
theorem post1 {m : AM} {h : Hc} {H : Hp} {Q : VK} {d : Lad.D} {v : V} (rl : Rel g m h H) (p : Left g m h H (VQ g Q) d h) (r : Rep g m h.length H d v) : Q v H := p m H (Ext.refl rl) v r
theorem eqOk_data {x y : Lad.D} (e : eqOk x y = true) : x.data = true ∧ y.data = true ∧ min x.depth y.depth ≤ 64 := by
  simp only [eqOk, Bool.and_eq_true, decide_eq_true_eq] at e
  exact ⟨e.1.1, e.1.2, e.2⟩
theorem o_eq (hK : X.K = g.K) (rm : Rm X) : OpR X (compareOp .Eq) (RO g fun x y h => keep h (cmpD .eq x y h)) := by
  intro pins s σ H x y v u Q I rx ry ⟨m, h, dx, dy, rl, r1, r2, p⟩
  simp only [cmpD] at p
  by_cases e : eqOk (deref h dx) (deref h dy) = true
  · rw [if_pos e] at p
    obtain ⟨e1, e2, e3⟩ := eqOk_data e
    obtain ⟨as, q1⟩ := Dp.reads I _ x v (by rw [hK]; exact dp_deref rl r1 e1) rx
    obtain ⟨bs, q2⟩ := Dp.reads I _ y u (by rw [hK]; exact dp_deref rl r2 e2) ry
    refine SeqAt.compareEq_reads q1 q2 (py_lay _ e1) (py_lay _ e2) (by rw [py_depth, py_depth]; unfold Rm at rm; omega) ⟨.bl _, H, I, rfl, ?_⟩
    rw [py_eqv _ _ e1 e2]
    exact post1 rl p (.bl _)
  · rw [if_neg e] at p; exact p.elim
theorem o_ne (hK : X.K = g.K) (rm : Rm X) : OpR X (compareOp .NotEq) (RO g fun x y h => keep h (cmpD .ne x y h)) := by
  intro pins s σ H x y v u Q I rx ry ⟨m, h, dx, dy, rl, r1, r2, p⟩
  simp only [cmpD] at p
  by_cases e : eqOk (deref h dx) (deref h dy) = true
  · rw [if_pos e] at p
    obtain ⟨e1, e2, e3⟩ := eqOk_data e
    obtain ⟨as, q1⟩ := Dp.reads I _ x v (by rw [hK]; exact dp_deref rl r1 e1) rx
    obtain ⟨bs, q2⟩ := Dp.reads I _ y u (by rw [hK]; exact dp_deref rl r2 e2) ry
    refine SeqAt.compareNe_reads q1 q2 (py_lay _ e1) (py_lay _ e2) (by rw [py_depth, py_depth]; unfold Rm at rm; omega) ⟨.bl _, H, I, rfl, ?_⟩
    rw [py_eqv _ _ e1 e2]
    exact post1 rl p (.bl _)
  · rw [if_neg e] at p; exact p.elim
theorem o_lt : OpR X (compareOp .Lt) (RO g fun x y h => keep h (cmpD .lt x y h)) := by
  intro pins s σ H x y v u Q I rx ry ⟨m, h, dx, dy, rl, r1, r2, p⟩
  cases dx <;> cases dy <;> first | exact False.elim p | skip
  cases r1; cases r2
  exact op_lt pins s σ H _ _ v u Q I rx ry ⟨_, _, rfl, rfl, post1 rl p (.bl _)⟩
theorem o_gt : OpR X (compareOp .Gt) (RO g fun x y h => keep h (cmpD .gt x y h)) := by
  intro pins s σ H x y v u Q I rx ry ⟨m, h, dx, dy, rl, r1, r2, p⟩
  cases dx <;> cases dy <;> first | exact False.elim p | skip
  cases r1; cases r2
  exact op_gt pins s σ H _ _ v u Q I rx ry ⟨_, _, rfl, rfl, post1 rl p (.bl _)⟩
theorem o_ge : OpR X (compareOp .GtE) (RO g fun x y h => keep h (cmpD .ge x y h)) := by
  intro pins s σ H x y v u Q I rx ry ⟨m, h, dx, dy, rl, r1, r2, p⟩
  cases dx <;> cases dy <;> first | exact False.elim p | skip
  cases r1; cases r2
  exact op_ge pins s σ H _ _ v u Q I rx ry ⟨_, _, rfl, rfl, post1 rl p (.bl _)⟩

theorem tup_two {m : AM} {n : Nat} {H : Hp} {a b : Lad.D} {v : V} (q : Rep g m n H (.tup [a, b]) v) : ∃ p x y, v = .ref p ∧ SqT g.K H p [x, y] ∧ Rep g m n H a x ∧ Rep g m n H b y := by
  cases q with
  | @tup p _ vs s r =>
    cases r with
    | cons r1 rr =>
      cases rr with
      | cons r2 rr2 =>
        cases rr2
        exact ⟨p, _, _, rfl, s, r1, r2⟩
theorem le_bools (a b : Bool) : decide (PyProof.Rows.b2i a ≤ PyProof.Rows.b2i b) = (!a || b) := by cases a <;> cases b <;> rfl
theorem o_le (hK : X.K = g.K) (rm : Rm X) : OpR X (compareOp .LtE) (RO g fun x y h => keep h (cmpD .le x y h)) := by
  intro pins s σ H x y v u Q I rx ry ⟨m, h, dx, dy, rl, r1, r2, p⟩
  have pe : OptP (keep h (leD dx dy)) (Left g m h H (VQ g Q)) := p
  clear p
  unfold leD at pe
  split at pe
  · cases r1; cases r2
    exact op_le pins s σ H _ _ v u Q I rx ry ⟨_, _, rfl, rfl, post1 rl pe (.bl _)⟩
  · rename_i i a j b
    obtain ⟨p1, x1, y1, rfl, s1, q1, q2⟩ := tup_two r1
    obtain ⟨p2, x2, y2, rfl, s2, q3, q4⟩ := tup_two r2
    cases q1; cases q2; cases q3; cases q4
    cases rx
    cases ry
    obtain ⟨its1, w1, t1, _⟩ := I.tuple (show SqT X.K H p1 _ by rw [hK]; exact s1)
    obtain ⟨its2, w2, t2, _⟩ := I.tuple (show SqT X.K H p2 _ by rw [hK]; exact s2)
    obtain ⟨ta, rfl⟩ : ∃ t, its1 = [.int i t, .bool a] := by
      cases w1 with
      | cons a1 b1 => cases b1 with
        | cons a2 b2 => cases b2; obtain ⟨t, rfl⟩ := a1; cases a2; exact ⟨t, rfl⟩
    obtain ⟨tb, rfl⟩ : ∃ t, its2 = [.int j t, .bool b] := by
      cases w2 with
      | cons a1 b1 => cases b1 with
        | cons a2 b2 => cases b2; obtain ⟨t, rfl⟩ := a1; cases a2; exact ⟨t, rfl⟩
    have R := Ob.RcOp.tuples_le (A := X.A) (s := s) (e := fun k => if k = 0 then (i == j) else (a == b)) (r := fun k => if k = 0 then decide (i ≤ j) else decide (PyProof.Rows.b2i a ≤ PyProof.Rows.b2i b)) t1 t2 (by unfold Rm at rm; omega)
      (fun k h1 h2 => by
        match k, h1, h2 with
        | 0, _, _ => exact SeqAt.EqAt.int_int _ _ _ _
        | 1, _, _ => exact SeqAt.EqAt.bool_bool _ _
        | k + 2, h1, _ => exact absurd h1 (by simp))
      (fun k h1 h2 _ => by
        match k, h1, h2 with
        | 0, _, _ => exact Ob.RcOp.le_int _ _ _ _
        | 1, _, _ => exact fun _ _ _ _ q => PyProof.Rows.le_bool q
        | k + 2, h1, _ => exact absurd h1 (by simp))
    have ev : Ob.lexAt (fun k => if k = 0 then (i == j) else (a == b)) (fun k => if k = 0 then decide (i ≤ j) else decide (PyProof.Rows.b2i a ≤ PyProof.Rows.b2i b)) (decide ((2 : Nat) ≤ 2)) 0 2 = (if i = j then !a || b else decide (i ≤ j)) := by
      rw [le_bools]
      by_cases e : i = j
      · subst e
        cases a <;> cases b <;> simp [Ob.lexAt]
      · have e2 : (i == j) = false := beq_eq_false_iff_ne.mpr e
        simp [Ob.lexAt, e, e2]
    have R2 : Ob.RcOp .LtE X.A s (.ref p1) (.ref p2) (if i = j then !a || b else decide (i ≤ j)) := by
      rw [← ev]
      exact R
    have z : wpAny (model X.prog X.w) X.A (compareOp .LtE (.ref p1) (.ref p2)) (EP X pins σ Q) X.xe s := R2 X.prog X.w X.xe (EP X pins σ Q) ⟨.bl _, H, I, rfl, post1 rl pe (.bl _)⟩
    exact z
  · exact False.elim pe
theorem non_iff {m : AM} {n : Nat} {H : Hp} {d : Lad.D} {v : V} (q : Rep g m n H d v) : decide (v = V.non) = isNon d := by
  cases q <;> rfl
theorem o_is : OpR X (compareOp .Is) (RO g fun x y h => keep h (cmpD .is x y h)) := by
  intro pins s σ H x y v u Q I rx ry ⟨m, h, dx, dy, rl, r1, r2, p⟩
  cases dy <;> first | exact False.elim p | skip
  cases r2
  refine op_isN pins s σ H _ _ v u Q I rx ry ⟨rfl, ?_⟩
  rw [non_iff r1]
  exact post1 rl p (.bl _)
theorem o_isnt : OpR X (compareOp .IsNot) (RO g fun x y h => keep h (cmpD .isnt x y h)) := by
  intro pins s σ H x y v u Q I rx ry ⟨m, h, dx, dy, rl, r1, r2, p⟩
  cases dy <;> first | exact False.elim p | skip
  cases r2
  refine op_notN pins s σ H _ _ v u Q I rx ry ⟨rfl, ?_⟩
  rw [non_iff r1]
  exact post1 rl p (.bl _)
/-! ### in -/
theorem any_eqv {a : Lad.D} : ∀ {ds : List Lad.D}, a.data = true → D.datas ds = true → ((pyAll ds).any fun z => PyData.eqv z (pyOf a)) = ds.any fun z => D.eqv z a
  | [], _, _ => rfl
  | x :: xs, ha, hd => by
    simp only [D.datas, Bool.and_eq_true] at hd
    simp only [pyAll, List.any_cons, py_eqv x a hd.1 ha, any_eqv ha hd.2]
theorem kv_get {m : AM} {n : Nat} {H : Hp} (q : Ky) : ∀ {kvs : List (Ky × Lad.D)} {ws : List (Key × V)}, RepKv g m n H kvs ws → (∀ d, kvGet kvs q = some d → ∃ v, valV ws (ky q) = some v ∧ Rep g m n H d v) ∧ (kvGet kvs q = none → valV ws (ky q) = none)
  | _, _, .nil => ⟨fun d e => (by cases e), fun _ => rfl⟩
  | _, _, .cons (k := k) (d := d0) a b => by
    have ih := kv_get q b
    by_cases e : k = q
    · subst e
      refine ⟨fun d e => ?_, fun e => ?_⟩
      · simp [kvGet] at e
        subst e
        exact ⟨_, valV_pos rfl, a⟩
      · simp [kvGet] at e
    · have ne : ¬ ky k = ky q := fun z => e (ky_inj z)
      refine ⟨fun d h => ?_, fun h => ?_⟩
      · simp only [kvGet, if_neg e] at h
        rw [valV_neg ne]
        exact ih.1 d h
      · simp only [kvGet, if_neg e] at h
        rw [valV_neg ne]
        exact ih.2 h
theorem key_v {m : AM} {n : Nat} {H : Hp} {d : Lad.D} {v : V} {q : Ky} (r : Rep g m n H d v) (e : keyOf d = some q) : v = kV (ky q) := by
  cases r <;> cases e <;> rfl
theorem sign_in {m : AM} {n : Nat} {H : Hp} {a : Lad.D} {v : V} {x : List Nat} {t : Bool} (r : Rep g m n H a v) (e : strIn a x = some t) : ∃ c, v = .str ⟨#[c]⟩ ∧ t = decide (c ∈ (kStr x).cps.toList) := by
  cases r with
  | str y =>
    match y, e with
    | [c], e =>
      have e' : some (x.contains c) = some t := e
      cases e'
      refine ⟨c, rfl, ?_⟩
      cases hc : x.contains c <;> simp [kStr] at hc ⊢ <;> simp [hc]
    | [], e => cases e
    | _ :: _ :: _, e => cases e
  | _ => cases e
theorem inD_some {a : Lad.D} {ds : List Lad.D} {t : Bool} (e : inD a ds = some t) : a.data = true ∧ D.datas ds = true ∧ min (D.depths ds) a.depth ≤ 64 ∧ t = ds.any fun z => D.eqv z a := by
  unfold inD at e
  split at e
  · rename_i c
    simp only [Bool.and_eq_true, decide_eq_true_eq] at c
    cases e
    exact ⟨c.1.1, c.1.2, c.2, rfl⟩
  · cases e
theorem mem_run (hK : X.K = g.K) (rm : Rm X) {pins : List (Addr × Obj)} {s : Shared} {σ : L2.St} {H : Hp} {x y : V} {v u : Value} {m : AM} {h : Hc} {dx dy : Lad.D} {t : Bool} (I : Inv X pins σ H s) (rx : RelV x v) (ry : RelV y u) (rl : Rel g m h H) (r1 : Rep g m h.length H dx x) (r2 : Rep g m h.length H dy y)
    (e : memD h dx dy = some t) : (∀ Q : VK, Q (.bl t) H → wpAny (model X.prog X.w) X.A (compareOp .In v u) (EP X pins σ Q) X.xe s) ∧ (∀ Q : VK, Q (.bl (!t)) H → wpAny (model X.prog X.w) X.A (compareOp .NotIn v u) (EP X pins σ Q) X.xe s) := by
  have seqs : ∀ ds, inD dx ds = some t → (Dp g.K H y (.list (pyAll ds)) ∨ Dp g.K H y (.tuple (pyAll ds))) → (∀ Q : VK, Q (.bl t) H → wpAny (model X.prog X.w) X.A (compareOp .In v u) (EP X pins σ Q) X.xe s) ∧ (∀ Q : VK, Q (.bl (!t)) H → wpAny (model X.prog X.w) X.A (compareOp .NotIn v u) (EP X pins σ Q) X.xe s) := by
    intro ds ei dp
    obtain ⟨e1, e2, e3, rfl⟩ := inD_some ei
    obtain ⟨as, q1⟩ := Dp.reads I _ x v (by rw [hK]; exact dp_of r1 e1) rx
    have rmm : X.A.units + 1 + min (PyData.depthAll (pyAll ds)) (pyOf dx).depth < cLine := by rw [py_depth, py_depths]; unfold Rm at rm; omega
    rcases dp with dp | dp
    · obtain ⟨bs, q2⟩ := Dp.reads I _ y u (by rw [hK]; exact dp) ry
      exact ⟨fun Q q => SeqAt.in_list_reads q2 q1 (py_lays _ e2) (py_lay _ e1) rmm ⟨.bl _, H, I, rfl, by rw [any_eqv e1 e2]; exact q⟩, fun Q q => SeqAt.notIn_list_reads q2 q1 (py_lays _ e2) (py_lay _ e1) rmm ⟨.bl _, H, I, rfl, by rw [any_eqv e1 e2]; exact q⟩⟩
    · obtain ⟨bs, q2⟩ := Dp.reads I _ y u (by rw [hK]; exact dp) ry
      exact ⟨fun Q q => SeqAt.in_tuple_reads q2 q1 (py_lays _ e2) (py_lay _ e1) rmm ⟨.bl _, H, I, rfl, by rw [any_eqv e1 e2]; exact q⟩, fun Q q => SeqAt.notIn_tuple_reads q2 q1 (py_lays _ e2) (py_lay _ e1) rmm ⟨.bl _, H, I, rfl, by rw [any_eqv e1 e2]; exact q⟩⟩
  cases dy with
  | tup ds =>
    have e' : inD dx ds = some t := e
    refine seqs ds e' (.inr ?_)
    have := dp_of r2 (by simpa [D.data] using (inD_some e').2.1)
    simpa [pyOf] using this
  | lst ds =>
    have e' : inD dx ds = some t := e
    refine seqs ds e' (.inl ?_)
    have := dp_of r2 (by simpa [D.data] using (inD_some e').2.1)
    simpa [pyOf] using this
  | str z =>
    obtain ⟨c, rfl, rfl⟩ := sign_in r1 e
    cases r2
    exact ⟨fun Q q => op_in_sign pins s σ H _ _ v u Q I rx ry ⟨c, _, rfl, rfl, q⟩, fun Q q => op_notIn_sign pins s σ H _ _ v u Q I rx ry ⟨c, _, rfl, rfl, q⟩⟩
  | ref i =>
    have e0 : (match h[i]? with
      | some (.dct kvs) => (keyOf dx).map fun k => (kvGet kvs k).isSome
      | some (.lst ds) => inD dx ds
      | _ => none) = some t := e
    cases o : h[i]? with
    | none => rw [o] at e0; cases e0
    | some z =>
      cases z with
      | lst ds =>
        rw [o] at e0
        obtain ⟨vs, rfl, a, b⟩ := ref_lst rl r2 o
        exact seqs ds e0 (.inl (.lst (SqL.of a) (dps_of b (inD_some e0).2.1)))
      | dct kvs =>
        rw [o] at e0
        obtain ⟨ws, rfl, a, b, _⟩ := ref_dct rl r2 o
        cases ek : keyOf dx with
        | none => rw [ek] at e0; cases e0
        | some k =>
          rw [ek] at e0
          have e1 : some (kvGet kvs k).isSome = some t := e0
          have et : t = (valV ws (ky k)).isSome := by
            have kg := kv_get k b
            cases eg : kvGet kvs k with
            | none => rw [eg] at e1; rw [kg.2 eg]; cases e1; rfl
            | some d => rw [eg] at e1; obtain ⟨v', ev, _⟩ := kg.1 d eg; rw [ev]; cases e1; rfl
          have ex := key_v r1 ek
          subst ex
          cases ry
          exact ⟨fun Q q => d_in (by unfold Rm at rm; omega) I (DGet.k a) rx fun s' I' => ⟨.bl _, H, I', rfl, by rw [← et]; exact q⟩, fun Q q => d_notIn (by unfold Rm at rm; omega) I (DGet.k a) rx fun s' I' => ⟨.bl _, H, I', rfl, by rw [← et]; exact q⟩⟩
      | ins c fs => rw [o] at e0; cases e0
  | _ => cases e
theorem o_in (hK : X.K = g.K) (rm : Rm X) : OpR X (compareOp .In) (RO g fun x y h => keep h (cmpD .mem x y h)) := by
  intro pins s σ H x y v u Q I rx ry ⟨m, h, dx, dy, rl, r1, r2, p⟩
  have pe : OptP (keep h (match memD h dx dy with | some t => some (.bl t) | none => none)) (Left g m h H (VQ g Q)) := p
  cases e : memD h dx dy with
  | none => rw [e] at pe; exact False.elim pe
  | some t => rw [e] at pe; exact (mem_run hK rm I rx ry rl r1 r2 e).1 Q (post1 rl pe (.bl _))
theorem o_notin (hK : X.K = g.K) (rm : Rm X) : OpR X (compareOp .NotIn) (RO g fun x y h => keep h (cmpD .nmem x y h)) := by
  intro pins s σ H x y v u Q I rx ry ⟨m, h, dx, dy, rl, r1, r2, p⟩
  have pe : OptP (keep h (match memD h dx dy with | some t => some (.bl (!t)) | none => none)) (Left g m h H (VQ g Q)) := p
  cases e : memD h dx dy with
  | none => rw [e] at pe; exact False.elim pe
  | some t => rw [e] at pe; exact (mem_run hK rm I rx ry rl r1 r2 e).2 Q (post1 rl pe (.bl _))
/-- all comparisons -/
def cmpOf : CmpOp → Option Cop
  | .Eq => some .eq
  | .NotEq => some .ne
  | .Lt => some .lt
  | .LtE => some .le
  | .Gt => some .gt
  | .GtE => some .ge
  | .Is => some .is
  | .IsNot => some .isnt
  | .In => some .mem
  | .NotIn => some .nmem
theorem o_cmp (hK : X.K = g.K) (rm : Rm X) {op : CmpOp} {co : Cop} (e : cmpOf op = some co) : OpR X (compareOp op) (RO g fun x y h => keep h (cmpD co x y h)) := by
  cases op <;> cases e
  · exact o_eq hK rm
  · exact o_ne hK rm
  · exact o_lt
  · exact o_le hK rm
  · exact o_gt
  · exact o_ge
  · exact o_is
  · exact o_isnt
  · exact o_in hK rm
  · exact o_notin hK rm
end
end Lad
set_option Elab.async false
set_option linter.all false
set_option maxRecDepth 100000
set_option maxHeartbeats 4000000
/-! Values: arithmetic, joins, indices, slices, stores, built-ins, methods. -/
namespace Lad
open PySem PySem.Spec PyProof.Rows L2
section
variable {X : Cx} {g : Gp}
theorem small_of {i : Int} (h : small i = true) : -(2 ^ 64) < i ∧ i < 2 ^ 64 := by
  simp only [small, decide_eq_true_eq] at h
  omega
theorem log_small {i : Int} (h : small i = true) : i.natAbs.log2 < 64 := by
  simp only [small, decide_eq_true_eq] at h
  by_cases z : i.natAbs = 0
  · rw [z]; decide
  · exact (Nat.log2_lt z).mpr h
theorem post_new {m : AM} {h : Hc} {H : Hp} {Q : VK} {d : Lad.D} {v : V} {p : Addr} {o : HO} (rl : Rel g m h H) (q : Left g m h H (VQ g Q) d h) (np : H p = none) (r : Rep g m h.length (upd H p o) d v) : Q v (upd H p o) := q m _ (rl.laid np) v r
theorem rep_newT {m : AM} {h : Hc} {H : Hp} {ds : List Lad.D} {vs : List V} {p : Addr} (rl : Rel g m h H) (np : H p = none) (r : Reps g m h.length H ds vs) : Rep g m h.length (upd H p (.tup vs)) (.tup ds) (.ref p) := .tup (SqT.of upd_same) (r.ext rl (rl.laid np))
theorem rep_newL {m : AM} {h : Hc} {H : Hp} {ds : List Lad.D} {vs : List V} {p : Addr} (rl : Rel g m h H) (np : H p = none) (r : Reps g m h.length H ds vs) : Rep g m h.length (upd H p (.lst vs)) (.lst ds) (.ref p) := .lst upd_same (rl.fresh np) (r.ext rl (rl.laid np))
theorem max_line : sizeMax ≤ sizeLine := Nat.le_of_lt sizeMax_lt
theorem kStr_len (x : List Nat) : (kStr x).length = x.length := by simp [kStr, Str.length]
theorem kStr_app (x y : List Nat) : kStr x ++ kStr y = kStr (x ++ y) := by
  show Str.append (kStr x) (kStr y) = _
  simp [kStr, Str.append]
theorem o_add (hK : X.K = g.K) : OpR X (binaryOp .Add) (RO g fun x y h => keep h (binD .add x y)) := by
  intro pins s σ H x y v u Q I rx ry ⟨m, h, dx, dy, rl, r1, r2, p⟩
  cases dx <;> cases dy <;> first | exact False.elim p | skip
  · cases r1; cases r2
    exact op_add pins s σ H _ _ v u Q I rx ry ⟨_, _, rfl, rfl, post1 rl p (.int _)⟩
  · rename_i a b
    have p' : OptP (keep h (if a.length + b.length ≤ sizeMax then some (.str (a ++ b)) else none)) (Left g m h H (VQ g Q)) := p
    by_cases z : a.length + b.length ≤ sizeMax
    · rw [if_pos z] at p'
      cases r1; cases r2
      have := max_line
      refine op_add_str pins s σ H _ _ v u Q I rx ry ⟨_, _, rfl, rfl, by rw [kStr_len, kStr_len]; omega, ?_⟩
      rw [kStr_app]
      exact post1 rl p' (.str _)
    · rw [if_neg z] at p'; exact False.elim p'
  · rename_i a b
    have p' : OptP (keep h (if a.length + b.length ≤ sizeMax then some (.tup (a ++ b)) else none)) (Left g m h H (VQ g Q)) := p
    by_cases z : a.length + b.length ≤ sizeMax
    · rw [if_pos z] at p'
      cases r1 with
      | @tup p1 _ vs s1 w1 =>
        cases r2 with
        | @tup p2 _ ws s2 w2 =>
          have := max_line
          have l1 := w1.length
          have l2 := w2.length
          refine op_catA pins s σ H _ _ v u Q I rx ry ⟨p1, p2, vs, ws, rfl, rfl, by rw [hK]; exact s1, by rw [hK]; exact s2, by omega, fun e => ?_, fun e1 e2 => ?_, fun _ _ p np => ?_⟩
          · subst e
            have : a = [] := List.length_eq_zero_iff.mp l1
            subst this
            exact post1 rl p' (.tup s2 w2)
          · subst e2
            have : b = [] := List.length_eq_zero_iff.mp l2
            subst this
            rw [List.append_nil] at p'
            exact post1 rl p' (.tup s1 w1)
          · exact post_new rl p' np (rep_newT rl np (w1.append w2))
    · rw [if_neg z] at p'; exact False.elim p'
  · rename_i a b
    have p' : OptP (keep h (if a.length + b.length ≤ sizeMax then some (.lst (a ++ b)) else none)) (Left g m h H (VQ g Q)) := p
    by_cases z : a.length + b.length ≤ sizeMax
    · rw [if_pos z] at p'
      cases r1 with
      | @lst p1 _ vs s1 o1 w1 =>
        cases r2 with
        | @lst p2 _ ws s2 o2 w2 =>
          have := max_line
          have l1 := w1.length
          have l2 := w2.length
          exact op_cat pins s σ H _ _ v u Q I rx ry ⟨p1, p2, vs, ws, rfl, rfl, s1, s2, by omega, fun p np => post_new rl p' np (rep_newL rl np (w1.append w2))⟩
    · rw [if_neg z] at p'; exact False.elim p'
theorem o_sub : OpR X (binaryOp .Sub) (RO g fun x y h => keep h (binD .sub x y)) := by
  intro pins s σ H x y v u Q I rx ry ⟨m, h, dx, dy, rl, r1, r2, p⟩
  cases dx <;> cases dy <;> first | exact False.elim p | skip
  cases r1; cases r2
  exact op_sub pins s σ H _ _ v u Q I rx ry ⟨_, _, rfl, rfl, post1 rl p (.int _)⟩
theorem mulOk {i j : Int} (h : (small i || small j) = true) : CMul i j := by
  rcases Bool.or_eq_true _ _ ▸ h with z | z
  · exact .inl (small_of z)
  · exact .inr (small_of z)
theorem o_mul (hK : X.K = g.K) : OpR X (binaryOp .Mult) (RO g fun x y h => keep h (binD .mul x y)) := by
  intro pins s σ H x y v u Q I rx ry ⟨m, h, dx, dy, rl, r1, r2, p⟩
  cases dx <;> cases dy <;> first | exact False.elim p | skip
  · rename_i i j
    have p' : OptP (keep h (if small i || small j then some (.int (i * j)) else none)) (Left g m h H (VQ g Q)) := p
    by_cases z : (small i || small j) = true
    · rw [if_pos z] at p'
      cases r1; cases r2
      exact op_mul pins s σ H _ _ v u Q I rx ry ⟨_, _, rfl, rfl, mulOk z, post1 rl p' (.int _)⟩
    · rw [if_neg z] at p'; exact False.elim p'
  · rename_i a k
    have p' : OptP (keep h (if 2 ≤ k && k ≤ 1000 && !a.isEmpty && a.length ≤ 1000 then some (.tup (List.replicate k.toNat a).flatten) else none)) (Left g m h H (VQ g Q)) := p
    by_cases z : (2 ≤ k && k ≤ 1000 && !a.isEmpty && decide (a.length ≤ 1000)) = true
    · rw [if_pos z] at p'
      simp only [Bool.and_eq_true, decide_eq_true_eq] at z
      cases r2
      cases r1 with
      | @tup p1 _ vs s1 w1 =>
        have l1 := w1.length
        refine op_repT pins s σ H _ _ v u Q I rx ry ⟨p1, k, vs, rfl, rfl, by rw [hK]; exact s1, ?_, z.1.1.1, z.1.1.2, by omega, fun p np => post_new rl p' np (rep_newT rl np (w1.replicate _))⟩
        intro e
        subst e
        have : a = [] := List.length_eq_zero_iff.mp l1
        subst this
        simp at z
    · rw [if_neg z] at p'; exact False.elim p'
  · rename_i a k
    have p' : OptP (keep h (if -1000 < k && k < 1000 && a.length ≤ 1000 then some (.lst (List.replicate k.toNat a).flatten) else none)) (Left g m h H (VQ g Q)) := p
    by_cases z : (-1000 < k && k < 1000 && decide (a.length ≤ 1000)) = true
    · rw [if_pos z] at p'
      simp only [Bool.and_eq_true, decide_eq_true_eq] at z
      cases r2
      cases r1 with
      | @lst p1 _ vs s1 o1 w1 =>
        have l1 := w1.length
        have lz : vs.length * k.toNat ≤ sizeLine := by
          have h1 : vs.length * k.toNat ≤ 1000 * 1000 := Nat.mul_le_mul (by omega) (by omega)
          exact Nat.le_trans h1 (by decide)
        exact op_rep pins s σ H _ _ v u Q I rx ry ⟨p1, k, vs, rfl, rfl, s1, by omega, by omega, lz, fun p np => post_new rl p' np (rep_newL rl np (w1.replicate _))⟩
    · rw [if_neg z] at p'; exact False.elim p'
theorem divOk {j : Int} (h : (decide (0 < j) && small j) = true) : CDivW 0 j := by
  simp only [Bool.and_eq_true, decide_eq_true_eq] at h
  exact ⟨h.1, by have := log_small h.2; omega⟩
theorem o_fdiv : OpR X (binaryOp .FloorDiv) (RO g fun x y h => keep h (binD .fdiv x y)) := by
  intro pins s σ H x y v u Q I rx ry ⟨m, h, dx, dy, rl, r1, r2, p⟩
  cases dx <;> cases dy <;> first | exact False.elim p | skip
  rename_i i j
  have p' : OptP (keep h (if 0 < j && small j then some (.int (i / j)) else none)) (Left g m h H (VQ g Q)) := p
  by_cases z : (decide (0 < j) && small j) = true
  · rw [if_pos z] at p'
    cases r1; cases r2
    exact op_fdivW pins s σ H _ _ v u Q I rx ry ⟨_, _, rfl, rfl, divOk z, post1 rl p' (.int _)⟩
  · rw [if_neg z] at p'; exact False.elim p'
theorem o_mod : OpR X (binaryOp .Mod) (RO g fun x y h => keep h (binD .mod x y)) := by
  intro pins s σ H x y v u Q I rx ry ⟨m, h, dx, dy, rl, r1, r2, p⟩
  cases dx <;> cases dy <;> first | exact False.elim p | skip
  rename_i i j
  have p' : OptP (keep h (if 0 < j then some (.int (i % j)) else none)) (Left g m h H (VQ g Q)) := p
  by_cases z : 0 < j
  · rw [if_pos z] at p'
    cases r1; cases r2
    exact op_mod pins s σ H _ _ v u Q I rx ry ⟨_, _, rfl, rfl, z, post1 rl p' (.int _)⟩
  · rw [if_neg z] at p'; exact False.elim p'
theorem o_pow : OpR X (binaryOp .Pow) (RO g fun x y h => keep h (binD .pow x y)) := by
  intro pins s σ H x y v u Q I rx ry ⟨m, h, dx, dy, rl, r1, r2, p⟩
  cases dx <;> cases dy <;> first | exact False.elim p | skip
  rename_i i j
  have p' : OptP (keep h (if 0 ≤ j && j ≤ 1000 && small i then some (.int (i ^ j.toNat)) else none)) (Left g m h H (VQ g Q)) := p
  by_cases z : (0 ≤ j && j ≤ 1000 && small i) = true
  · rw [if_pos z] at p'
    simp only [Bool.and_eq_true, decide_eq_true_eq] at z
    cases r1; cases r2
    refine op_pow pins s σ H _ _ v u Q I rx ry ⟨_, _, rfl, rfl, ⟨z.1.1, by omega, ?_⟩, post1 rl p' (.int _)⟩
    have := z.2
    simp only [small, decide_eq_true_eq] at this
    exact this
  · rw [if_neg z] at p'; exact False.elim p'
def binOf : Operator → Option Bop
  | .Add => some .add
  | .Sub => some .sub
  | .Mult => some .mul
  | .FloorDiv => some .fdiv
  | .Mod => some .mod
  | .Pow => some .pow
  | _ => none
theorem o_bin (hK : X.K = g.K) {op : Operator} {bo : Bop} (e : binOf op = some bo) : OpR X (binaryOp op) (RO g fun x y h => keep h (binD bo x y)) := by
  cases op <;> cases e
  all_goals first
    | exact o_add hK
    | exact o_sub
    | exact o_mul hK
    | exact o_fdiv
    | exact o_mod
    | exact o_pow
/-! ### op= -/
def augOf : Operator → Option Bop
  | .Add => some .add
  | .Sub => some .sub
  | _ => none
theorem o_aug {op : Operator} {bo : Bop} (e : augOf op = some bo) : PIp X op (RO g fun x y h => keep h (augD bo x y)) := by
  intro pins s σ H x y v u Q I rx ry ⟨m, h, dx, dy, rl, r1, r2, p⟩
  cases op <;> cases e
  · cases dx <;> cases dy <;> first | exact False.elim p | skip
    · cases r1; cases r2
      exact iop_add pins s σ H _ _ v u Q I rx ry ⟨_, _, rfl, rfl, post1 rl p (.int _)⟩
    · rename_i a b
      have p' : OptP (keep h (if a.length + b.length ≤ sizeMax then some (.str (a ++ b)) else none)) (Left g m h H (VQ g Q)) := p
      by_cases z : a.length + b.length ≤ sizeMax
      · rw [if_pos z] at p'
        cases r1; cases r2
        have := max_line
        refine iop_add_str pins s σ H _ _ v u Q I rx ry ⟨_, _, rfl, rfl, by rw [kStr_len, kStr_len]; omega, ?_⟩
        rw [kStr_app]
        exact post1 rl p' (.str _)
      · rw [if_neg z] at p'; exact False.elim p'
  · cases dx <;> cases dy <;> first | exact False.elim p | skip
    cases r1; cases r2
    exact iop_sub pins s σ H _ _ v u Q I rx ry ⟨_, _, rfl, rfl, post1 rl p (.int _)⟩
/-! ### indices -/
theorem ix_same (n : Nat) (i : Int) : ixN n i = ixOf n i := by
  unfold ixN ixOf
  by_cases z : 0 ≤ i
  · rw [if_pos z, if_pos z]
  · rw [if_neg z, if_neg z]
    by_cases w : -(n : Int) ≤ i
    · rw [if_pos w, if_pos (by omega)]
    · rw [if_neg w, if_neg (by omega)]
theorem getI_at {m : AM} {n : Nat} {H : Hp} {ds : List Lad.D} {vs : List V} {i : Int} {d : Lad.D} (r : Reps g m n H ds vs) (e : getI ds i = some d) : ∃ v, atI vs i = some v ∧ Rep g m n H d v := by
  unfold getI at e
  unfold atI
  rw [ix_same, ← r.length]
  cases q : ixOf ds.length i with
  | none => rw [q] at e; cases e
  | some j =>
    rw [q] at e
    exact r.get e
/-- an index into what is no dict -/
def noDct (h : Hc) : Lad.D → Bool
  | .ref i => match h[i]? with
    | some (.dct _) => false
    | _ => true
  | _ => true
def ixSq (a b : Lad.D) (h : Hc) : Option Lad.D := if noDct h a then ixD a b h else none
theorem o_ixS (hK : X.K = g.K) : IxR X (RO g fun x y h => keep h (ixSq x y h)) := by
  intro value slice pins s σ H x y v u Q I rx ry ⟨m, h, dx, dy, rl, r1, r2, p⟩ hs
  have p' : OptP (keep h (if noDct h dx then ixD dx dy h else none)) (Left g m h H (VQ g Q)) := p
  clear p
  by_cases nd : noDct h dx = true
  · rw [if_pos nd] at p'
    cases dx with
    | tup ds =>
      cases dy <;> first | exact False.elim p' | skip
      rename_i i
      cases r2
      cases r1 with
      | @tup p1 _ vs s1 w1 =>
        have p2 : OptP (keep h (match getI ds i with | some v => some v | none => none)) (Left g m h H (VQ g Q)) := p'
        cases e : getI ds i with
        | none => rw [e] at p2; exact False.elim p2
        | some d =>
          rw [e] at p2
          obtain ⟨w, ew, rw'⟩ := getI_at w1 e
          exact ix_tup value slice pins s σ H _ _ v u Q I rx ry ⟨p1, vs, i, w, rfl, rfl, by rw [hK]; exact s1, ew, post1 rl p2 rw'⟩ hs
    | lst ds =>
      cases dy <;> first | exact False.elim p' | skip
      rename_i i
      cases r2
      cases r1 with
      | @lst p1 _ vs s1 o1 w1 =>
        have p2 : OptP (keep h (match getI ds i with | some v => some v | none => none)) (Left g m h H (VQ g Q)) := p'
        cases e : getI ds i with
        | none => rw [e] at p2; exact False.elim p2
        | some d =>
          rw [e] at p2
          obtain ⟨w, ew, rw'⟩ := getI_at w1 e
          exact ix_list value slice pins s σ H _ _ v u Q I rx ry ⟨p1, vs, i, w, rfl, rfl, SqL.of s1, ew, post1 rl p2 rw'⟩ hs
    | str z =>
      cases dy <;> first | exact False.elim p' | skip
      rename_i i
      cases r2; cases r1
      have p2 : OptP (keep h (if z.length ≤ sizeMax then (match getI z i with | some c => some (.str [c]) | none => none) else none)) (Left g m h H (VQ g Q)) := p'
      by_cases zl : z.length ≤ sizeMax
      · rw [if_pos zl] at p2
        cases e : getI z i with
        | none => rw [e] at p2; exact False.elim p2
        | some c =>
          rw [e] at p2
          refine ix_str value slice pins s σ H _ _ v u Q I rx ry ⟨_, i, c, rfl, rfl, by rw [kStr_len]; exact Nat.le_trans zl max_line, ?_, post1 rl p2 (.str [c])⟩ hs
          unfold atI
          rw [ix_same]
          unfold getI at e
          simpa [kStr] using e
      · rw [if_neg zl] at p2; exact False.elim p2
    | ref i =>
      have p2 : OptP (keep h (match h[i]? with
        | some (.lst ds) => (match dy with
          | .int i => match getI ds i with
            | some v => some v
            | none => none
          | _ => none)
        | some (.dct kvs) => match (keyOf dy).bind (kvGet kvs) with
          | some v => some v
          | none => none
        | _ => none)) (Left g m h H (VQ g Q)) := by
        have e0 : ixD (.ref i) dy h = (match h[i]? with
        | some (.lst ds) => (match dy with
          | .int i => match getI ds i with
            | some v => some v
            | none => none
          | _ => none)
        | some (.dct kvs) => match (keyOf dy).bind (kvGet kvs) with
          | some v => some v
          | none => none
        | _ => none) := by cases dy <;> rfl
        rw [e0] at p'
        exact p'
      cases o : h[i]? with
      | none => rw [o] at p2; exact False.elim p2
      | some z =>
        cases z with
        | lst ds =>
          rw [o] at p2
          obtain ⟨vs, rfl, a, b⟩ := ref_lst rl r1 o
          cases dy <;> first | exact False.elim p2 | skip
          rename_i j
          cases r2
          have p3 : OptP (keep h (match getI ds j with | some v => some v | none => none)) (Left g m h H (VQ g Q)) := p2
          cases e : getI ds j with
          | none => rw [e] at p3; exact False.elim p3
          | some d =>
            rw [e] at p3
            obtain ⟨w, ew, rw'⟩ := getI_at b e
            exact ix_list value slice pins s σ H _ _ v u Q I rx ry ⟨_, vs, j, w, rfl, rfl, SqL.of a, ew, post1 rl p3 rw'⟩ hs
        | dct kvs =>
          have : (match h[i]? with | some (MO.dct _) => false | _ => true) = true := nd
          rw [o] at this
          cases this
        | ins c fs => rw [o] at p2; exact False.elim p2
    | _ => cases dy <;> exact False.elim p'
  · rw [if_neg nd] at p'; exact False.elim p'
/-! ### slices -/
theorem six_none (n d : Nat) : HT.sIx n d none = d := rfl
theorem six_same {n d : Nat} {x : Lad.D} {o : Option Int} {k : Nat} (hp : PartIs x o) (e : slIx n d x = some k) : HT.sIx n d o = k := by
  rcases hp with ⟨rfl, rfl⟩ | ⟨i, rfl, rfl⟩
  · cases e; rfl
  · have e' : some (if 0 ≤ i then min i.toNat n else (i + n).toNat) = some k := e
    cases e'
    show (if i < 0 then (i + (n : Int)).toNat else min i.toNat n) = _
    by_cases z : 0 ≤ i
    · rw [if_pos z, if_neg (by omega)]
    · rw [if_neg z, if_pos (by omega)]
theorem cut_rep {m : AM} {n : Nat} {H : Hp} {ds : List Lad.D} {vs : List V} {lo hi : Option Int} {i j : Nat} (r : Reps g m n H ds vs) (e1 : HT.sIx vs.length 0 lo = i) (e2 : HT.sIx vs.length vs.length hi = j) : Reps g m n H (Lad.cut ds i j) (cutV vs lo hi) := by
  unfold Lad.cut cutV
  rw [e1, e2]
  exact (r.drop i).take (j - i)
theorem reps_ints {m : AM} {n : Nat} {H : Hp} : ∀ ns : List Int, Reps g m n H (ns.map Lad.D.int) (ns.map V.int)
  | [] => .nil
  | i :: r => .cons (.int i) (reps_ints r)
theorem cut_map {α β : Type} (f : α → β) (xs : List α) (i j : Nat) : (Lad.cut xs i j).map f = Lad.cut (xs.map f) i j := by
  unfold Lad.cut
  rw [List.map_take, List.map_drop]
theorem cut_all {α : Type} (xs : List α) : Lad.cut xs 0 xs.length = xs := by
  unfold Lad.cut
  simp
/-- the items that a slice makes, as a list -/
def slL (a lo hi : Lad.D) (h : Hc) : Option (List Lad.D) := match slD a lo hi h with
  | some (.lst l) => some l
  | _ => none
theorem o_sl (hK : X.K = g.K) : SlR X (RS g slD) := by
  intro pins s σ H x v vl vu lo hi sl Q I rx hs pl pu ⟨m, h, d, i, j, rl, rd, hi1, hj1, p⟩
  cases d with
  | tup ds =>
    cases rd with
    | @tup p1 _ vs s1 w1 =>
      have l1 := w1.length
      have p2 : OptP (keep h (match slIx ds.length 0 i, slIx ds.length ds.length j with | some i, some j => some (.tup (Lad.cut ds i j)) | _, _ => none)) (Left g m h H (VQ g Q)) := p
      cases e1 : slIx ds.length 0 i with
      | none => rw [e1] at p2; exact False.elim p2
      | some a =>
        cases e2 : slIx ds.length ds.length j with
        | none => rw [e1, e2] at p2; exact False.elim p2
        | some b =>
          rw [e1, e2] at p2
          rw [l1] at e1 e2
          have q1 := six_same hi1 e1
          have q2 := six_same hj1 e2
          refine sl_tupA pins s σ H _ v vl vu lo hi sl Q I rx hs pl pu ⟨p1, vs, rfl, by rw [hK]; exact s1, fun ⟨z1, z2⟩ => ?_, fun _ p np => ?_⟩
          · rw [q1] at z1
            rw [q2] at z2
            subst z1 z2
            rw [← l1] at p2
            have p3 : OptP (keep h (some (.tup (Lad.cut ds 0 ds.length)))) (Left g m h H (VQ g Q)) := p2
            rw [cut_all] at p3
            exact post1 rl p3 (.tup s1 w1)
          · exact post_new rl p2 np (rep_newT rl np (cut_rep w1 q1 q2))
  | lst ds =>
    cases rd with
    | @lst p1 _ vs s1 o1 w1 =>
      have l1 := w1.length
      have p2 : OptP (keep h (match slIx ds.length 0 i, slIx ds.length ds.length j with | some i, some j => some (.lst (Lad.cut ds i j)) | _, _ => none)) (Left g m h H (VQ g Q)) := p
      cases e1 : slIx ds.length 0 i with
      | none => rw [e1] at p2; exact False.elim p2
      | some a =>
        cases e2 : slIx ds.length ds.length j with
        | none => rw [e1, e2] at p2; exact False.elim p2
        | some b =>
          rw [e1, e2] at p2
          rw [l1] at e1 e2
          exact sl_list pins s σ H _ v vl vu lo hi sl Q I rx hs pl pu ⟨p1, vs, rfl, SqL.of s1, fun p np => post_new rl p2 np (rep_newL rl np (cut_rep w1 (six_same hi1 e1) (six_same hj1 e2)))⟩
  | scr ns =>
    have p2 : OptP (keep h (match slIx ns.length 0 i, slIx ns.length ns.length j with | some i, some j => some (.lst ((Lad.cut ns i j).map Lad.D.int)) | _, _ => none)) (Left g m h H (VQ g Q)) := p
    cases rd with
    | @scr p1 _ s1 =>
      have sq : SqL X.K H p1 (ns.map V.int) := by
        rcases s1 with s1 | s1
        · exact .inl s1.1
        · exact .inr (by rw [hK]; exact s1)
      cases e1 : slIx ns.length 0 i with
      | none => rw [e1] at p2; exact False.elim p2
      | some a =>
        cases e2 : slIx ns.length ns.length j with
        | none => rw [e1, e2] at p2; exact False.elim p2
        | some b =>
          rw [e1, e2] at p2
          have ln : (ns.map V.int).length = ns.length := List.length_map _
          refine sl_list pins s σ H _ v vl vu lo hi sl Q I rx hs pl pu ⟨p1, ns.map V.int, rfl, sq, fun p np => post_new rl p2 np (rep_newL rl np ?_)⟩
          rw [cut_map]
          exact cut_rep (reps_ints ns) (by rw [ln]; exact six_same hi1 e1) (by rw [ln]; exact six_same hj1 e2)
  | str z =>
    cases rd
    have p2 : OptP (keep h (if z.length ≤ sizeMax then (match slIx z.length 0 i, slIx z.length z.length j with | some i, some j => some (.str (Lad.cut z i j)) | _, _ => none) else none)) (Left g m h H (VQ g Q)) := p
    by_cases zl : z.length ≤ sizeMax
    · rw [if_pos zl] at p2
      cases e1 : slIx z.length 0 i with
      | none => rw [e1] at p2; exact False.elim p2
      | some a =>
        cases e2 : slIx z.length z.length j with
        | none => rw [e1, e2] at p2; exact False.elim p2
        | some b =>
          rw [e1, e2] at p2
          refine sl_str pins s σ H _ v vl vu lo hi sl Q I rx hs pl pu ⟨_, rfl, by rw [kStr_len]; exact Nat.le_trans zl max_line, ?_⟩
          have ec : cutS (kStr z) lo hi = kStr (Lad.cut z a b) := by
            unfold cutS Lad.cut
            rw [kStr_len, six_same hi1 e1, six_same hj1 e2]
            simp [kStr]
          rw [ec]
          exact post1 rl p2 (.str _)
    · rw [if_neg zl] at p2; exact False.elim p2
  | ref r =>
    have p1 : OptP (keep h (match h[r]? with
      | some (.lst ds) => (match slIx ds.length 0 i, slIx ds.length ds.length j with | some i, some j => some (.lst (Lad.cut ds i j)) | _, _ => none)
      | _ => none)) (Left g m h H (VQ g Q)) := p
    cases o : h[r]? with
    | none => rw [o] at p1; exact False.elim p1
    | some z =>
      cases z with
      | lst ds =>
        rw [o] at p1
        have p2 : OptP (keep h (match slIx ds.length 0 i, slIx ds.length ds.length j with | some i, some j => some (.lst (Lad.cut ds i j)) | _, _ => none)) (Left g m h H (VQ g Q)) := p1
        obtain ⟨vs, rfl, a, b⟩ := ref_lst rl rd o
        have l1 := b.length
        cases e1 : slIx ds.length 0 i with
        | none => rw [e1] at p2; exact False.elim p2
        | some a' =>
          cases e2 : slIx ds.length ds.length j with
          | none => rw [e1, e2] at p2; exact False.elim p2
          | some b' =>
            rw [e1, e2] at p2
            rw [l1] at e1 e2
            exact sl_list pins s σ H _ v vl vu lo hi sl Q I rx hs pl pu ⟨_, vs, rfl, SqL.of a, fun p np => post_new rl p2 np (rep_newL rl np (cut_rep b (six_same hi1 e1) (six_same hj1 e2)))⟩
      | _ => rw [o] at p1; exact False.elim p1
  | _ => exact False.elim p
end
end Lad
set_option Elab.async false
set_option linter.all false
set_option maxRecDepth 100000
set_option maxHeartbeats 4000000
/-! Stores, built-ins, methods. -/
namespace Lad
open PySem PySem.Spec PyProof.Rows L2
section
variable {g : Gp} {m : AM} {h : Hc} {H : Hp}
/-- a changeable thing is changed -/
theorem mut_carry {i : Nat} {u : HO} {n : Nat} (r : Rel g m h H) (l : i < h.length) (ln : n = h.length) : Carry g m m n n H (upd H (m.f i) u) := by
  subst ln
  have hm := r.mut l
  have no : ∀ {a : Addr} {o : HO}, H a = some o → (∀ vs, o ≠ .lst vs) → (∀ ws, o ≠ .dK ws) → a ≠ m.f i := fun {a o} e n1 n2 z => by
    subst z
    rcases hm with ⟨vs, q⟩ | ⟨ws, q⟩
    · rw [e] at q; exact n1 vs (Option.some.inj q)
    · rw [e] at q; exact n2 ws (Option.some.inj q)
  refine ⟨fun a us s => ?_, fun a us s q => ⟨?_, q⟩, fun a o us s q => ⟨?_, q⟩, fun j lj => ⟨lj, rfl⟩⟩
  · rcases s with (s | ⟨o, s⟩) | s
    · exact .inl (.inl (by rw [upd_ne (no s (fun _ z => nomatch z) (fun _ z => nomatch z))]; exact s))
    · exact .inl (.inr ⟨o, by rw [upd_ne (no s (fun _ z => nomatch z) (fun _ z => nomatch z))]; exact s⟩)
    · exact .inr s
  · rw [upd_ne (fun z => q.1 i l z.symm)]; exact s
  · rw [upd_ne (fun z => q.1 i l z.symm)]; exact s
theorem Rel.mutd {i : Nat} {u : HO} {o' : MO} (r : Rel g m h H) (l : i < h.length) (new : RepO g m h.length (upd H (m.f i) u) (m.f i) o') : Ext g m h H m (h.set i o') (upd H (m.f i) u) := by
  have c := mut_carry (u := u) r l rfl
  have ln : (h.set i o').length = h.length := List.length_set
  refine ⟨⟨fun j o e => ?_, fun a b la lb => by rw [ln] at la lb; exact r.inj a b la lb, fun a z => ?_⟩, by rw [ln]; exact Nat.le_refl _, fun _ _ => rfl, fun a o e n => ?_, fun j a b => by rw [ln] at b; exact absurd b (Nat.not_lt.mpr a), rfl⟩
  · rw [ln]
    by_cases z : i = j
    · subst z
      rw [List.getElem?_set_self l] at e
      cases e
      exact new
    · rw [List.getElem?_set_ne z] at e
      have lj := (List.getElem?_eq_some_iff.mp e).1
      exact (r.obj j o e).carry c fun w q => by rw [upd_ne (fun q2 => z (r.inj i j l lj q2.symm))]; exact q
  · rw [ln]
    refine ⟨?_, (r.res a z).2⟩
    obtain ⟨o, e⟩ := (r.res a z).1
    exact ⟨o, by rw [upd_ne (fun w => (r.res a z).2 i l w.symm)]; exact e⟩
  · rw [upd_ne (fun w => n i l w.symm)]; exact e
theorem Rel.mutL {i : Nat} {ds : List Lad.D} {vs : List V} (r : Rel g m h H) (l : i < h.length) (q : Reps g m h.length H ds vs) : Ext g m h H m (h.set i (.lst ds)) (upd H (m.f i) (.lst vs)) :=
  r.mutd l ⟨vs, upd_same, q.carry (mut_carry r l rfl)⟩
theorem Rel.mutD {i : Nat} {kvs : List (Ky × Lad.D)} {ws : List (Key × V)} (r : Rel g m h H) (l : i < h.length) (q : RepKv g m h.length H kvs ws) (nd : (kvs.map (·.1)).Nodup) : Ext g m h H m (h.set i (.dct kvs)) (upd H (m.f i) (.dK ws)) :=
  r.mutd l ⟨ws, upd_same, q.carry (mut_carry r l rfl), nd⟩
/-! ### dicts -/
theorem kv_any {n : Nat} (q : Ky) : ∀ {kvs : List (Ky × Lad.D)} {ws : List (Key × V)}, RepKv g m n H kvs ws → (ws.any fun p => decide (p.1 = ky q)) = kvs.any fun p => decide (p.1 = q)
  | _, _, .nil => rfl
  | _, _, .cons (k := k) a b => by
    have e : decide (ky k = ky q) = decide (k = q) := by
      by_cases z : k = q
      · rw [decide_eq_true z, decide_eq_true (congrArg ky z)]
      · rw [decide_eq_false z, decide_eq_false (fun w => z (ky_inj w))]
    simp only [List.any_cons, e, kv_any q b]
theorem kv_map {n : Nat} {q : Ky} {d : Lad.D} {v : V} (r : Rep g m n H d v) : ∀ {kvs : List (Ky × Lad.D)} {ws : List (Key × V)}, RepKv g m n H kvs ws → RepKv g m n H (kvs.map fun p => if p.1 = q then (p.1, d) else p) (ws.map fun p => if p.1 = ky q then (p.1, v) else p)
  | _, _, .nil => .nil
  | _, _, .cons (k := k) a b => by
    simp only [List.map_cons]
    by_cases z : k = q
    · rw [if_pos z, if_pos (congrArg ky z)]
      exact .cons r (kv_map r b)
    · rw [if_neg z, if_neg (fun w => z (ky_inj w))]
      exact .cons a (kv_map r b)
theorem kv_app {n : Nat} {q : Ky} {d : Lad.D} {v : V} (r : Rep g m n H d v) : ∀ {kvs : List (Ky × Lad.D)} {ws : List (Key × V)}, RepKv g m n H kvs ws → RepKv g m n H (kvs ++ [(q, d)]) (ws ++ [(ky q, v)])
  | _, _, .nil => .cons r .nil
  | _, _, .cons a b => .cons a (kv_app r b)
theorem kv_put {n : Nat} {q : Ky} {d : Lad.D} {v : V} {kvs : List (Ky × Lad.D)} {ws : List (Key × V)} (r : Rep g m n H d v) (k : RepKv g m n H kvs ws) : RepKv g m n H (kvPut kvs q d) (putK ws (ky q) v) := by
  unfold kvPut putK
  rw [kv_any q k]
  split
  · exact kv_map r k
  · exact kv_app r k
theorem kv_len {n : Nat} : ∀ {kvs : List (Ky × Lad.D)} {ws : List (Key × V)}, RepKv g m n H kvs ws → kvs.length = ws.length
  | _, _, .nil => rfl
  | _, _, .cons _ b => congrArg (· + 1) (kv_len b)
theorem put_keys (q : Ky) (d : Lad.D) (kvs : List (Ky × Lad.D)) : (kvPut kvs q d).map (·.1) = if kvs.any (fun p => decide (p.1 = q)) then kvs.map (·.1) else kvs.map (·.1) ++ [q] := by
  unfold kvPut
  split
  · rename_i c
    rw [List.map_map]
    apply List.map_congr_left
    intro p _
    show (if p.1 = q then (p.1, d) else p).1 = p.1
    split <;> rfl
  · simp
theorem put_nodup {q : Ky} {d : Lad.D} {kvs : List (Ky × Lad.D)} (nd : (kvs.map (·.1)).Nodup) : ((kvPut kvs q d).map (·.1)).Nodup := by
  rw [put_keys]
  split
  · exact nd
  · rename_i c
    rw [List.nodup_append]
    refine ⟨nd, by simp, fun a ha b hb => ?_⟩
    rintro rfl
    obtain ⟨p, hp, e⟩ := List.mem_map.mp ha
    have : a = q := by simpa using hb
    subst this
    exact c (List.any_eq_true.mpr ⟨p, hp, by simp [e]⟩)
end
section
variable {X : Cx} {g : Gp}
theorem ix_lt {n : Nat} {i : Int} {k : Nat} (e : ixOf n i = some k) : ixN n i = some k := by rw [ix_same]; exact e
theorem o_set (hK : X.K = g.K) (rm : Rm X) : PSet X (RSet g) := by
  intro pins s σ H o i v ov iv u Q I ro ri rv ⟨m, h, d1, d2, d3, rl, r1, r2, r3, p⟩
  cases d1 with
  | ref r =>
    have p1 : (match (match h[r]? with
      | some (.lst xs) => (match d2 with
        | .int i => match ixOf xs.length i with
          | some k => some (h.set r (.lst (xs.set k d3)))
          | none => none
        | _ => none)
      | some (.dct kvs) => match keyOf d2 with
        | some q => if kvs.length < sizeMax then some (h.set r (.dct (kvPut kvs q d3))) else none
        | none => none
      | _ => none) with
      | some h' => ∀ m' H', Ext g m h H m' h' H' → Q H'
      | none => False) := p
    clear p
    cases e : h[r]? with
    | none => rw [e] at p1; exact p1.elim
    | some z =>
      have l : r < h.length := (List.getElem?_eq_some_iff.mp e).1
      cases z with
      | lst xs =>
        rw [e] at p1
        obtain ⟨vs, rfl, a, b⟩ := ref_lst rl r1 e
        cases d2 <;> first | exact p1.elim | skip
        rename_i k
        cases r2
        have p2 : (match (match ixOf xs.length k with | some k => some (h.set r (.lst (xs.set k d3))) | none => none) with
          | some h' => ∀ m' H', Ext g m h H m' h' H' → Q H'
          | none => False) := p1
        cases ek : ixOf xs.length k with
        | none => rw [ek] at p2; exact p2.elim
        | some j =>
          rw [ek] at p2
          refine set_list pins s σ H _ _ v ov iv u Q I ro ri rv ⟨_, vs, k, j, rfl, rfl, a, by rw [← b.length]; exact ix_lt ek, ?_⟩
          exact p2 m _ (rl.mutL l (b.set r3 j))
      | dct kvs =>
        rw [e] at p1
        obtain ⟨ws, rfl, a, b, nd⟩ := ref_dct rl r1 e
        have p2 : (match (match keyOf d2 with
          | some q => if kvs.length < sizeMax then some (h.set r (.dct (kvPut kvs q d3))) else none
          | none => none) with
          | some h' => ∀ m' H', Ext g m h H m' h' H' → Q H'
          | none => False) := p1
        cases ek : keyOf d2 with
        | none => rw [ek] at p2; exact p2.elim
        | some q =>
          rw [ek] at p2
          have ex := key_v r2 ek
          subst ex
          by_cases z : kvs.length < sizeMax
          · have p3 : (match (if kvs.length < sizeMax then some (h.set r (.dct (kvPut kvs q d3))) else none) with
              | some h' => ∀ m' H', Ext g m h H m' h' H' → Q H'
              | none => False) := p2
            rw [if_pos z] at p3
            have := sizeMax_lt
            have := kv_len b
            refine set_dict (by unfold Rm at rm; omega) pins s σ H _ _ v ov iv u Q I ro ri rv ⟨_, _, rfl, DPut.k a (by omega), ?_⟩
            exact p3 m _ (rl.mutD l (kv_put r3 b) (put_nodup nd))
          · have p3 : (match (if kvs.length < sizeMax then some (h.set r (.dct (kvPut kvs q d3))) else none) with
              | some h' => ∀ m' H', Ext g m h H m' h' H' → Q H'
              | none => False) := p2
            rw [if_neg z] at p3
            exact p3.elim
      | ins c fs => rw [e] at p1; exact p1.elim
  | _ => exact p.elim
/-! ### built-ins -/
theorem one_arg {m : AM} {n : Nat} {H : Hp} {d : Lad.D} {vs : List V} (r : Reps g m n H [d] vs) : ∃ v, vs = [v] ∧ Rep g m n H d v := by
  cases r with
  | cons a b => cases b; exact ⟨_, rfl, a⟩
theorem two_args {m : AM} {n : Nat} {H : Hp} {d e : Lad.D} {vs : List V} (r : Reps g m n H [d, e] vs) : ∃ v w, vs = [v, w] ∧ Rep g m n H d v ∧ Rep g m n H e w := by
  cases r with
  | cons a b =>
    cases b with
    | cons b c => cases c; exact ⟨_, _, rfl, a, b⟩
theorem keep_some {h : Hc} {o : Option Lad.D} {R : Lad.D → Hc → Prop} (p : OptP (keep h o) R) : ∃ d, o = some d ∧ R d h := by
  cases o with
  | none => exact False.elim p
  | some d => exact ⟨d, rfl, p⟩
theorem c_one {f : Value} {b : BI} {op : Hc → Lad.D → Option Lad.D} (hb : ∀ ds h, biD b ds h = match ds with | [d] => keep h (op h d) | _ => none)
    (H1 : ∀ (pins : List (Addr × Obj)) (s : Shared) (σ : L2.St) (H : Hp) (v : V) (us : List Value) (Q : VK) (m : AM) (h : Hc) (d e : Lad.D), Inv X pins σ H s → Vals [v] us → Rel g m h H → Rep g m h.length H d v → op h d = some e → Left g m h H (VQ g Q) e h → wpAny (model X.prog X.w) X.A (call f us) (EP X pins σ Q) X.xe s) :
    CallR X f (RB g (biD b)) := by
  intro pins s σ H vs us Q I rv ⟨m, h, ds, rl, rs, p⟩
  rw [hb] at p
  match ds, rs, p with
  | [], _, p => exact False.elim p
  | [d], rs, p =>
    obtain ⟨v, rfl, r⟩ := one_arg rs
    obtain ⟨e, he, q⟩ := keep_some p
    exact H1 pins s σ H v us Q m h d e I rv rl r he q
  | _ :: _ :: _, _, p => exact False.elim p
theorem c_two {f : Value} {b : BI} {op : Lad.D → Lad.D → Option Lad.D} (hb : ∀ ds h, biD b ds h = match ds with | [d, e] => keep h (op d e) | _ => none)
    (H1 : ∀ (pins : List (Addr × Obj)) (s : Shared) (σ : L2.St) (H : Hp) (v w : V) (us : List Value) (Q : VK) (m : AM) (h : Hc) (d d' e : Lad.D), Inv X pins σ H s → Vals [v, w] us → Rel g m h H → Rep g m h.length H d v → Rep g m h.length H d' w → op d d' = some e → Left g m h H (VQ g Q) e h → wpAny (model X.prog X.w) X.A (call f us) (EP X pins σ Q) X.xe s) :
    CallR X f (RB g (biD b)) := by
  intro pins s σ H vs us Q I rv ⟨m, h, ds, rl, rs, p⟩
  rw [hb] at p
  match ds, rs, p with
  | [], _, p => exact False.elim p
  | [_], _, p => exact False.elim p
  | [d, d'], rs, p =>
    obtain ⟨v, w, rfl, r, r'⟩ := two_args rs
    obtain ⟨e, he, q⟩ := keep_some p
    exact H1 pins s σ H v w us Q m h d d' e I rv rl r r' he q
  | _ :: _ :: _ :: _, _, p => exact False.elim p
/-- the items of a list, a tuple -/
theorem items_seq {m : AM} {h : Hc} {H : Hp} {d : Lad.D} {v : V} {ds : List Lad.D} (rl : Rel g m h H) (r : Rep g m h.length H d v) (e : items? h d = some ds) : ∃ a vs, v = .ref a ∧ (SqL g.K H a vs ∨ SqT g.K H a vs) ∧ Reps g m h.length H ds vs ∧ (∀ xs, d = .tup xs → SqT g.K H a vs) ∧ ((∀ xs, d ≠ .tup xs) → SqL g.K H a vs) := by
  cases r with
  | @tup a _ vs s rs => cases e; exact ⟨a, vs, rfl, .inr s, rs, fun _ _ => s, fun z => absurd rfl (z _)⟩
  | @lst a _ vs s o rs => cases e; exact ⟨a, vs, rfl, .inl (SqL.of s), rs, fun _ z => (nomatch z), fun _ => SqL.of s⟩
  | @ref i l =>
    have e' : (match h[i]? with | some (.lst ds) => some ds | _ => none) = some ds := e
    cases q : h[i]? with
    | none => rw [q] at e'; cases e'
    | some z =>
      cases z with
      | lst xs =>
        rw [q] at e'
        cases e'
        obtain ⟨vs, x, y⟩ := rl.obj i _ q
        exact ⟨_, vs, rfl, .inl (SqL.of x), y, fun _ z => (nomatch z), fun _ => SqL.of x⟩
      | _ => rw [q] at e'; cases e'
  | _ => cases e
theorem list_items {h : Hc} {d : Lad.D} {ds : List Lad.D} (e : listOf? h d = some ds) : items? h d = some ds ∧ ∀ xs, d ≠ .tup xs := by
  cases d <;> first | (cases e; done) | exact ⟨e, fun _ z => nomatch z⟩
theorem b_len (hK : X.K = g.K) : CallR X (.builtin "len") (RB g (biD .len)) := by
  refine c_one (op := fun h d => (lenD h d).map fun n => Lad.D.int (n : Nat)) (fun ds h => by rcases ds with _ | ⟨d, _ | ⟨e, r⟩⟩ <;> simp only [biD]) fun pins s σ H v us Q m h d e I rv rl r he q => ?_
  have he' : (lenD h d).map (fun n => Lad.D.int (n : Nat)) = some e := he
  clear he
  cases d with
  | str x =>
    have e1 : (if x.length ≤ sizeMax then some x.length else none).map (fun n => Lad.D.int (n : Nat)) = some e := he'
    by_cases z : x.length ≤ sizeMax
    · rw [if_pos z] at e1
      cases e1; cases r
      refine call_len pins s σ H _ us Q I rv ⟨_, x.length, rfl, ⟨by rw [kStr_len]; exact Nat.le_trans z max_line, (kStr_len x).symm⟩, post1 rl q (.int _)⟩
    · rw [if_neg z] at e1; cases e1
  | scr ns =>
    cases he'
    cases r with
    | @scr p1 _ s1 =>
      have sq : SqL X.K H p1 (ns.map V.int) := by
        rcases s1 with s1 | s1
        · exact .inl s1.1
        · exact .inr (by rw [hK]; exact s1)
      exact call_len pins s σ H _ us Q I rv ⟨_, ns.length, rfl, .inl ⟨_, sq, (List.length_map _).symm⟩, post1 rl q (.int _)⟩
  | tup ds =>
    cases he'
    cases r with
    | @tup a _ vs s1 w1 => exact call_len pins s σ H _ us Q I rv ⟨_, ds.length, rfl, .inr ⟨vs, by rw [hK]; exact s1, w1.length⟩, post1 rl q (.int _)⟩
  | lst ds =>
    cases he'
    cases r with
    | @lst a _ vs s1 o w1 => exact call_len pins s σ H _ us Q I rv ⟨_, ds.length, rfl, .inl ⟨vs, SqL.of s1, w1.length⟩, post1 rl q (.int _)⟩
  | ref i =>
    have e1 : (match h[i]? with | some (.lst ds) => some ds.length | some (.dct kvs) => some kvs.length | _ => none).map (fun n => Lad.D.int (n : Nat)) = some e := he'
    cases o : h[i]? with
    | none => rw [o] at e1; cases e1
    | some z =>
      cases z with
      | lst ds =>
        rw [o] at e1
        cases e1
        obtain ⟨vs, rfl, a, b⟩ := ref_lst rl r o
        exact call_len pins s σ H _ us Q I rv ⟨_, ds.length, rfl, .inl ⟨vs, SqL.of a, b.length⟩, post1 rl q (.int _)⟩
      | dct kvs =>
        rw [o] at e1
        cases e1
        obtain ⟨ws, rfl, a, b, _⟩ := ref_dct rl r o
        refine call_lenD pins s σ H _ us Q I rv ⟨_, ws, rfl, a, ?_⟩
        rw [← kv_len b]
        exact post1 rl q (.int _)
      | ins c fs => rw [o] at e1; cases e1
  | _ => cases he'
theorem b_abs : CallR X (.builtin "abs") (RB g (biD .abs)) := by
  refine c_one (op := fun _ d => absD d) (fun ds h => by rcases ds with _ | ⟨d, _ | ⟨e, r⟩⟩ <;> rfl) fun pins s σ H v us Q m h d e I rv rl r he q => ?_
  cases d <;> first | (cases he; done) | skip
  rename_i i
  cases he; cases r
  refine call_abs pins s σ H _ us Q I rv ⟨i, rfl, ?_⟩
  have e : (if i < 0 then -i else i) = (i.natAbs : Int) := by split <;> omega
  rw [e]
  exact post1 rl q (.int _)
theorem b_int : CallR X (.type "int") (RB g (biD .int)) := by
  refine c_one (op := fun _ d => intD d) (fun ds h => by rcases ds with _ | ⟨d, _ | ⟨e, r⟩⟩ <;> rfl) fun pins s σ H v us Q m h d e I rv rl r he q => ?_
  cases d <;> first | (cases he; done) | skip
  · cases he; cases r
    exact call_int1 pins s σ H _ us Q I rv (.inr ⟨_, rfl, post1 rl q (.int _)⟩)
  · cases he; cases r
    exact call_int1 pins s σ H _ us Q I rv (.inl ⟨_, rfl, post1 rl q (.int _)⟩)
theorem b_tuple (hK : X.K = g.K) : CallR X (.type "tuple") (RB g (biD .tuple)) := by
  refine c_one (op := fun h d => (items? h d).map Lad.D.tup) (fun ds h => by rcases ds with _ | ⟨d, _ | ⟨e, r⟩⟩ <;> rfl) fun pins s σ H v us Q m h d e I rv rl r he q => ?_
  cases ei : items? h d with
  | none => rw [ei] at he; cases he
  | some ds =>
    rw [ei] at he
    cases he
    obtain ⟨a, vs, rfl, _, rs, t1, t2⟩ := items_seq rl r ei
    by_cases z : ∃ xs, d = .tup xs
    · obtain ⟨xs, rfl⟩ := z
      cases ei
      exact call_tuple_of pins s σ H _ us Q I rv ⟨a, vs, rfl, .inr ⟨by rw [hK]; exact t1 _ rfl, post1 rl q r⟩⟩
    · exact call_tuple_of pins s σ H _ us Q I rv ⟨a, vs, rfl, .inl ⟨by rw [hK]; exact t2 fun xs e => z ⟨xs, e⟩, fun p np => post_new rl q np (rep_newT rl np rs)⟩⟩
theorem all_bl {m : AM} {n : Nat} {H : Hp} {h : Hc} : ∀ {ds : List Lad.D} {vs : List V} {t : Bool}, Reps g m n H ds vs → allTruth h ds = some t → ∃ bs : List Bool, vs = bs.map V.bl ∧ t = bs.all id
  | _, _, _, .nil, e => by cases e; exact ⟨[], rfl, rfl⟩
  | _, _, t, .cons (d := d) (ds := ds) a b, e => by
    cases d <;> first | (cases e; done) | skip
    rename_i k
    have e' : (allTruth h ds).map (k && ·) = some t := e
    cases q : allTruth h ds with
    | none => rw [q] at e'; cases e'
    | some t' =>
      rw [q] at e'
      obtain ⟨bs, rfl, rfl⟩ := all_bl b q
      cases a
      cases e'
      exact ⟨k :: bs, rfl, rfl⟩
theorem b_all (hK : X.K = g.K) (hc : X.calm = true) : CallR X (.builtin "all") (RB g (biD .all)) := by
  refine c_one (op := fun h d => ((listOf? h d).bind (allTruth h)).map Lad.D.bl) (fun ds h => by rcases ds with _ | ⟨d, _ | ⟨e, r⟩⟩ <;> rfl) fun pins s σ H v us Q m h d e I rv rl r he q => ?_
  cases ei : listOf? h d with
  | none => rw [ei] at he; cases he
  | some ds =>
    rw [ei] at he
    have he' : (allTruth h ds).map Lad.D.bl = some e := he
    cases ea : allTruth h ds with
    | none => rw [ea] at he'; cases he'
    | some t =>
      rw [ea] at he'
      cases he'
      obtain ⟨e1, e2⟩ := list_items ei
      obtain ⟨a, vs, rfl, _, rs, _, t2⟩ := items_seq rl r e1
      obtain ⟨bs, rfl, rfl⟩ := all_bl rs ea
      exact cr_all hc pins s σ H _ us Q I rv ⟨a, bs, rfl, by rw [hK]; exact t2 e2, post1 rl q (.bl _)⟩
theorem b_max2 (hc : X.calm = true) : CallR X (.builtin "max") (RB g (biD .max2)) := by
  refine c_two (op := max2D) (fun ds h => by rcases ds with _ | ⟨d, _ | ⟨e, _ | ⟨f, r⟩⟩⟩ <;> rfl) fun pins s σ H v w us Q m h d d' e I rv rl r r' he q => ?_
  cases d <;> cases d' <;> first | (cases he; done) | skip
  cases he; cases r; cases r'
  exact call_max2 hc pins s σ H _ us Q I rv ⟨_, _, rfl, post1 rl q (.int _)⟩
theorem b_min2 (hc : X.calm = true) : CallR X (.builtin "min") (RB g (biD .min2)) := by
  refine c_two (op := min2D) (fun ds h => by rcases ds with _ | ⟨d, _ | ⟨e, _ | ⟨f, r⟩⟩⟩ <;> rfl) fun pins s σ H v w us Q m h d d' e I rv rl r r' he q => ?_
  cases d <;> cases d' <;> first | (cases he; done) | skip
  cases he; cases r; cases r'
  exact call_min2 hc pins s σ H _ us Q I rv ⟨_, _, rfl, post1 rl q (.int _)⟩
/-- list(..) -/
def listF (h : Hc) (ds : List Lad.D) : Option (List Lad.D) := match ds with
  | [d] => itemsK? h d
  | _ => none
theorem listF_ok (ds : List Lad.D) (h : Hc) : biD .list ds h = keep h ((listF h ds).map .lst) := by
  rcases ds with _ | ⟨d, _ | ⟨e, r⟩⟩ <;> rfl
theorem kyD_rep {m : AM} {n : Nat} {H : Hp} : ∀ k : Ky, Rep g m n H (kyD k) (kV (ky k))
  | .inl i => .int i
  | .inr x => .str x
theorem keys_rep {m : AM} {n : Nat} {H : Hp} : ∀ {kvs : List (Ky × Lad.D)} {ws : List (Key × V)}, RepKv g m n H kvs ws → Reps g m n H (kvs.map fun p => kyD p.1) (ws.map fun p => kV p.1)
  | _, _, .nil => .nil
  | _, _, .cons a b => .cons (kyD_rep _) (keys_rep b)
theorem b_list (hK : X.K = g.K) (hc : X.calm = true) : CallR X (.type "list") (RBL g listF) := by
  intro pins s σ H vs us Q I rv ⟨m, h, ds, es, rl, rs, e, q⟩
  match ds, rs, e with
  | [], _, e => cases e
  | _ :: _ :: _, _, e => cases e
  | [d], rs, e =>
    obtain ⟨v, rfl, r⟩ := one_arg rs
    have e1 : itemsK? h d = some es := e
    have seq : items? h d = some es → wpAny (model X.prog X.w) X.A (call (.type "list") us) (EP X pins σ Q) X.xe s := fun ei => by
      obtain ⟨a, ws, rfl, sq, w, _, _⟩ := items_seq rl r ei
      refine call_list_of pins s σ H _ us Q I rv ⟨a, ws, rfl, by rw [hK]; exact sq, fun p np => q p ws np w ?_⟩
      rcases sq with sq | sq
      · exact (I.list (show SqL X.K H a ws by rw [hK]; exact sq)).choose_spec.2.2
      · exact (I.tuple (show SqT X.K H a ws by rw [hK]; exact sq)).choose_spec.2.2
    cases d <;> first | (cases e1; done) | exact seq e1 | skip
    rename_i i
    have e2 : (match h[i]? with | some (.lst ds) => some ds | some (.dct kvs) => some (kvs.map fun p => kyD p.1) | _ => none) = some es := e1
    cases o : h[i]? with
    | none => rw [o] at e2; cases e2
    | some z =>
      cases z with
      | lst xs =>
        rw [o] at e2
        refine seq ?_
        show (match h[i]? with | some (.lst ds) => some ds | _ => none) = some es
        rw [o]
        exact e2
      | dct kvs =>
        rw [o] at e2
        cases e2
        obtain ⟨ws, rfl, a, b, _⟩ := ref_dct rl r o
        refine call_list_dK hc pins s σ H _ us Q I rv ⟨_, ws, rfl, a, fun p np => q p _ np (keys_rep b) ?_⟩
        rw [List.length_map]
        exact (show ObjOk X.prog X.w H s.heap _ (.dK ws) from I.hok _ _ a).1
      | ins c fs => rw [o] at e2; cases e2
/-! ### methods of lists -/
def isRefL (h : Hc) : Lad.D → Bool
  | .ref i => match h[i]? with
    | some (.lst _) => true
    | _ => false
  | _ => false
theorem refL_ty {m : AM} {h : Hc} {H : Hp} {d : Lad.D} {v : V} (hK : X.K = g.K) (e : isRefL h d = true) (rl : Rel g m h H) (r : Rep g m h.length H d v) : tyV X.K "list" v H := by
  cases d with
  | ref i =>
    have e1 : (match h[i]? with | some (.lst _) => true | _ => false) = true := e
    cases o : h[i]? with
    | none => rw [o] at e1; cases e1
    | some z =>
      cases z with
      | lst ds =>
        obtain ⟨vs, rfl, a, b⟩ := ref_lst rl r o
        exact .inl ⟨rfl, vs, SqL.of a⟩
      | _ => rw [o] at e1; cases e1
  | _ => cases e
theorem recv_ref {mt : Mt} (hm : mt = .append ∨ mt = .extend ∨ mt = .pop ∨ mt = .popAt) {h : Hc} {d : Lad.D} (e : recvOk mt h d = true) : isRefL h d = true := by
  cases d with
  | ref i =>
    have e1 : (match h[i]? with
      | some (.lst _) => mt == .append || mt == .extend || mt == .pop || mt == .popAt || mt == .index
      | some (.dct _) => mt == .dget || mt == .dget2 || mt == .dpop2 || mt == .dupdate
      | _ => false) = true := e
    show (match h[i]? with | some (.lst _) => true | _ => false) = true
    cases o : h[i]? with
    | none => rw [o] at e1; cases e1
    | some z =>
      cases z with
      | lst ds => rfl
      | dct kvs => rw [o] at e1; rcases hm with rfl | rfl | rfl | rfl <;> cases e1
      | ins c fs => rw [o] at e1; cases e1
  | lst ds =>
    have e1 : (mt == .index || mt == .count) = true := e
    rcases hm with rfl | rfl | rfl | rfl <;> cases e1
  | str x =>
    have e1 : (mt == .join || mt == .split || mt == .splitW || mt == .count) = true := e
    rcases hm with rfl | rfl | rfl | rfl <;> cases e1
  | _ => cases e
theorem m_append (hK : X.K = g.K) (d : Lad.D) (h : Hc) (e : recvOk .append h d = true) : MAlt g X .append "append" d h := by
  refine ⟨"list", "list.append", PySem.F.plainAttrs_list, PySem.F.slot_list_append, PySem.F.type_list_append, fun m H v rl r => refL_ty hK (recv_ref (.inl rfl) e) rl r, ?_⟩
  intro pins s σ H x xs v us Q I rx rxs ⟨m, h', ds, rl, rd, rs, p⟩
  cases d <;> first | exact False.elim p | skip
  rename_i i
  match ds, rs, p with
  | [], _, p => exact False.elim p
  | _ :: _ :: _, _, p => exact False.elim p
  | [y], rs, p =>
    obtain ⟨w, rfl, rw'⟩ := one_arg rs
    have p1 : OptP (match h'[i]? with
      | some (.lst xs) => if xs.length < sizeMax then some (.non, (h'.set i (.lst (xs ++ [y])))) else none
      | _ => none) (Left g m h' H (VQ g Q)) := p
    cases o : h'[i]? with
    | none => rw [o] at p1; exact False.elim p1
    | some z =>
      cases z with
      | lst ys =>
        rw [o] at p1
        have l : i < h'.length := (List.getElem?_eq_some_iff.mp o).1
        have p2 : OptP (if ys.length < sizeMax then some (Lad.D.non, (h'.set i (.lst (ys ++ [y])))) else none) (Left g m h' H (VQ g Q)) := p1
        by_cases zl : ys.length < sizeMax
        · rw [if_pos zl] at p2
          obtain ⟨vs, rfl, a, b⟩ := ref_lst rl rd o
          have := sizeMax_lt
          have := b.length
          exact mt_append pins s σ H _ _ v us Q I rx rxs ⟨_, vs, w, rfl, rfl, a, by omega, p2 m _ (rl.mutL l (b.append (.cons rw' .nil))) _ .non⟩
        · rw [if_neg zl] at p2; exact False.elim p2
      | _ => rw [o] at p1; exact False.elim p1
theorem m_extend (hK : X.K = g.K) (d : Lad.D) (h : Hc) (e : recvOk .extend h d = true) : MAlt g X .extend "extend" d h := by
  refine ⟨"list", "list.extend", PySem.F.plainAttrs_list, PySem.F.slot_list_extend, PySem.F.type_list_extend, fun m H v rl r => refL_ty hK (recv_ref (.inr (.inl rfl)) e) rl r, ?_⟩
  intro pins s σ H x xs v us Q I rx rxs ⟨m, h', ds, rl, rd, rs, p⟩
  cases d <;> first | exact False.elim p | skip
  rename_i i
  match ds, rs, p with
  | [], _, p => exact False.elim p
  | _ :: _ :: _, _, p => exact False.elim p
  | [y], rs, p =>
    obtain ⟨w, rfl, rw'⟩ := one_arg rs
    have p1 : OptP (match h'[i]? with
      | some (.lst xs) => (extD xs y).map fun l => (.non, h'.set i (.lst l))
      | _ => none) (Left g m h' H (VQ g Q)) := p
    cases o : h'[i]? with
    | none => rw [o] at p1; exact False.elim p1
    | some z =>
      cases z with
      | lst ys =>
        rw [o] at p1
        have l : i < h'.length := (List.getElem?_eq_some_iff.mp o).1
        cases y <;> first | exact False.elim p1 | skip
        rename_i zs
        have p2 : OptP ((if ys.length + zs.length ≤ sizeMax then some (ys ++ zs) else none).map fun l => (Lad.D.non, h'.set i (.lst l))) (Left g m h' H (VQ g Q)) := p1
        by_cases zl : ys.length + zs.length ≤ sizeMax
        · rw [if_pos zl] at p2
          obtain ⟨vs, rfl, a, b⟩ := ref_lst rl rd o
          cases rw' with
          | @lst c _ us2 s2 o2 w2 =>
            have := max_line
            have := b.length
            have := w2.length
            exact mt_extend pins s σ H _ _ v us Q I rx rxs ⟨_, c, vs, us2, rfl, rfl, a, s2, by omega, p2 m _ (rl.mutL l (b.append w2)) _ .non⟩
        · rw [if_neg zl] at p2; exact False.elim p2
      | _ => rw [o] at p1; exact False.elim p1
theorem Reps.dropLast {m : AM} {n : Nat} {H : Hp} {ds : List Lad.D} {vs : List V} (r : Reps g m n H ds vs) : Reps g m n H ds.dropLast vs.dropLast := by
  rw [List.dropLast_eq_take, List.dropLast_eq_take, ← r.length]
  exact r.take _
theorem m_pop (hK : X.K = g.K) (d : Lad.D) (h : Hc) (e : recvOk .pop h d = true) : MAlt g X .pop "pop" d h := by
  refine ⟨"list", "list.pop", PySem.F.plainAttrs_list, PySem.F.slot_list_pop, PySem.F.type_list_pop, fun m H v rl r => refL_ty hK (recv_ref (.inr (.inr (.inl rfl))) e) rl r, ?_⟩
  intro pins s σ H x xs v us Q I rx rxs ⟨m, h', ds, rl, rd, rs, p⟩
  cases d <;> first | exact False.elim p | skip
  rename_i i
  match ds, rs, p with
  | _ :: _, _, p => exact False.elim p
  | [], rs, p =>
    cases rs
    have p1 : OptP (match h'[i]? with
      | some (.lst xs) => (match xs.getLast? with
        | some y => some (y, (h'.set i (.lst xs.dropLast)))
        | none => none)
      | _ => none) (Left g m h' H (VQ g Q)) := p
    cases o : h'[i]? with
    | none => rw [o] at p1; exact False.elim p1
    | some z =>
      cases z with
      | lst ys =>
        rw [o] at p1
        have l : i < h'.length := (List.getElem?_eq_some_iff.mp o).1
        have p2 : OptP (match ys.getLast? with
          | some y => some (y, (h'.set i (.lst ys.dropLast)))
          | none => none) (Left g m h' H (VQ g Q)) := p1
        obtain ⟨vs, rfl, a, b⟩ := ref_lst rl rd o
        cases el : ys.getLast? with
        | none => rw [el] at p2; exact False.elim p2
        | some y =>
          rw [el] at p2
          rw [List.getLast?_eq_getElem?] at el
          obtain ⟨w, ew, rw'⟩ := b.get el
          rw [b.length] at ew
          exact mt_pop pins s σ H _ _ v us Q I rx rxs ⟨_, vs, w, rfl, rfl, a, ew, p2 m _ (rl.mutL l (Reps.dropLast b)) _ (by
            have c := mut_carry (u := .lst vs.dropLast) rl l rfl
            rw [List.length_set]
            exact rw'.carry c)⟩
      | _ => rw [o] at p1; exact False.elim p1
/-! ### index -/
theorem firstIx_get {y : Lad.D} : ∀ {xs : List Lad.D} {k : Nat}, firstIx y xs = some k → ∃ z, xs[k]? = some z ∧ D.eqv z y = true ∧ ∀ (m : Nat) z', m < k → xs[m]? = some z' → D.eqv z' y = false
  | [], _, e => by cases e
  | x :: xs, k, e => by
    unfold firstIx at e
    by_cases z : D.eqv x y = true
    · rw [if_pos z] at e
      cases e
      exact ⟨x, rfl, z, fun m _ h => absurd h (Nat.not_lt_zero m)⟩
    · rw [if_neg z] at e
      cases q : firstIx y xs with
      | none => rw [q] at e; cases e
      | some j =>
        rw [q] at e
        cases e
        obtain ⟨z', h1, h2, h3⟩ := firstIx_get q
        refine ⟨z', h1, h2, fun m w hm hw => ?_⟩
        cases m with
        | zero => cases hw; simpa using z
        | succ m => exact h3 m w (Nat.lt_of_succ_lt_succ hm) (by simpa using hw)
theorem pyAll_get {xs : List Lad.D} {k : Nat} {z : PyData} (h : (pyAll xs)[k]? = some z) : ∃ d, xs[k]? = some d ∧ z = pyOf d := by
  rw [pyAll_map, List.getElem?_map] at h
  cases q : xs[k]? with
  | none => rw [q] at h; cases h
  | some d => rw [q] at h; cases h; exact ⟨d, rfl, rfl⟩
theorem datas_mem : ∀ {xs : List Lad.D}, D.datas xs = true → ∀ d ∈ xs, d.data = true
  | x :: xs, h, d, hd => by
    simp only [D.datas, Bool.and_eq_true] at h
    rcases List.mem_cons.mp hd with e | e
    · rw [e]; exact h.1
    · exact datas_mem h.2 d e
theorem m_index (hK : X.K = g.K) (rm : Rm X) (d : Lad.D) (h : Hc) (e : recvOk .index h d = true) : MAlt g X .index "index" d h := by
  have isl : ∀ (m : AM) (h : Hc) (H : Hp) (v : V) (xs : List Lad.D), (∀ ys, d ≠ .tup ys) → Rel g m h H → Rep g m h.length H d v → items? h d = some xs → ∃ a vs, v = .ref a ∧ SqL g.K H a vs ∧ Reps g m h.length H xs vs := fun m h H v xs nt rl r ei => by
    obtain ⟨a, vs, rfl, _, rs, _, t2⟩ := items_seq rl r ei
    exact ⟨a, vs, rfl, t2 nt, rs⟩
  have nt : ∀ ys, d ≠ .tup ys := fun ys z => by subst z; cases e
  refine ⟨"list", "list.index", PySem.F.plainAttrs_list, PySem.F.slot_list_index, PySem.F.type_list_index, fun m H v rl r => ?_, ?_⟩
  · cases d with
    | lst ds =>
      cases r with
      | lst s o w => exact .inl ⟨rfl, _, SqL.of s⟩
    | ref i =>
      refine refL_ty hK ?_ rl r
      have e1 : (match h[i]? with
        | some (.lst _) => Mt.index == .append || Mt.index == .extend || Mt.index == .pop || Mt.index == .popAt || Mt.index == .index
        | some (.dct _) => Mt.index == .dget || Mt.index == .dget2 || Mt.index == .dpop2 || Mt.index == .dupdate
        | _ => false) = true := e
      show (match h[i]? with | some (.lst _) => true | _ => false) = true
      cases o : h[i]? with
      | none => rw [o] at e1; cases e1
      | some z => cases z <;> first | rfl | (rw [o] at e1; cases e1)
    | str x => cases e
    | _ => cases e
  · intro pins s σ H x xs v us Q I rx rxs ⟨m, h', ds, rl, rd, rs, p⟩
    match ds, rs, p with
    | [], _, p => cases d <;> exact False.elim p
    | _ :: _ :: _, _, p => cases d <;> exact False.elim p
    | [y], rs, p =>
      obtain ⟨w, rfl, rw'⟩ := one_arg rs
      have p1 : OptP (match items? h' d with
        | some xs => if y.data && D.datas xs && decide (y.depth ≤ 60) && decide (D.depths xs ≤ 60) then (match firstIx y xs with
          | some k => some ((Lad.D.int (k : Nat)), h')
          | none => none) else none
        | none => none) (Left g m h' H (VQ g Q)) := by cases d <;> exact p
      cases ei : items? h' d with
      | none => rw [ei] at p1; exact False.elim p1
      | some ys =>
        rw [ei] at p1
        by_cases c : (y.data && D.datas ys && decide (y.depth ≤ 60) && decide (D.depths ys ≤ 60)) = true
        · have p2 : OptP (if y.data && D.datas ys && decide (y.depth ≤ 60) && decide (D.depths ys ≤ 60) then (match firstIx y ys with
            | some k => some ((Lad.D.int (k : Nat)), h')
            | none => none) else none) (Left g m h' H (VQ g Q)) := p1
          rw [if_pos c] at p2
          simp only [Bool.and_eq_true, decide_eq_true_eq] at c
          cases ef : firstIx y ys with
          | none => rw [ef] at p2; exact False.elim p2
          | some k =>
            rw [ef] at p2
            obtain ⟨a, vs, rfl, sq, rys⟩ := isl m h' H x ys nt rl rd ei
            obtain ⟨z, h1, h2, h3⟩ := firstIx_get ef
            have dz := datas_mem c.1.1.2 z (List.mem_of_getElem? h1)
            refine mt_indexD (by unfold Rm at rm; omega) pins s σ H _ _ v us Q I rx rxs ⟨a, w, pyOf y, pyAll ys, k, pyOf z, rfl, rfl, by rw [hK]; exact .lst sq (dps_of rys c.1.1.2), by rw [hK]; exact dp_of rw' c.1.1.1, ?_, ?_, ?_, ?_, fun j z' hj hz' => ?_, post1 rl p2 (.int _)⟩
            · unfold SeqAt.shaped
              simp only [Bool.and_eq_true, decide_eq_true_eq]
              refine ⟨by simp only [PyData.canLay0]; exact py_lays _ c.1.1.2, ?_⟩
              simp only [PyData.depth, py_depths]
              omega
            · unfold SeqAt.shaped
              simp only [Bool.and_eq_true, decide_eq_true_eq]
              exact ⟨py_lay _ c.1.1.1, by rw [py_depth]; omega⟩
            · rw [pyAll_map, List.getElem?_map, h1]; rfl
            · rw [py_eqv _ _ dz c.1.1.1]; exact h2
            · obtain ⟨d', e1, rfl⟩ := pyAll_get hz'
              rw [py_eqv _ _ (datas_mem c.1.1.2 d' (List.mem_of_getElem? e1)) c.1.1.1]
              exact h3 j d' hj e1
        · have p2 : OptP (if y.data && D.datas ys && decide (y.depth ≤ 60) && decide (D.depths ys ≤ 60) then (match firstIx y ys with
            | some k => some ((Lad.D.int (k : Nat)), h')
            | none => none) else none) (Left g m h' H (VQ g Q)) := p1
          rw [if_neg c] at p2
          exact False.elim p2
end
end Lad
set_option Elab.async false
set_option linter.all false
set_option maxRecDepth 100000
/-! The check: a clean term says what an expression of the row does. -/
namespace Lad
open PySem PySem.Spec PyProof.Rows L2

/-- where one stands: the slots' names, the scope, whether captured names may be stored -/
structure Kx where
  N : List PySem.Str
  sc : Scope
  fa : Bool
/-- what a global name means -/
inductive Mean where
  | fn (f : Nat) | val (d : Lad.D) | exc (c : Nat) | blt
abbrev Tb := List (PySem.Str × Mean)

def nmB (x : PySem.Str) : Bool := !(x == ("__debug__" : PySem.Str)) && !(x == ("__classdict__" : PySem.Str)) && !(x == ("__name__" : PySem.Str))
def kindB (Γ : Kx) (x : PySem.Str) : Option NameKind := Γ.sc.names.lookup x
def visB (Γ : Kx) (x : PySem.Str) : Bool := match kindB Γ x with
  | some .local => true
  | some .cell => true
  | some .free => true
  | _ => false
def glB (Γ : Kx) (x : PySem.Str) : Bool := match kindB Γ x with
  | some .globalImplicit => true
  | _ => false
def locB (Γ : Kx) (x : PySem.Str) : Bool := match kindB Γ x with
  | some .local => true
  | some .cell => Γ.fa
  | _ => false
def slotB (Γ : Kx) (i : Nat) (x : PySem.Str) : Bool := decide (Γ.N[i]? = some x)
def bltB (tb : Tb) (Γ : Kx) (x : PySem.Str) : Bool := glB Γ x && nmB x && (match tb.lookup x with
  | some .blt => true
  | _ => false)
def constB : Lad.D → Const → Bool
  | .non, .none => true
  | .bl a, .bool b => a == b
  | .int i, .int j => decide (i = j)
  | .str x, .str s => decide (kStr x = s)
  | _, _ => false
def fnC (tb : Tb) (d : Lad.D) (x : PySem.Str) : Bool := match d, tb.lookup x with
  | .fn f, some (.fn f') => f == f'
  | _, _ => false
def fnT (tb : Tb) (f : Nat) (x : PySem.Str) : Bool := match tb.lookup x with
  | some (.fn f') => f == f'
  | _ => false
def valC (tb : Tb) (d : Lad.D) (x : PySem.Str) : Bool := match tb.lookup x with
  | some (.val d') => D.beq d d'
  | _ => false
def ckC (tb : Tb) (d : Lad.D) (Γ : Kx) (pe : Expr) : Bool := match pe with
  | .Constant c _ _ => constB d c
  | .Name x _ => glB Γ x && nmB x && fnC tb d x
  | _ => false
def ckG1 (tb : Tb) (d : Lad.D) (Γ : Kx) (pe : Expr) : Bool := match pe with
  | .Name x _ => glB Γ x && nmB x && (valC tb d x || fnC tb d x)
  | _ => false
/-- no form that is looked at from without -/
def plain : Expr → Bool
  | .BoolOp .. => true
  | .BinOp .. => true
  | .UnaryOp .. => true
  | .IfExp .. => true
  | .ListComp .. => true
  | .Compare .. => true
  | .Call .. => true
  | .Constant .. => true
  | .Subscript .. => true
  | .Name .. => true
  | .List .. => true
  | .Tuple .. => true
  | _ => false
def tPlain : Expr → Bool
  | .BinOp .. => true
  | .ListComp .. => true
  | .Call .. => true
  | .Constant .. => true
  | .Subscript .. => true
  | .Name .. => true
  | .List .. => true
  | .Tuple .. => true
  | _ => false
def noSup : Expr → Bool
  | .Call _ [] [] _ => false
  | e => plain e
def biName : BI → Option (PySem.Str × Bool)
  | .len => some ("len", false)
  | .abs => some ("abs", false)
  | .int => some ("int", true)
  | .tuple => some ("tuple", true)
  | .list => some ("list", true)
  | .all => some ("all", false)
  | .max2 => some ("max", false)
  | .min2 => some ("min", false)
  | _ => none
def biT (b : BI) (x : PySem.Str) : Bool := match biName b with
  | some (y, _) => x == y
  | none => false
def mtName : Mt → Option PySem.Str
  | .append => some "append"
  | .extend => some "extend"
  | .pop => some "pop"
  | .index => some "index"
  | _ => none
def tyPy : Ty → Option PySem.Str
  | .int => some "int"
  | .bool => some "bool"
  | .str => some "str"
  | .list => some "list"
  | .tuple => some "tuple"
  | _ => none
def ckTy (tb : Tb) (Γ : Kx) (t : Ty) (pe : Expr) : Bool := match pe with
  | .Name y _ => decide (tyPy t = some y) && bltB tb Γ y
  | _ => false
def ckTys (tb : Tb) (Γ : Kx) : List Ty → List Expr → Bool
  | [], [] => true
  | t :: ts, e :: es => ckTy tb Γ t e && ckTys tb Γ ts es
  | _, _ => false
def ckIsi (tb : Tb) (Γ : Kx) (ts : List Ty) (pe : Expr) : Bool := match ts, pe with
  | [t], .Name y p => ckTy tb Γ t (.Name y p)
  | t :: ts, .Tuple es _ _ => ckTys tb Γ (t :: ts) es && decide ((t :: ts).length ≤ 1000)
  | _, _ => false
/-- a list is made -/
def isF : E → Bool
  | .lst _ => true
  | .lc .. => true
  | .bi .list _ => true
  | .bin .mul _ _ => true
  | _ => false
def ownB (Γ : Kx) (own : List Nat) : List (PySem.Str × Nat) := own.map fun i => (Γ.N[i]?.getD default, i)
def ckName (Γ : Kx) (i : Nat) (pe : Expr) : Bool := match pe with
  | .Name x _ => slotB Γ i x && locB Γ x
  | _ => false
def ckNames (Γ : Kx) : List Nat → List Expr → Bool
  | [], [] => true
  | i :: is, e :: es => ckName Γ i e && ckNames Γ is es
  | _, _ => false
def ckTg (Γ : Kx) (is : List Nat) (tp : Bool) (pe : Expr) : Bool := match tp, is, pe with
  | false, [i], pe => ckName Γ i pe
  | true, is, .Tuple es _ _ => ckNames Γ is es
  | _, _, _ => false
def isTupE : Expr → Bool
  | .Tuple .. => true
  | _ => false
def subset (a b : List Nat) : Bool := a.all fun i => b.contains i

mutual
def ckE (tb : Tb) : E → Kx → Expr → Bool
  | .var i, Γ, pe => match pe with
    | .Name x _ => slotB Γ i x && visB Γ x && nmB x
    | _ => false
  | .c d, Γ, pe => ckC tb d Γ pe
  | .gl _ d, Γ, pe => ckG1 tb d Γ pe
  | .tup es, Γ, pe => match pe with
    | .Tuple pes _ _ => ckEs tb es Γ pes && decide (es.length ≤ 1000)
    | _ => false
  | .lst es, Γ, pe => match pe with
    | .List pes _ => ckEs tb es Γ pes && decide (es.length ≤ 1000)
    | _ => false
  | .nw e, Γ, pe => isF e && ckE tb e Γ pe
  | .disp _, _, _ => false
  | .bin op a b, Γ, pe => match pe with
    | .BinOp pa pop pb _ => decide (binOf pop = some op) && ckE tb a Γ pa && ckE tb b Γ pb
    | _ => false
  | .neg a, Γ, pe => match pe with
    | .UnaryOp .USub pa _ => ckE tb a Γ pa
    | _ => false
  | .notE a, Γ, pe => match pe with
    | .UnaryOp .Not pa _ => ckE tb a Γ pa
    | _ => false
  | .andE es, Γ, pe => match pe with
    | .BoolOp .And pes _ => ckEs tb es Γ pes && !es.isEmpty
    | _ => false
  | .orE es, Γ, pe => match pe with
    | .BoolOp .Or pes _ => ckEs tb es Γ pes && !es.isEmpty
    | _ => false
  | .cmp op a b, Γ, pe => match pe with
    | .Compare pa [pop] [pb] _ => decide (cmpOf pop = some op) && ckE tb a Γ pa && ckE tb b Γ pb && plain pb
    | _ => false
  | .chain o1 o2 a b c, Γ, pe => match pe with
    | .Compare pa [p1, p2] [pb, pc] _ => decide (cmpOf p1 = some o1) && decide (cmpOf p2 = some o2) && ckE tb a Γ pa && ckE tb b Γ pb && ckE tb c Γ pc && plain pc
    | _ => false
  | .ife t a b, Γ, pe => match pe with
    | .IfExp pt pa pb _ => ckT tb t Γ pt && ckE tb a Γ pa && ckE tb b Γ pb
    | _ => false
  | .ix a b, Γ, pe => match pe with
    | .Subscript pa pb _ => ckE tb a Γ pa && ckE tb b Γ pb && plain pb
    | _ => false
  | .sl a lo hi, Γ, pe => match pe with
    | .Subscript pa (.Slice plo phi none _) _ => ckE tb a Γ pa && (match plo with
      | none => noneE lo
      | some p => !noneE lo && ckE tb lo Γ p) && (match phi with
      | none => noneE hi
      | some p => !noneE hi && ckE tb hi Γ p)
    | _ => false
  | .isi a ts, Γ, pe => match pe with
    | .Call (.Name x _) [pa, tx] [] _ => (x == ("isinstance" : PySem.Str)) && bltB tb Γ x && ckE tb a Γ pa && plain pa && plain tx && ckIsi tb Γ ts tx
    | _ => false
  | .line _, _, _ => false
  | .call f es, Γ, pe => match pe with
    | .Call (.Name x _) (p0 :: pes) [] _ => glB Γ x && nmB x && fnT tb f x && ckEs tb es Γ (p0 :: pes)
    | _ => false
  | .callv i es, Γ, pe => match pe with
    | .Call (.Name x _) (p0 :: pes) [] _ => slotB Γ i x && visB Γ x && nmB x && ckEs tb es Γ (p0 :: pes)
    | _ => false
  | .bi b es, Γ, pe => match pe with
    | .Call (.Name x _) (p0 :: pes) [] _ => biT b x && bltB tb Γ x && ckEs tb es Γ (p0 :: pes)
    | _ => false
  | .meth m a es, Γ, pe => match pe with
    | .Call (.Attribute po name apos) pes [] cpos => decide (mtName m = some name) && noSup po && (apos.endLine == cpos.line) && ckE tb a Γ po && ckEs tb es Γ pes && decide (pes.length < 20)
    | _ => false
  | .lc own g tp it ifs e, Γ, pe => match pe with
    | .ListComp pelt [⟨ptg, piter, pifs, 0⟩] scope _ => blkC Γ.N Γ.sc scope (ownB Γ own) && subset g own && ckTg ⟨Γ.N, relS scope Γ.sc, false⟩ g tp ptg && ckIt tb it Γ (isTupE ptg) piter && decide (pifs.length ≤ 1) && ckTs tb ifs ⟨Γ.N, relS scope Γ.sc, false⟩ pifs && ckE tb e ⟨Γ.N, relS scope Γ.sc, false⟩ pelt
    | _ => false
  | .lc2 .., _, _ => false
def ckEs (tb : Tb) : List E → Kx → List Expr → Bool
  | [], _, pes => match pes with
    | [] => true
    | _ :: _ => false
  | e :: es, Γ, pes => match pes with
    | [] => false
    | p :: ps => ckE tb e Γ p && plain p && ckEs tb es Γ ps
def ckT (tb : Tb) : T → Kx → Expr → Bool
  | .e a, Γ, pe => (match pe with
    | .Compare .. => isCmp a
    | p => tPlain p) && ckE tb a Γ pe
  | .not t, Γ, pe => match pe with
    | .UnaryOp .Not pa _ => ckT tb t Γ pa
    | _ => false
  | .and ts, Γ, pe => match pe with
    | .BoolOp .And pes _ => ckTs tb ts Γ pes && !ts.isEmpty
    | _ => false
  | .or ts, Γ, pe => match pe with
    | .BoolOp .Or pes _ => ckTs tb ts Γ pes && !ts.isEmpty
    | _ => false
  | .ife t a b, Γ, pe => match pe with
    | .IfExp pt pa pb _ => ckT tb t Γ pt && ckT tb a Γ pa && ckT tb b Γ pb
    | _ => false
where isCmp : E → Bool
  | .cmp .. => true
  | .chain .. => true
  | _ => false
def ckTs (tb : Tb) : List T → Kx → List Expr → Bool
  | [], _, pes => match pes with
    | [] => true
    | _ :: _ => false
  | t :: ts, Γ, pes => match pes with
    | [] => false
    | p :: ps => ckT tb t Γ p && ckTs tb ts Γ ps
/-- what is walked; whether the target is a tuple of names -/
def ckIt (tb : Tb) : It → Kx → Bool → Expr → Bool
  | .sq e, Γ, _, pe => ckE tb e Γ pe && plain pe
  | .rng1 a, Γ, _, pe => match pe with
    | .Call (.Name x _) [pa] [] _ => (x == ("range" : PySem.Str)) && bltB tb Γ x && ckE tb a Γ pa && plain pa
    | _ => false
  | .rng2 a b, Γ, _, pe => match pe with
    | .Call (.Name x _) [pa, pb] [] _ => (x == ("range" : PySem.Str)) && bltB tb Γ x && ckE tb a Γ pa && plain pa && ckE tb b Γ pb && plain pb
    | _ => false
  | .zip a b, Γ, tp, pe => match pe with
    | .Call (.Name x _) [pa, pb] [] _ => tp && (x == ("zip" : PySem.Str)) && bltB tb Γ x && ckE tb a Γ pa && plain pa && ckE tb b Γ pb && plain pb
    | _ => false
  | .enum a, Γ, tp, pe => match pe with
    | .Call (.Name x _) [pa] [] _ => tp && (x == ("enumerate" : PySem.Str)) && bltB tb Γ x && ckE tb a Γ pa && plain pa
    | _ => false
  | .rev _, _, _, _ => false
end

/-! ### statements -/
def isLC : Expr → Option (Expr × List Comprehension × Scope × Pos)
  | .ListComp e gs sc p => some (e, gs, sc, p)
  | _ => none
/-- y = [..] on one line -/
def swapB (Γ : Kx) (y : PySem.Str) (py : Pos) (sc : Scope) (p : Pos) : Bool := (kindB Γ y == some .local) && (py.line == p.line) && !(sc.names.any fun (n, k) => n == y && (k == .local || k == .cell))
def isLcE : E → Bool
  | .lc .. => true
  | .nw (.lc ..) => true
  | _ => false
def localB (Γ : Kx) (x : PySem.Str) : Bool := kindB Γ x == some .local
/-- a tuple of names that a written tuple is stored to -/
def ckPar (Γ : Kx) (is : List Nat) (pts : List Expr) (pvs : List Expr) : Bool := match is, pts, pvs with
  | [i, j], [.Name x px, .Name y py], [a, b] => localB Γ x && localB Γ y && slotB Γ i x && slotB Γ j y && (px.line == py.line) && !(x == y) && plain a && plain b && !([a, b].all (foldedForSure 8)) && !([a, b].all (constantsAlone 8))
  | [i, j, l], [.Name x px, .Name y py, .Name z pz], [a, b, c] => localB Γ x && localB Γ y && localB Γ z && slotB Γ i x && slotB Γ j y && slotB Γ l z && (px.line == py.line) && (px.line == pz.line) && !(x == y) && !(x == z) && !(y == z) && plain a && plain b && plain c && !([a, b, c].all (foldedForSure 8)) && !([a, b, c].all (constantsAlone 8))
  | _, _, _ => false
/-- no stores are swapped -/
def notLoc (Γ : Kx) : Expr → Bool
  | .Name x _ => !(kindB Γ x == some .local)
  | _ => false
def noSwap (Γ : Kx) (pts : List Expr) (pe : Expr) : Bool := match pe with
  | .Tuple vs _ _ => !(pts.length == 2 || pts.length == 3) || vs.length != pts.length || vs.all (foldedForSure 8) || pts.any (notLoc Γ)
  | e => plain e
def isTup2 : E → Bool
  | .tup _ => true
  | _ => false
def tupOf : E → List E
  | .tup es => es
  | _ => []
def notLC (e : Expr) : Bool := plain e && (isLC e).isNone
/-- except X as n: y = 'm' if isinstance(n, ValueError) else None -/
def ckH (tb : Tb) (Γ : Kx) : H → ExceptHandler → Bool
  | .mk [c] (some i) [.asg (.nm j) (.ife (.e (.isi (.var i') [.valueError])) (.c d) (.c .non))], .ExceptHandler (some (.Name x _)) (some n) [.Assign [.Name y _] (.IfExp (.Call (.Name f _) [.Name n' _, .Name v _] [] _) (.Constant k1 _ _) (.Constant .none _ _) _) _] _ =>
    decide (c < 3) && decide (i = i') && (match tb.lookup x with
      | some (.exc c') => c == c'
      | _ => false) && glB Γ x && nmB x && slotB Γ i n && localB Γ n && (n == n') && nmB n && slotB Γ j y && locB Γ y && decide (j ≠ i) && constB d k1 && (f == ("isinstance" : PySem.Str)) && bltB tb Γ f && (v == ("ValueError" : PySem.Str)) && bltB tb Γ v
  | _, _ => false
def ckHs (tb : Tb) (Γ : Kx) : List H → List ExceptHandler → Bool
  | [], [] => true
  | h :: hs, p :: ps => ckH tb Γ h p && ckHs tb Γ hs ps
  | _, _ => false
def excT (tb : Tb) (c : Nat) (x : PySem.Str) : Bool := match tb.lookup x with
  | some (.exc c') => c == c'
  | _ => false
mutual
def ckS (tb : Tb) : S → Kx → Stmt → Bool
  | .asg g e, Γ, st => match st with
    | .Assign [tg] pe _ => (match g with
      | .nm i => (match tg with
        | .Name x px => slotB Γ i x && locB Γ x && ckE tb e Γ pe && (match isLC pe with
          | some (_, _, sc, p) => (swapB Γ x px sc p && isLcE e) || !(swapB Γ x px sc p)
          | none => plain pe)
        | _ => false)
      | .tp is => (match tg with
        | .Tuple pts _ _ => (match pe with
          | .Tuple pvs _ _ => (isTup2 e && ckEs tb (tupOf e) Γ pvs && ckPar Γ is pts pvs) || (ckE tb e Γ pe && ckNames Γ is pts && noSwap Γ pts pe)
          | pe => ckE tb e Γ pe && ckNames Γ is pts && notLC pe)
        | _ => false)
      | .ix a b => (match tg with
        | .Subscript pa pb _ => ckE tb a Γ pa && ckE tb b Γ pb && plain pb && ckE tb e Γ pe && notLC pe
        | _ => false))
    | _ => false
  | .aug i op e, Γ, st => match st with
    | .AugAssign (.Name x _) pop pe _ => decide (augOf pop = some op) && slotB Γ i x && locB Γ x && ckE tb e Γ pe
    | _ => false
  | .augIx .., _, _ => false
  | .ifs t a b, Γ, st => match st with
    | .If pt pa pb _ => ckT tb t Γ pt && ckSs tb a Γ pa && ckSs tb b Γ pb
    | _ => false
  | .whl t b, Γ, st => match st with
    | .While pt pb [] _ => ckT tb t Γ pt && ckSs tb b Γ pb
    | _ => false
  | .forS g tp it b, Γ, st => match st with
    | .For ptg piter pb [] _ => ckTg Γ g tp ptg && ckIt tb it Γ (isTupE ptg) piter && ckSs tb b Γ pb
    | _ => false
  | .ret e, Γ, st => match st with
    | .Return (some pe) _ => ckE tb e Γ pe
    | .Return none _ => noneE e
    | _ => false
  | .ex e, Γ, st => match st with
    | .Expr pe _ => ckE tb e Γ pe && notLC pe
    | _ => false
  | .raise c a, Γ, st => match st with
    | .Raise (some (.Call (.Name x _) [] [] _)) none _ => a.isNone && excT tb c x && glB Γ x && nmB x && decide (c < 3)
    | _ => false
  | .brk, _, st => match st with
    | .Break _ => true
    | _ => false
  | .pass, _, st => match st with
    | .Pass _ => true
    | _ => false
  | .tryS b hs, Γ, st => match st with
    | .Try pb (h0 :: phs) [] [] _ => ckSs tb b Γ pb && ckHs tb Γ hs (h0 :: phs)
    | _ => false
def ckSs (tb : Tb) : List S → Kx → List Stmt → Bool
  | [], _, sts => match sts with
    | [] => true
    | _ :: _ => false
  | s :: ss, Γ, sts => match sts with
    | [] => false
    | p :: ps => ckS tb s Γ p && ckSs tb ss Γ ps
end
end Lad
set_option Elab.async false
set_option linter.all false
set_option maxRecDepth 100000
set_option maxHeartbeats 4000000
/-! The check is sound: expressions. -/
namespace Lad
open PySem PySem.Spec PyProof.Rows L2
/-! ### forms -/
theorem star_plain {e : Expr} {es : List Expr} {env : PySem.Env} (h : plain e = true) : starEach (e :: es) env = (false, eval e env) :: starEach es env := by
  cases e <;> first | rfl | cases h
theorem star_map : ∀ {es : List Expr} {env : PySem.Env}, (∀ e ∈ es, plain e = true) → starEach es env = es.map fun e => (false, eval e env)
  | [], _, _ => rfl
  | e :: es, env, h => by
    rw [star_plain (h e List.mem_cons_self), star_map fun x hx => h x (List.mem_cons_of_mem _ hx)]
    rfl
theorem back_any {es : List Expr} {env : PySem.Env} {pos : Pos} (h : ∀ e ∈ es, plain e = true) : (backTo pos (starEach es env)).any (·.1) = false := by
  rw [star_map h]
  unfold backTo
  rw [List.map_map, List.any_map]
  apply Bool.eq_false_iff.mpr
  intro z
  obtain ⟨x, _, hx⟩ := List.any_eq_true.mp z
  simp at hx
theorem back_all {es : List Expr} {env : PySem.Env} {pos : Pos} (h : ∀ e ∈ es, plain e = true) : (backTo pos (starEach es env)).all (fun x => !x.1) = true := by
  rw [star_map h]
  unfold backTo
  rw [List.map_map, List.all_map]
  apply List.all_eq_true.mpr
  intro x _
  rfl
theorem plain_ix {b : Expr} (h : plain b = true) : PlainIx b := by
  intro o i
  cases b <;> first | rfl | cases h
theorem plain_fold {e : Expr} {env : PySem.Env} (h : plain e = true) : ∀ x, foldedSetIterable e env x = pure x := by
  intro x
  cases e <;> first | rfl | cases h
theorem plain_behind {b : Expr} {op : CmpOp} (h : plain b = true) : behindInMarks op b = false := by
  cases b <;> first | rfl | cases h
theorem noSup_base {o : Expr} {name : PySem.Str} {env : PySem.Env} {t : Sem Value} (h : noSup o = true) : attributeBase o name env t = t := by
  cases o <;> first | rfl | skip
  rename_i f args kws pos
  cases args with
  | nil => cases kws with
    | nil => cases h
    | cons k ks => cases f <;> rfl
  | cons a as => cases f <;> rfl
theorem noSup_plain {o : Expr} (h : noSup o = true) : plain o = true := by
  cases o <;> first | rfl | exact h
theorem isTrue_tPlain {a : Expr} {env : PySem.Env} (h : tPlain a = true) (whole : Sem Value) : PySem.isTrue a env whole = (do let v ← whole; standAt a.pos; holding [v] (truthy v)) := by
  cases a <;> first | rfl | cases h
/-! ### the place -/
def Means (g : Gp) (X : Cx) (l : Nat) (C : CallT) (x : PySem.Str) : Mean → Prop
  | .fn f => X.mg x = some (.ref (g.fa f)) ∧ g.dom f = true
  | .val d => ∃ v u, X.mg x = some u ∧ RelV v u ∧ ∀ m n H, Rep g m n H d v
  | .exc c => X.mg x = some (.ref (g.xa c)) ∧ ∃ bmB B newId initId, ExcBaseFacts B newId initId bmB ∧ PySem.W.excIn X.K (g.xa c) bmB newId = true ∧ PySem.W.keepIn X.K (.ref (g.xa c)) = true ∧ Raises X (.ref (g.xa c))
  | .blt => X.mg x = none
structure Xok (g : Gp) (l : Nat) (X : Cx) (W : WX) (C : CallT) (tb : Tb) (Γ : Kx) : Prop where
  cok : Cok g l X W
  N : X.N = Γ.N
  sc : X.env.scope = Γ.sc
  kind : Γ.sc.kind = .function
  fa : Γ.fa = true → ∀ x, X.fn x = true
  tb : ∀ x m, tb.lookup x = some m → Means g X l C x m
  fns : ∀ f, g.dom f = true → FnAt g X l C f
section
variable {g : Gp} {l : Nat} {X : Cx} {W : WX} {C : CallT} {tb : Tb} {Γ : Kx}
theorem kind_eq (k : Xok g l X W C tb Γ) (x : PySem.Str) : X.env.kindOf x = kindB Γ x := by
  show X.env.scope.names.lookup x = _
  rw [k.sc]; rfl
theorem gl_ok (k : Xok g l X W C tb Γ) {x : PySem.Str} (h : glB Γ x = true) : Gl X x := by
  show X.env.kindOf x = _
  rw [kind_eq k]
  unfold glB at h
  split at h
  · assumption
  · cases h
theorem vis_ok (k : Xok g l X W C tb Γ) {x : PySem.Str} (h : visB Γ x = true) : Vis X.env.scope x := by
  show X.env.kindOf x = _ ∨ X.env.kindOf x = _ ∨ X.env.kindOf x = _
  rw [kind_eq k]
  unfold visB at h
  split at h <;> first | (cases h; done) | (rename_i e; rw [e]; simp)
theorem loc_ok (k : Xok g l X W C tb Γ) {x : PySem.Str} (h : locB Γ x = true) : Loc X.env.scope x ∧ (X.fn x = true ∨ X.env.scope.names.lookup x = some .local) := by
  show (X.env.kindOf x = _ ∨ X.env.kindOf x = _) ∧ (_ ∨ X.env.kindOf x = _)
  rw [kind_eq k]
  unfold locB at h
  split at h
  · rename_i e; rw [e]; simp
  · rename_i e; rw [e]; exact ⟨.inr rfl, .inl (k.fa h x)⟩
  · cases h
theorem slot_ok (k : Xok g l X W C tb Γ) {i : Nat} {x : PySem.Str} (h : slotB Γ i x = true) : X.N[i]? = some x := by
  rw [k.N]
  simpa [slotB] using h
theorem nm_ok {x : PySem.Str} (h : nmB x = true) : (x == ("__debug__" : PySem.Str)) = false ∧ (x == ("__classdict__" : PySem.Str)) = false ∧ x ≠ "__name__" := by
  simp only [nmB, Bool.and_eq_true, Bool.not_eq_true'] at h
  refine ⟨h.1.1, h.1.2, fun e => ?_⟩
  have := h.2
  rw [e] at this
  simp at this
theorem blt_ok (k : Xok g l X W C tb Γ) {x : PySem.Str} (h : bltB tb Γ x = true) : Gl X x ∧ X.mg x = none ∧ (x == ("__debug__" : PySem.Str)) = false ∧ x ≠ "__name__" := by
  simp only [bltB, Bool.and_eq_true] at h
  have n := nm_ok h.1.2
  refine ⟨gl_ok k h.1.1, ?_, n.1, n.2.2⟩
  have h2 := h.2
  split at h2
  · rename_i e; exact k.tb _ _ e
  · cases h2
theorem rm_ok (k : Xok g l X W C tb Γ) : Rm X := by
  have := k.cok.room.un
  unfold Rm
  omega
/-! ### constants -/
theorem const_ok {d : Lad.D} {c : Const} {j : Nat} {pos : Pos} (h : constB d c = true) : ∃ v, PE X (.Constant c j pos) (tC v) ∧ ∀ m n H, Rep g m n H d v := by
  cases d <;> cases c <;> first | (cases h; done) | skip
  · exact ⟨_, pe_non, fun _ _ _ => .non⟩
  · have e := eq_of_beq (show (_ == _) = true from h)
    subst e
    exact ⟨_, pe_bl, fun _ _ _ => .bl _⟩
  · have e := of_decide_eq_true (show decide _ = true from h)
    subst e
    exact ⟨_, pe_int, fun _ _ _ => .int _⟩
  · have e := of_decide_eq_true (show decide _ = true from h)
    subst e
    exact ⟨_, pe_str, fun _ _ _ => .str _⟩
theorem ev_c {d : Lad.D} : ev C (.c d) = fun _ h => .ok d h := by funext env h; rw [ev]
theorem ev_gl {i : Nat} {d : Lad.D} : ev C (.gl i d) = fun _ h => .ok d h := by funext env h; rw [ev]
theorem snd_c (k : Xok g l X W C tb Γ) {d : Lad.D} {pe : Expr} (h : ckC tb d Γ pe = true) : PE X pe (RdE g W (ev C (.c d))) := by
  rw [ev_c]
  cases pe <;> first | (cases h; done) | skip
  · obtain ⟨v, p, r⟩ := const_ok (g := g) (X := X) (show constB d _ = true from h)
    exact j_val p r
  · rename_i x pos
    have h' : (glB Γ x && nmB x && fnC tb d x) = true := h
    rw [Bool.and_eq_true, Bool.and_eq_true] at h'
    obtain ⟨⟨h1, h2⟩, h3⟩ := h'
    unfold fnC at h3
    split at h3
    · rename_i f f' e
      have ef := eq_of_beq h3
      subst ef
      obtain ⟨hm, hd⟩ := k.tb _ _ e
      exact j_val (v := .ref (g.fa f)) (pe_glob (gl_ok k h1) hm rfl (nm_ok h2).1) fun _ _ _ => .fn hd
    · cases h3
theorem snd_gl (k : Xok g l X W C tb Γ) {i : Nat} {d : Lad.D} {pe : Expr} (h : ckG1 tb d Γ pe = true) : PE X pe (RdE g W (ev C (.gl i d))) := by
  rw [ev_gl]
  cases pe <;> first | (cases h; done) | skip
  rename_i x pos
  have h' : (glB Γ x && nmB x && (valC tb d x || fnC tb d x)) = true := h
  rw [Bool.and_eq_true, Bool.and_eq_true, Bool.or_eq_true] at h'
  obtain ⟨⟨h1, h2⟩, h3 | h3⟩ := h'
  · unfold valC at h3
    split at h3
    · rename_i d' e
      have ed := D.beq_eq h3
      subst ed
      obtain ⟨v, u, hm, rv, rr⟩ := k.tb _ _ e
      exact j_val (pe_glob (gl_ok k h1) hm rv (nm_ok h2).1) rr
    · cases h3
  · unfold fnC at h3
    split at h3
    · rename_i f f' e
      have ef := eq_of_beq h3
      subst ef
      obtain ⟨hm, hd⟩ := k.tb _ _ e
      exact j_val (v := .ref (g.fa f)) (pe_glob (gl_ok k h1) hm rfl (nm_ok h2).1) fun _ _ _ => .fn hd
    · cases h3
/-! ### names of types -/
theorem ty_ok (k : Xok g l X W C tb Γ) {t : Ty} {pe : Expr} (h : ckTy tb Γ t pe = true) : ∃ n, tyName t = some n ∧ PE X pe (tC (.ty n)) ∧ plain pe = true := by
  cases pe <;> first | (cases h; done) | skip
  rename_i y pos
  have h' : (decide (tyPy t = some y) && bltB tb Γ y) = true := h
  rw [Bool.and_eq_true, decide_eq_true_eq] at h'
  obtain ⟨h1, h2⟩ := h'
  obtain ⟨b1, b2, b3, b4⟩ := blt_ok k h2
  cases t <;> first | (cases h1; done) | skip
  all_goals (have e := Option.some.inj h1; subst e)
  · exact ⟨"int", rfl, pe_bltn b1 b2 (by decide +kernel) rfl, rfl⟩
  · exact ⟨"bool", rfl, pe_bltn b1 b2 (by decide +kernel) rfl, rfl⟩
  · exact ⟨"str", rfl, pe_bltn b1 b2 (by decide +kernel) rfl, rfl⟩
  · exact ⟨"list", rfl, pe_bltn b1 b2 (by decide +kernel) rfl, rfl⟩
  · exact ⟨"tuple", rfl, pe_bltn b1 b2 (by decide +kernel) rfl, rfl⟩
theorem tys_ok (k : Xok g l X W C tb Γ) : ∀ {ts : List Ty} {es : List Expr}, ckTys tb Γ ts es = true → ∃ ns, tyNames ts = some ns ∧ ns.length = ts.length ∧ PA X es (fun _ H Q => Q (ns.map V.ty) H)
  | [], [], _ => ⟨[], rfl, rfl, pa_nil⟩
  | [], _ :: _, h => by cases h
  | _ :: _, [], h => by cases h
  | t :: ts, e :: es, h => by
    have h' : (ckTy tb Γ t e && ckTys tb Γ ts es) = true := h
    rw [Bool.and_eq_true] at h'
    obtain ⟨n, e1, p1, pl⟩ := ty_ok k h'.1
    obtain ⟨ns, e2, el, p2⟩ := tys_ok k h'.2
    refine ⟨n :: ns, ?_, by simp [el], pa_cons p1 p2 (star_plain pl)⟩
    unfold tyNames
    rw [e1, e2]
theorem snd_isi (k : Xok g l X W C tb Γ) {a : E} {ts : List Ty} {pa tx : Expr} {p pos : Pos} (hb : bltB tb Γ "isinstance" = true) (ha : PE X pa (RdE g W (ev C a))) (pla : plain pa = true) (plt : plain tx = true) (h : ckIsi tb Γ ts tx = true) :
    PE X (.Call (.Name "isinstance" p) [pa, tx] [] pos) (RdE g W (ev C (.isi a ts))) := by
  obtain ⟨b1, b2, b3, b4⟩ := blt_ok k hb
  unfold ckIsi at h
  split at h
  · obtain ⟨n, e1, p1, _⟩ := ty_ok k h
    exact j_isi1 k.cok.K e1 b1 b2 ha p1 (star_plain pla) (star_plain plt) (back_any (fun e he => List.mem_singleton.mp he ▸ plt))
  · rename_i t ts es kk tp
    rw [Bool.and_eq_true, decide_eq_true_eq] at h
    obtain ⟨ns, e1, el, p1⟩ := tys_ok k h.1
    exact j_isiT k.cok.K e1 (by simp) (by rw [el]; exact h.2) b1 b2 ha p1 (star_plain pla)
  · cases h
/-! ### targets -/
theorem snd_name (k : Xok g l X W C tb Γ) {i : Nat} {pe : Expr} (h : ckName Γ i pe = true) : PG X pe (RdG g [i] false) ∧ ∃ x p, pe = .Name x p := by
  cases pe <;> first | (cases h; done) | skip
  rename_i x pos
  have h' : (slotB Γ i x && locB Γ x) = true := h
  rw [Bool.and_eq_true] at h'
  obtain ⟨l1, l2⟩ := loc_ok k h'.2
  exact ⟨j_gName k.cok.nd (slot_ok k h'.1) l1 l2, x, pos, rfl⟩
theorem snd_names (k : Xok g l X W C tb Γ) : ∀ {is : List Nat} {es : List Expr}, ckNames Γ is es = true → PGs X es (RdGs g is) ∧ (assignEach es X.env).length = is.length ∧ (assignEach es X.env).findIdx? (·.1) = none
  | [], [], _ => ⟨j_gsNil, rfl, rfl⟩
  | [], _ :: _, h => by cases h
  | _ :: _, [], h => by cases h
  | i :: is, e :: es, h => by
    have h' : (ckName Γ i e && ckNames Γ is es) = true := h
    rw [Bool.and_eq_true] at h'
    obtain ⟨p1, x, p, rfl⟩ := snd_name k h'.1
    obtain ⟨p2, l2, f2⟩ := snd_names k h'.2
    refine ⟨j_gsCons p1 p2 rfl, ?_, ?_⟩
    · show ((false, _) :: assignEach es X.env).length = _
      rw [List.length_cons, l2]; rfl
    · show ((false, _) :: assignEach es X.env).findIdx? (·.1) = none
      rw [List.findIdx?_cons, f2]; rfl
theorem snd_tg (k : Xok g l X W C tb Γ) {is : List Nat} {tp : Bool} {pe : Expr} (h : ckTg Γ is tp pe = true) : PG X pe (RdG g is tp) := by
  unfold ckTg at h
  split at h
  · exact (snd_name k h).1
  · obtain ⟨p, l1, l2⟩ := snd_names k h
    exact j_gTup k.cok.K k.cok.calm p l1 l2
  · cases h
/-! ### new lists by a product -/
theorem len_rep {α : Type} (xs : List α) : ∀ k : Nat, (List.replicate k xs).flatten.length = xs.length * k
  | 0 => rfl
  | k + 1 => by
    rw [List.replicate_succ, List.flatten_cons, List.length_append, len_rep xs k, Nat.mul_succ, Nat.add_comm]
theorem o_mulL : OpR X (binaryOp .Mult) (ROL g (binL .mul)) := by
  intro pins s σ H x y v u Q I rx ry ⟨m, h, dx, dy, es, rl, r1, r2, e, p⟩
  unfold binL at e
  cases eb : binD .mul dx dy with
  | none => rw [eb] at e; cases e
  | some r =>
    rw [eb] at e
    cases r <;> first | (cases e; done) | skip
    cases e
    cases dx <;> cases dy <;> first | (cases eb; done) | skip
    · rename_i i j
      have e' : (if small i || small j then some (Lad.D.int (i * j)) else none) = some (.lst es) := eb
      split at e' <;> cases e'
    · rename_i a k
      have e' : (if 2 ≤ k && k ≤ 1000 && !a.isEmpty && a.length ≤ 1000 then some (Lad.D.tup (List.replicate k.toNat a).flatten) else none) = some (.lst es) := eb
      split at e' <;> cases e'
    · rename_i a k
      have e' : (if -1000 < k && k < 1000 && a.length ≤ 1000 then some (Lad.D.lst (List.replicate k.toNat a).flatten) else none) = some (.lst es) := eb
      by_cases z : (-1000 < k && k < 1000 && decide (a.length ≤ 1000)) = true
      · rw [if_pos z] at e'
        cases e'
        simp only [Bool.and_eq_true, decide_eq_true_eq] at z
        cases r2
        cases r1 with
        | @lst p1 _ vs s1 o1 w1 =>
          have l1 := w1.length
          have lz : vs.length * k.toNat ≤ sizeLine := by
            have h1 : vs.length * k.toNat ≤ 1000 * 1000 := Nat.mul_le_mul (by omega) (by omega)
            exact Nat.le_trans h1 (by decide)
          exact op_rep pins s σ H _ _ v u Q I rx ry ⟨p1, k, vs, rfl, rfl, s1, by omega, by omega, lz, fun p' np => p p' _ np (w1.replicate _) (by
            rw [len_rep]; exact lz)⟩
      · rw [if_neg z] at e'; cases e'
/-! ### the block of a comprehension -/
theorem takes_wf {X : Cx} : Takes X WF := fun _ _ ⟨_, _, _, _, _, _, _, _, _, _, _, _, _, _, _, _, w⟩ => w.elim
theorem blk_ok (k : Xok g l X W C tb Γ) (s : Shared) (H : Hp) (scope : Scope) (Ca : Addr) (cl : List (PySem.Str × Addr)) (fp : List Addr) (hk : scope.kind = .function) :
    Xok g l (X.blk s H scope (compEnvC scope cl Ca X.env) fp) WF C tb ⟨Γ.N, relS scope Γ.sc, false⟩ where
  cok := ⟨k.cok.K, k.cok.calm, k.cok.nd, k.cok.room, fun σ => passAt takes_wf σ⟩
  N := k.N
  sc := by
    show relS scope X.env.scope = _
    rw [k.sc]
  kind := hk
  fa := fun z => by cases z
  tb := fun x m e => by
    have := k.tb x m e
    cases m <;> exact this
  fns := fun f hf => ⟨(k.fns f hf).ok, (k.fns f hf).kp⟩
end
end Lad
set_option Elab.async false
set_option linter.all false
set_option maxRecDepth 100000
set_option maxHeartbeats 4000000
/-! The check is sound: expressions. -/
namespace Lad
open PySem PySem.Spec PyProof.Rows L2
section
variable {g : Gp} {l : Nat} {X : Cx} {W : WX} {C : CallT} {tb : Tb} {Γ : Kx}
theorem dct_of {h : Hc} {d : Lad.D} (e : noDct h d = false) : ∃ i kvs, d = .ref i ∧ h[i]? = some (.dct kvs) := by
  cases d with
  | ref i =>
    have e' : (match h[i]? with | some (MO.dct _) => false | _ => true) = false := e
    cases o : h[i]? with
    | none => rw [o] at e'; cases e'
    | some z =>
      cases z with
      | dct kvs => exact ⟨i, kvs, rfl, o⟩
      | _ => rw [o] at e'; cases e'
  | _ => cases e
theorem ixD_ref {i : Nat} {y : Lad.D} {h : Hc} {kvs : List (Ky × Lad.D)} (o : h[i]? = some (.dct kvs)) : ixD (.ref i) y h = (keyOf y).bind (kvGet kvs) := by
  have e : ixD (.ref i) y h = (match h[i]? with
    | some (.lst ds) => (match y with
      | .int i => match getI ds i with
        | some v => some v
        | none => none
      | _ => none)
    | some (.dct kvs) => match (keyOf y).bind (kvGet kvs) with
      | some v => some v
      | none => none
    | _ => none) := by cases y <;> rfl
  rw [e, o]
  show (match (keyOf y).bind (kvGet kvs) with | some v => some v | none => none) = _
  cases (keyOf y).bind (kvGet kvs) <;> rfl
theorem j_ixG (k : Xok g l X W C tb Γ) {pa pb : Expr} {a b : E} {pos : Pos} (ha : PE X pa (RdE g W (ev C a))) (hb : PE X pb (RdE g W (ev C b))) (hs : plain pb = true) : PE X (.Subscript pa pb pos) (RdE g W (ev C (.ix a b))) := by
  refine peOf fun σ H Q ⟨m, env, h, s, p⟩ => ?_
  have P := pe_ix (pos := pos) (o_ixS (g := g) k.cok.K) ha hb (plain_ix hs)
  rw [ev] at p
  cases ea : ev C a env h with
  | fail => rw [ea] at p; exact p.elim
  | ex x h1 =>
    rw [ea] at p
    refine ⟨_, P, m, env, h, s, ?_⟩
    rw [ea]; exact p
  | ok d h1 =>
    rw [ea] at p
    have p : Post g W σ m h H ((ev C b env h1).bind fun y h2 => Rs.opt (ixD d y h2) h2) (VQ g Q) := p
    cases eb : ev C b env h1 with
    | fail => rw [eb] at p; exact p.elim
    | ex x h2 =>
      rw [eb] at p
      refine ⟨_, P, m, env, h, s, ?_⟩
      rw [ea]
      intro m1 H1 e1 v rv
      refine ⟨m1, env, h1, s.ext e1, ?_⟩
      rw [eb]
      exact fun m' H' e2 => p m' H' (Ext.trans s.rel e1 e2)
    | ok i h2 =>
      rw [eb] at p
      have p : Post g W σ m h H (Rs.opt (ixD d i h2) h2) (VQ g Q) := p
      cases nd : noDct h2 d with
      | true =>
        refine ⟨_, P, m, env, h, s, ?_⟩
        rw [ea]
        intro m1 H1 e1 v rv
        refine ⟨m1, env, h1, s.ext e1, ?_⟩
        rw [eb]
        intro m2 H2 e2 w rw'
        refine ⟨m2, h2, d, i, e2.rel, rv.ext e1.rel e2, rw', ?_⟩
        show OptP (keep h2 (if noDct h2 d = true then ixD d i h2 else none)) _
        rw [if_pos nd]
        have p2 := Post.later s.rel (Ext.trans s.rel e1 e2) p
        rw [opt_keep] at p2
        exact post_opt2 p2
      | false =>
        obtain ⟨r, kvs, rfl, o⟩ := dct_of nd
        rw [ixD_ref o] at p
        have rm := rm_ok k
        refine ⟨_, pe_dget (by unfold Rm at rm; omega) ha hb (plain_ix hs), m, env, h, s, ?_⟩
        rw [ea]
        intro m1 H1 e1 v rv
        refine ⟨m1, env, h1, s.ext e1, ?_⟩
        rw [eb]
        intro m2 H2 e2 w rw'
        obtain ⟨ws, rfl, a1, b1, _⟩ := ref_dct e2.rel (rv.ext e1.rel e2) o
        cases ek : keyOf i with
        | none => rw [ek] at p; exact p.elim
        | some q =>
          rw [ek] at p
          have ex := key_v rw' ek
          subst ex
          have p : Post g W σ m h H (Rs.opt (kvGet kvs q) h2) (VQ g Q) := p
          cases eg : kvGet kvs q with
          | none => rw [eg] at p; exact p.elim
          | some d' =>
            rw [eg] at p
            obtain ⟨u, hu, ru⟩ := (kv_get q b1).1 d' eg
            refine ⟨_, u, rfl, ?_, p m2 H2 (Ext.trans s.rel e1 e2) u ru⟩
            rw [← hu]
            exact DGet.k a1
theorem es_plain : ∀ {es : List E} {pes : List Expr}, ckEs tb es Γ pes = true → ∀ p ∈ pes, plain p = true
  | [], [], _ => fun _ h => by cases h
  | [], _ :: _, h => by rw [ckEs] at h; cases h
  | _ :: _, [], h => by rw [ckEs] at h; cases h
  | e :: es, p :: ps, h => by
    rw [ckEs] at h
    have h' : (ckE tb e Γ p && plain p && ckEs tb es Γ ps) = true := h
    rw [Bool.and_eq_true, Bool.and_eq_true] at h'
    intro q hq
    rcases List.mem_cons.mp hq with z | z
    · rw [z]; exact h'.1.2
    · exact es_plain h'.2 q z
theorem bi_fresh {es : List E} {env : Lad.Env} {h h' : Hc} {d : Lad.D} (e : ev C (.bi .list es) env h = .ok d h') : ∃ ds, d = .lst ds := by
  rw [ev] at e
  obtain ⟨ds, h1, _, e2⟩ := bind_ok e
  rw [listF_ok] at e2
  cases q : listF h1 ds with
  | none => rw [q] at e2; cases e2
  | some l0 => rw [q] at e2; cases e2; exact ⟨l0, rfl⟩
theorem lst_fresh {es : List E} {env : Lad.Env} {h h' : Hc} {d : Lad.D} (e : ev C (.lst es) env h = .ok d h') : ∃ ds, d = .lst ds := by
  rw [ev] at e
  obtain ⟨ds, h1, _, e2⟩ := bind_ok e
  cases e2; exact ⟨ds, rfl⟩
theorem lc_fresh {own is : List Nat} {tp : Bool} {it : Lad.It} {ifs : List T} {c : E} {env : Lad.Env} {h h' : Hc} {d : Lad.D} (e : ev C (.lc own is tp it ifs c) env h = .ok d h') : ∃ ds, d = .lst ds := by
  rw [ev_lc] at e
  obtain ⟨p, h1, _, e2⟩ := bind_ok e
  obtain ⟨ys, h2, _, e3⟩ := bind_ok e2
  split at e3
  · cases e3; exact ⟨ys, rfl⟩
  · cases e3
/-- a built-in's rule -/
theorem snd_bi (k : Xok g l X W C tb Γ) {b : BI} {es : List E} {x : PySem.Str} {p0 : Expr} {pes : List Expr} {p pos : Pos} (hx : biT b x = true) (hb : bltB tb Γ x = true) (ha : PA X (p0 :: pes) (RdA g W (evs C es))) (hp : ∀ q ∈ p0 :: pes, plain q = true) :
    PE X (.Call (.Name x p) (p0 :: pes) [] pos) (RdE g W (ev C (.bi b es))) ∧ (isF (.bi b es) = true → PE X (.Call (.Name x p) (p0 :: pes) [] pos) (RdF g W (ev C (.bi b es)))) := by
  obtain ⟨b1, b2, b3, b4⟩ := blt_ok k hb
  have s1 := star_plain (es := pes) (env := X.env) (hp p0 List.mem_cons_self)
  have s2 := back_any (env := X.env) (pos := pos) fun q hq => hp q (List.mem_cons_of_mem _ hq)
  have hK := k.cok.K
  have hc := k.cok.calm
  unfold biT at hx
  cases b <;> first | (cases hx; done) | skip
  all_goals (have ex := eq_of_beq hx; subst ex)
  · exact ⟨j_biB (b_len hK) b1 b2 (by decide +kernel) ha b4 b3 s1 s2, fun z => by cases z⟩
  · exact ⟨j_biB b_abs b1 b2 (by decide +kernel) ha b4 b3 s1 s2, fun z => by cases z⟩
  · exact ⟨j_biT b_int b1 b2 (by decide +kernel) ha b4 b3 s1 s2, fun z => by cases z⟩
  · exact ⟨j_biT (b_tuple hK) b1 b2 (by decide +kernel) ha b4 b3 s1 s2, fun z => by cases z⟩
  · have P := j_biTF listF_ok (b_list hK hc) b1 b2 (by decide +kernel) ha b4 b3 s1 s2 (p := p) (W := W)
    exact ⟨j_ofF (fun _ _ _ _ e => bi_fresh e) P, fun _ => P⟩
  · exact ⟨j_biB (b_all hK hc) b1 b2 (by decide +kernel) ha b4 b3 s1 s2, fun z => by cases z⟩
  · exact ⟨j_biB (b_max2 hc) b1 b2 (by decide +kernel) ha b4 b3 s1 s2, fun z => by cases z⟩
  · exact ⟨j_biB (b_min2 hc) b1 b2 (by decide +kernel) ha b4 b3 s1 s2, fun z => by cases z⟩
theorem snd_mAlt (k : Xok g l X W C tb Γ) {mt : Mt} {name : PySem.Str} (h : mtName mt = some name) : (∀ d h, recvOk mt h d = true → MAlt g X mt name d h) ∧ ∃ d h, recvOk mt h d = true := by
  have hK := k.cok.K
  cases mt <;> cases h
  · exact ⟨fun d h e => m_append hK d h e, .ref 0, [.lst []], rfl⟩
  · exact ⟨fun d h e => m_extend hK d h e, .ref 0, [.lst []], rfl⟩
  · exact ⟨fun d h e => m_pop hK d h e, .ref 0, [.lst []], rfl⟩
  · exact ⟨fun d h e => m_index hK (rm_ok k) d h e, .ref 0, [.lst []], rfl⟩
theorem snd_meth (k : Xok g l X W C tb Γ) {mt : Mt} {a : E} {es : List E} {po : Expr} {name : PySem.Str} {pes : List Expr} {apos cpos : Pos} (hn : mtName mt = some name) (hs : noSup po = true) (hl : (apos.endLine == cpos.line) = true) (ho : PE X po (RdE g W (ev C a))) (he : ckEs tb es Γ pes = true) (ha : PA X pes (RdA g W (evs C es))) (hp : ∀ q ∈ pes, plain q = true) (hz : pes.length < 20) :
    PE X (.Call (.Attribute po name apos) pes [] cpos) (RdE g W (ev C (.meth mt a es))) := by
  obtain ⟨M, d0, h0, k0⟩ := snd_mAlt k hn
  cases pes with
  | nil =>
    cases es with
    | nil => exact j_meth0 M d0 h0 k0 ho (noSup_base hs) hl
    | cons e es => rw [ckEs] at he; cases he
  | cons p0 pes =>
    refine j_meth M d0 h0 k0 ho ha (noSup_base hs) ?_ hl (star_plain (hp p0 List.mem_cons_self)) (back_any fun q hq => hp q (List.mem_cons_of_mem _ hq))
    rw [back_all hp]
    simp only [List.length_cons] at hz
    simp [backToKw, keywordEach]
    omega
end
end Lad
set_option Elab.async false
set_option linter.all false
set_option maxRecDepth 100000
set_option maxHeartbeats 8000000
/-! The check is sound: expressions, tests, walks. -/
namespace Lad
open PySem PySem.Spec PyProof.Rows L2
section
variable {g : Gp} {l : Nat} {C : CallT} {tb : Tb}
theorem and2 {a b : Bool} (h : (a && b) = true) : a = true ∧ b = true := by rw [Bool.and_eq_true] at h; exact h
theorem noneE_c {e : E} (h : noneE e = true) : e = .c .non := by
  cases e <;> first | (cases h; done) | skip
  rename_i d
  cases d <;> first | rfl | cases h
theorem ev_bin {op : Bop} {a b : E} : ev C (.bin op a b) = fun env h => (ev C a env h).bind fun x h1 => (ev C b env h1).bind fun y h2 => Rs.opt (binD op x y) h2 := by funext env h; rw [ev]
theorem ev_cmp {op : Cop} {a b : E} : ev C (.cmp op a b) = fun env h => (ev C a env h).bind fun x h1 => (ev C b env h1).bind fun y h2 => Rs.opt (cmpD op x y h2) h2 := by funext env h; rw [ev]
theorem ev_andE {es : List E} : ev C (.andE es) = evAnd C es := by funext env h; rw [ev]
theorem ev_orE {es : List E} : ev C (.orE es) = evOr C es := by funext env h; rw [ev]
theorem evT_and {ts : List T} : evT C (.and ts) = evAll C ts := by funext env h; rw [evT]
theorem evT_or {ts : List T} : evT C (.or ts) = evAny C ts := by funext env h; rw [evT]
theorem own_map (Γ : Kx) (own : List Nat) : (ownB Γ own).map (·.2) = own := by
  unfold ownB
  rw [List.map_map]
  exact List.map_id' own
theorem sub_mem {a b : List Nat} (h : subset a b = true) : ∀ i ∈ a, i ∈ b := fun i hi => by
  have := List.all_eq_true.mp h i hi
  simpa using this
theorem ptsImp {X : Cx} {e : List Expr} {t t' : TT} (p : PTs X e t) (f : ∀ σ H Q, t' σ H Q → t σ H Q) : PTs X e t' := ⟨fun pins s σ H Q I q => p.run pins s σ H Q I (f σ H Q q)⟩
theorem itFold : ∀ (it : Lad.It) {Γ : Kx} {tp : Bool} {pe : Expr} {env : PySem.Env}, ckIt tb it Γ tp pe = true → ∀ x, foldedSetIterable pe env x = pure x
  | .sq e, Γ, tp, pe, env, h => by
    rw [ckIt.eq_def] at h; dsimp only at h
    exact plain_fold (and2 h).2
  | .rng1 a, Γ, tp, pe, env, h => by
    rw [ckIt.eq_def] at h; dsimp only at h
    split at h
    · exact fun _ => rfl
    · cases h
  | .rng2 a b, Γ, tp, pe, env, h => by
    rw [ckIt.eq_def] at h; dsimp only at h
    split at h
    · exact fun _ => rfl
    · cases h
  | .zip a b, Γ, tp, pe, env, h => by
    rw [ckIt.eq_def] at h; dsimp only at h
    split at h
    · exact fun _ => rfl
    · cases h
  | .enum a, Γ, tp, pe, env, h => by
    rw [ckIt.eq_def] at h; dsimp only at h
    split at h
    · exact fun _ => rfl
    · cases h
  | .rev _, Γ, tp, pe, env, h => by
    rw [ckIt.eq_def] at h; dsimp only at h
    cases h
/-- enumerate of a list -/
theorem j_iEnum {X : Cx} {W : WX} {elts : List Expr} {kk : Nat} {tpos : Pos} {a : Expr} {c : E} {p pos : Pos} (hK : X.K = g.K) (hg : Gl X "enumerate") (hm : X.mg "enumerate" = none) (ha : PE X a (RdE g W (ev C c))) (hs : starEach [a] X.env = (false, eval a X.env) :: starEach [] X.env) :
    PI X (.Tuple elts kk tpos) (.Call (.Name "enumerate" p) [a] [] pos) (RdI g W (evIt C (.enum c))) := by
  refine piImp (pi_enum hg hm (pa_cons ha pa_nil hs) hs) fun σ H R ⟨m, env, h, s, p⟩ => ?_
  rw [evIt] at p
  refine ⟨m, env, h, s, (Post.bind s.rel p).mono fun d h1 m1 H1 e1 p1 v rv => ?_⟩
  by_cases hT : isTup d = true
  · rw [if_pos hT] at p1; exact False.elim p1
  · rw [if_neg hT] at p1
    cases ei : items? h1 d with
    | none => rw [ei] at p1; exact False.elim p1
    | some ds =>
      rw [ei] at p1
      obtain ⟨a1, rfl, ⟨⟨xs, z⟩, _⟩ | ⟨_, L⟩⟩ := items_at e1.rel rv ei
      · exact absurd (isTup_iff.mpr ⟨xs, z⟩) hT
      · obtain ⟨vs, q, _⟩ := L m1 h1 H1 carry_refl e1.rel (still_self rv)
        refine ⟨a1, vs, rfl, by rw [hK]; exact q, ?_⟩
        rw [hK]
        exact p1 m1 H1 (Ext.refl e1.rel) _ (walkD_enumL L)
mutual
theorem sndE : ∀ (e : E) {X : Cx} {W : WX} {Γ : Kx} {pe : Expr}, Xok g l X W C tb Γ → ckE tb e Γ pe = true → PE X pe (RdE g W (ev C e)) ∧ (isF e = true → PE X pe (RdF g W (ev C e)))
  | .var i, X, W, Γ, pe, k, h => by
    rw [ckE.eq_def] at h; dsimp only at h
    split at h
    · obtain ⟨h1, h3⟩ := and2 h
      obtain ⟨h1, h2⟩ := and2 h1
      have n := nm_ok h3
      exact ⟨j_var (slot_ok k h1) (vis_ok k h2) n.1 n.2.1 C, fun z => by cases z⟩
    · cases h
  | .c d, X, W, Γ, pe, k, h => by
    rw [ckE.eq_def] at h; dsimp only at h
    exact ⟨snd_c k h, fun z => by cases z⟩
  | .gl i d, X, W, Γ, pe, k, h => by
    rw [ckE.eq_def] at h; dsimp only at h
    exact ⟨snd_gl k h, fun z => by cases z⟩
  | .tup es, X, W, Γ, pe, k, h => by
    rw [ckE.eq_def] at h; dsimp only at h
    split at h
    · obtain ⟨h1, h2⟩ := and2 h
      exact ⟨j_tup (sndEs es k h1) (by simpa using h2), fun z => by cases z⟩
    · cases h
  | .lst es, X, W, Γ, pe, k, h => by
    rw [ckE.eq_def] at h; dsimp only at h
    split at h
    · obtain ⟨h1, h2⟩ := and2 h
      have P := j_lstF (pos := by assumption) (sndEs es k h1) (by simpa using h2)
      exact ⟨j_ofF (fun _ _ _ _ e => lst_fresh e) P, fun _ => P⟩
    · cases h
  | .nw e, X, W, Γ, pe, k, h => by
    rw [ckE.eq_def] at h; dsimp only at h
    obtain ⟨h1, h2⟩ := and2 h
    exact ⟨j_nw ((sndE e k h2).2 h1), fun z => by cases z⟩
  | .disp _, X, W, Γ, pe, k, h => by
    rw [ckE.eq_def] at h; dsimp only at h
    cases h
  | .bin op a b, X, W, Γ, pe, k, h => by
    rw [ckE.eq_def] at h; dsimp only at h
    split at h
    · rename_i qa pop qb qos
      obtain ⟨h1, h3⟩ := and2 h
      obtain ⟨h1, h2⟩ := and2 h1
      have h1 := of_decide_eq_true h1
      have pa := (sndE a k h2).1
      have pb := (sndE b k h3).1
      refine ⟨by rw [ev_bin]; exact j_bin (o_bin k.cok.K h1) pa pb, fun z => ?_⟩
      cases op <;> first | (cases z; done) | skip
      cases pop <;> first | (cases h1; done) | skip
      exact j_binF o_mulL pa pb
    · cases h
  | .neg a, X, W, Γ, pe, k, h => by
    rw [ckE.eq_def] at h; dsimp only at h
    split at h
    · exact ⟨j_neg (sndE a k h).1, fun z => by cases z⟩
    · cases h
  | .notE a, X, W, Γ, pe, k, h => by
    rw [ckE.eq_def] at h; dsimp only at h
    split at h
    · exact ⟨j_not k.cok.K (sndE a k h).1, fun z => by cases z⟩
    · cases h
  | .andE es, X, W, Γ, pe, k, h => by
    rw [ckE.eq_def] at h; dsimp only at h
    split at h
    · obtain ⟨h1, h2⟩ := and2 h
      exact ⟨by rw [ev_andE]; exact sndAnd es k h1 (by simpa using h2) _, fun z => by cases z⟩
    · cases h
  | .orE es, X, W, Γ, pe, k, h => by
    rw [ckE.eq_def] at h; dsimp only at h
    split at h
    · obtain ⟨h1, h2⟩ := and2 h
      exact ⟨by rw [ev_orE]; exact sndOr es k h1 (by simpa using h2) _, fun z => by cases z⟩
    · cases h
  | .cmp op a b, X, W, Γ, pe, k, h => by
    rw [ckE.eq_def] at h; dsimp only at h
    split at h
    · obtain ⟨h1, h4⟩ := and2 h
      obtain ⟨h1, h3⟩ := and2 h1
      obtain ⟨h1, h2⟩ := and2 h1
      have h1 := of_decide_eq_true h1
      exact ⟨by rw [ev_cmp]; exact j_cmp (o_cmp k.cok.K (rm_ok k) h1) (sndE a k h2).1 (sndE b k h3).1 (plain_behind h4), fun z => by cases z⟩
    · cases h
  | .chain o1 o2 a b c, X, W, Γ, pe, k, h => by
    rw [ckE.eq_def] at h; dsimp only at h
    split at h
    · obtain ⟨h1, h6⟩ := and2 h
      obtain ⟨h1, h5⟩ := and2 h1
      obtain ⟨h1, h4⟩ := and2 h1
      obtain ⟨h1, h3⟩ := and2 h1
      obtain ⟨h1, h2⟩ := and2 h1
      have h1 := of_decide_eq_true h1
      have h2 := of_decide_eq_true h2
      exact ⟨j_chain (o_cmp k.cok.K (rm_ok k) h1) (o_cmp k.cok.K (rm_ok k) h2) (sndE a k h3).1 (sndE b k h4).1 (sndE c k h5).1 (plain_behind h6), fun z => by cases z⟩
    · cases h
  | .ife t a b, X, W, Γ, pe, k, h => by
    rw [ckE.eq_def] at h; dsimp only at h
    split at h
    · obtain ⟨h1, h3⟩ := and2 h
      obtain ⟨h1, h2⟩ := and2 h1
      exact ⟨j_ife (sndT t k h1) (sndE a k h2).1 (sndE b k h3).1, fun z => by cases z⟩
    · cases h
  | .ix a b, X, W, Γ, pe, k, h => by
    rw [ckE.eq_def] at h; dsimp only at h
    split at h
    · obtain ⟨h1, h3⟩ := and2 h
      obtain ⟨h1, h2⟩ := and2 h1
      exact ⟨j_ixG k (sndE a k h1).1 (sndE b k h2).1 h3, fun z => by cases z⟩
    · cases h
  | .sl a lo hi, X, W, Γ, pe, k, h => by
    rw [ckE.eq_def] at h; dsimp only at h
    split at h
    · rename_i pa plo phi p1 p2
      obtain ⟨h1, h3⟩ := and2 h
      obtain ⟨h1, h2⟩ := and2 h1
      have hl : PO X plo (RdO g W fun env h => (ev C lo env h).bind (isP lo)) := by
        cases plo with
        | none =>
          have e := noneE_c h2
          subst e
          exact j_oNone C
        | some p =>
          obtain ⟨h4, h5⟩ := and2 h2
          exact j_oSome (by simpa using h4) (sndE lo k h5).1
      have hh : PO X phi (RdO g W fun env h => (ev C hi env h).bind (isP hi)) := by
        cases phi with
        | none =>
          have e := noneE_c h3
          subst e
          exact j_oNone C
        | some p =>
          obtain ⟨h4, h5⟩ := and2 h3
          exact j_oSome (by simpa using h4) (sndE hi k h5).1
      exact ⟨j_sl (o_sl k.cok.K) (sndE a k h1).1 hl hh, fun z => by cases z⟩
    · cases h
  | .isi a ts, X, W, Γ, pe, k, h => by
    rw [ckE.eq_def] at h; dsimp only at h
    split at h
    · obtain ⟨h1, h6⟩ := and2 h
      obtain ⟨h1, h5⟩ := and2 h1
      obtain ⟨h1, h4⟩ := and2 h1
      obtain ⟨h1, h3⟩ := and2 h1
      obtain ⟨h1, h2⟩ := and2 h1
      have e := eq_of_beq h1
      subst e
      exact ⟨snd_isi k h2 (sndE a k h3).1 h4 h5 h6, fun z => by cases z⟩
    · cases h
  | .line _, X, W, Γ, pe, k, h => by
    rw [ckE.eq_def] at h; dsimp only at h
    cases h
  | .call f es, X, W, Γ, pe, k, h => by
    rw [ckE.eq_def] at h; dsimp only at h
    split at h
    · obtain ⟨h1, h4⟩ := and2 h
      obtain ⟨h1, h3⟩ := and2 h1
      obtain ⟨h1, h2⟩ := and2 h1
      unfold fnT at h3
      split at h3
      · rename_i e
        have ef := eq_of_beq h3
        subst ef
        obtain ⟨hm, hd⟩ := k.tb _ _ e
        have pl := es_plain h4
        exact ⟨j_call k.cok (k.fns f hd) (gl_ok k h1) hm (sndEs es k h4) (nm_ok h2).1 (star_plain (pl _ List.mem_cons_self)) (back_any fun q hq => pl q (List.mem_cons_of_mem _ hq)), fun z => by cases z⟩
      · cases h3
    · cases h
  | .callv i es, X, W, Γ, pe, k, h => by
    rw [ckE.eq_def] at h; dsimp only at h
    split at h
    · obtain ⟨h1, h4⟩ := and2 h
      obtain ⟨h1, h3⟩ := and2 h1
      obtain ⟨h1, h2⟩ := and2 h1
      have n := nm_ok h3
      have pl := es_plain h4
      exact ⟨j_callv k.cok k.fns (slot_ok k h1) (vis_ok k h2) (sndEs es k h4) n.1 n.2.1 (star_plain (pl _ List.mem_cons_self)) (back_any fun q hq => pl q (List.mem_cons_of_mem _ hq)), fun z => by cases z⟩
    · cases h
  | .bi b es, X, W, Γ, pe, k, h => by
    rw [ckE.eq_def] at h; dsimp only at h
    split at h
    · obtain ⟨h1, h3⟩ := and2 h
      obtain ⟨h1, h2⟩ := and2 h1
      exact snd_bi k h1 h2 (sndEs es k h3) (es_plain h3)
    · cases h
  | .meth m a es, X, W, Γ, pe, k, h => by
    rw [ckE.eq_def] at h; dsimp only at h
    split at h
    · obtain ⟨h1, h6⟩ := and2 h
      obtain ⟨h1, h5⟩ := and2 h1
      obtain ⟨h1, h4⟩ := and2 h1
      obtain ⟨h1, h3⟩ := and2 h1
      obtain ⟨h1, h2⟩ := and2 h1
      exact ⟨snd_meth k (of_decide_eq_true h1) h2 h3 (sndE a k h4).1 h5 (sndEs es k h5) (es_plain h5) (of_decide_eq_true h6), fun z => by cases z⟩
    · cases h
  | .lc own is tp it ifs e, X, W, Γ, pe, k, h => by
    rw [ckE.eq_def] at h; dsimp only at h
    split at h
    · rename_i pelt ptg piter pifs scope pos
      obtain ⟨h1, h7⟩ := and2 h
      obtain ⟨h1, h6⟩ := and2 h1
      obtain ⟨h1, h5⟩ := and2 h1
      obtain ⟨h1, h4⟩ := and2 h1
      obtain ⟨h1, h3⟩ := and2 h1
      obtain ⟨h1, h2⟩ := and2 h1
      have ok : BlkOk X.N X.env.scope scope (ownB Γ own) := by
        rw [k.N, k.sc]
        exact blkOk_by h1
      have B := fun s H Ca cl fp => blk_ok k s H scope Ca cl fp ok.kind
      have P := j_lc (pos := pos) (W := W) k.cok.calm k.cok.nd (by rw [own_map]; exact sub_mem h2) (sndIt it k rfl h4) ok (fun s H Ca cl fp => snd_tg (B s H Ca cl fp) h3) (fun s H Ca cl fp => sndTl ifs (B s H Ca cl fp) h6 (of_decide_eq_true h5)) (fun s H Ca cl fp => (sndE e (B s H Ca cl fp) h7).1) (itFold it h4)
      rw [own_map] at P
      exact ⟨j_ofF (fun _ _ _ _ e => lc_fresh e) P, fun _ => P⟩
    · cases h
  | .lc2 _ _ _ _ _ _, X, W, Γ, pe, k, h => by
    rw [ckE.eq_def] at h; dsimp only at h
    cases h
theorem sndEs : ∀ (es : List E) {X : Cx} {W : WX} {Γ : Kx} {pes : List Expr}, Xok g l X W C tb Γ → ckEs tb es Γ pes = true → PA X pes (RdA g W (evs C es))
  | [], X, W, Γ, pes, k, h => by
    rw [ckEs.eq_def] at h; dsimp only at h
    split at h
    · exact j_nil C
    · cases h
  | e :: es, X, W, Γ, pes, k, h => by
    rw [ckEs.eq_def] at h; dsimp only at h
    split at h
    · cases h
    · obtain ⟨h1, h3⟩ := and2 h
      obtain ⟨h1, h2⟩ := and2 h1
      exact j_cons (sndE e k h1).1 (sndEs es k h3) (star_plain h2)
theorem sndAnd : ∀ (es : List E) {X : Cx} {W : WX} {Γ : Kx} {pes : List Expr}, Xok g l X W C tb Γ → ckEs tb es Γ pes = true → es ≠ [] → ∀ pos, PE X (.BoolOp .And pes pos) (RdE g W (evAnd C es))
  | [], X, W, Γ, pes, k, h, n, pos => absurd rfl n
  | [e], X, W, Γ, pes, k, h, n, pos => by
    rw [ckEs.eq_def] at h; dsimp only at h
    split at h
    · cases h
    · obtain ⟨h1, h3⟩ := and2 h
      obtain ⟨h1, h2⟩ := and2 h1
      rw [ckEs.eq_def] at h3; dsimp only at h3
      split at h3
      · exact j_and1 (sndE e k h1).1
      · cases h3
  | e :: e2 :: es, X, W, Γ, pes, k, h, n, pos => by
    rw [ckEs.eq_def] at h; dsimp only at h
    split at h
    · cases h
    · rename_i p ps
      obtain ⟨h1, h3⟩ := and2 h
      obtain ⟨h1, h2⟩ := and2 h1
      cases ps with
      | nil => rw [ckEs.eq_def] at h3; dsimp only at h3; cases h3
      | cons p2 ps => exact j_and k.cok.K (sndE e k h1).1 (sndAnd (e2 :: es) k h3 (by simp) pos)
theorem sndOr : ∀ (es : List E) {X : Cx} {W : WX} {Γ : Kx} {pes : List Expr}, Xok g l X W C tb Γ → ckEs tb es Γ pes = true → es ≠ [] → ∀ pos, PE X (.BoolOp .Or pes pos) (RdE g W (evOr C es))
  | [], X, W, Γ, pes, k, h, n, pos => absurd rfl n
  | [e], X, W, Γ, pes, k, h, n, pos => by
    rw [ckEs.eq_def] at h; dsimp only at h
    split at h
    · cases h
    · obtain ⟨h1, h3⟩ := and2 h
      obtain ⟨h1, h2⟩ := and2 h1
      rw [ckEs.eq_def] at h3; dsimp only at h3
      split at h3
      · exact j_or1 (sndE e k h1).1
      · cases h3
  | e :: e2 :: es, X, W, Γ, pes, k, h, n, pos => by
    rw [ckEs.eq_def] at h; dsimp only at h
    split at h
    · cases h
    · rename_i p ps
      obtain ⟨h1, h3⟩ := and2 h
      obtain ⟨h1, h2⟩ := and2 h1
      cases ps with
      | nil => rw [ckEs.eq_def] at h3; dsimp only at h3; cases h3
      | cons p2 ps => exact j_or k.cok.K (sndE e k h1).1 (sndOr (e2 :: es) k h3 (by simp) pos)
theorem sndT : ∀ (t : T) {X : Cx} {W : WX} {Γ : Kx} {pe : Expr}, Xok g l X W C tb Γ → ckT tb t Γ pe = true → PT X pe (RdT g W (evT C t))
  | .e (.cmp op a b), X, W, Γ, pe, k, h => by
    rw [ckT.eq_def] at h; dsimp only at h
    obtain ⟨_, h⟩ := and2 h
    rw [ckE.eq_def] at h; dsimp only at h
    split at h
    · obtain ⟨h1, h4⟩ := and2 h
      obtain ⟨h1, h3⟩ := and2 h1
      obtain ⟨h1, h2⟩ := and2 h1
      have h1 := of_decide_eq_true h1
      exact j_tCmp (o_cmp k.cok.K (rm_ok k) h1) (sndE a k h2).1 (sndE b k h3).1 (plain_behind h4)
    · cases h
  | .e (.chain o1 o2 a b c), X, W, Γ, pe, k, h => by
    rw [ckT.eq_def] at h; dsimp only at h
    obtain ⟨_, h⟩ := and2 h
    rw [ckE.eq_def] at h; dsimp only at h
    split at h
    · obtain ⟨h1, h6⟩ := and2 h
      obtain ⟨h1, h5⟩ := and2 h1
      obtain ⟨h1, h4⟩ := and2 h1
      obtain ⟨h1, h3⟩ := and2 h1
      obtain ⟨h1, h2⟩ := and2 h1
      have h1 := of_decide_eq_true h1
      have h2 := of_decide_eq_true h2
      exact j_tChain (o_cmp k.cok.K (rm_ok k) h1) (o_cmp k.cok.K (rm_ok k) h2) (sndE a k h3).1 (sndE b k h4).1 (sndE c k h5).1 (plain_behind h6)
    · cases h
  | .e a, X, W, Γ, pe, k, h => by
    rw [ckT.eq_def] at h; dsimp only at h
    obtain ⟨h1, h2⟩ := and2 h
    have P := (sndE a k h2).1
    split at h1
    · cases a <;> first | (cases h1; done) | skip
      · rw [ckE.eq_def] at h2; dsimp only at h2
        split at h2
        · rename_i heq
          cases heq
          obtain ⟨h2, h6⟩ := and2 h2
          obtain ⟨h2, h5⟩ := and2 h2
          obtain ⟨h2, h4⟩ := and2 h2
          have h2 := of_decide_eq_true h2
          exact j_tCmp (o_cmp k.cok.K (rm_ok k) h2) (sndE _ k h4).1 (sndE _ k h5).1 (plain_behind h6)
        · cases h2
      · rw [ckE.eq_def] at h2; dsimp only at h2
        split at h2
        · rename_i heq
          cases heq
          obtain ⟨h1, h6⟩ := and2 h2
          obtain ⟨h1, h5⟩ := and2 h1
          obtain ⟨h1, h4⟩ := and2 h1
          obtain ⟨h1, h3⟩ := and2 h1
          obtain ⟨h1, h2⟩ := and2 h1
          have h1 := of_decide_eq_true h1
          have h2 := of_decide_eq_true h2
          exact j_tChain (o_cmp k.cok.K (rm_ok k) h1) (o_cmp k.cok.K (rm_ok k) h2) (sndE _ k h3).1 (sndE _ k h4).1 (sndE _ k h5).1 (plain_behind h6)
        · cases h2
    · exact j_tE k.cok.K P (isTrue_tPlain h1)
  | .not t, X, W, Γ, pe, k, h => by
    rw [ckT.eq_def] at h; dsimp only at h
    split at h
    · exact j_tNot (sndT t k h)
    · cases h
  | .and ts, X, W, Γ, pe, k, h => by
    rw [ckT.eq_def] at h; dsimp only at h
    split at h
    · obtain ⟨h1, h2⟩ := and2 h
      rw [evT_and]
      exact (sndWAnd ts k h1 (by simpa using h2) _).pt
    · cases h
  | .or ts, X, W, Γ, pe, k, h => by
    rw [ckT.eq_def] at h; dsimp only at h
    split at h
    · obtain ⟨h1, h2⟩ := and2 h
      rw [evT_or]
      exact (sndWOr ts k h1 (by simpa using h2) _).pt
    · cases h
  | .ife t a b, X, W, Γ, pe, k, h => by
    rw [ckT.eq_def] at h; dsimp only at h
    split at h
    · obtain ⟨h1, h3⟩ := and2 h
      obtain ⟨h1, h2⟩ := and2 h1
      exact j_tIfe (sndT t k h1) (sndT a k h2) (sndT b k h3)
    · cases h
theorem sndWAnd : ∀ (ts : List T) {X : Cx} {W : WX} {Γ : Kx} {pes : List Expr}, Xok g l X W C tb Γ → ckTs tb ts Γ pes = true → ts ≠ [] → ∀ pos, PW X (.BoolOp .And pes pos) (RdT g W (evAll C ts))
  | [], X, W, Γ, pes, k, h, n, pos => absurd rfl n
  | [t], X, W, Γ, pes, k, h, n, pos => by
    rw [ckTs.eq_def] at h; dsimp only at h
    split at h
    · cases h
    · obtain ⟨h1, h3⟩ := and2 h
      rw [ckTs.eq_def] at h3; dsimp only at h3
      split at h3
      · exact j_wAnd1 (sndT t k h1)
      · cases h3
  | t :: t2 :: ts, X, W, Γ, pes, k, h, n, pos => by
    rw [ckTs.eq_def] at h; dsimp only at h
    split at h
    · cases h
    · rename_i p ps
      obtain ⟨h1, h3⟩ := and2 h
      cases ps with
      | nil => rw [ckTs.eq_def] at h3; dsimp only at h3; cases h3
      | cons p2 ps => exact j_wAnd (sndT t k h1) (sndWAnd (t2 :: ts) k h3 (by simp) pos)
theorem sndWOr : ∀ (ts : List T) {X : Cx} {W : WX} {Γ : Kx} {pes : List Expr}, Xok g l X W C tb Γ → ckTs tb ts Γ pes = true → ts ≠ [] → ∀ pos, PW X (.BoolOp .Or pes pos) (RdT g W (evAny C ts))
  | [], X, W, Γ, pes, k, h, n, pos => absurd rfl n
  | [t], X, W, Γ, pes, k, h, n, pos => by
    rw [ckTs.eq_def] at h; dsimp only at h
    split at h
    · cases h
    · obtain ⟨h1, h3⟩ := and2 h
      rw [ckTs.eq_def] at h3; dsimp only at h3
      split at h3
      · exact j_wOr1 (sndT t k h1)
      · cases h3
  | t :: t2 :: ts, X, W, Γ, pes, k, h, n, pos => by
    rw [ckTs.eq_def] at h; dsimp only at h
    split at h
    · cases h
    · rename_i p ps
      obtain ⟨h1, h3⟩ := and2 h
      cases ps with
      | nil => rw [ckTs.eq_def] at h3; dsimp only at h3; cases h3
      | cons p2 ps => exact j_wOr (sndT t k h1) (sndWOr (t2 :: ts) k h3 (by simp) pos)
theorem sndTl : ∀ (ts : List T) {X : Cx} {W : WX} {Γ : Kx} {pes : List Expr}, Xok g l X W C tb Γ → ckTs tb ts Γ pes = true → pes.length ≤ 1 → PTs X pes (RdT g W (evAll C ts))
  | [], X, W, Γ, pes, k, h, n => by
    rw [ckTs.eq_def] at h; dsimp only at h
    split at h
    · refine ptsImp pts_nil fun σ H Q ⟨m, env, hh, s, p⟩ => ?_
      rw [evAll] at p
      exact p m H (Ext.refl s.rel)
    · cases h
  | [t], X, W, Γ, pes, k, h, n => by
    rw [ckTs.eq_def] at h; dsimp only at h
    split at h
    · cases h
    · obtain ⟨h1, h3⟩ := and2 h
      rw [ckTs.eq_def] at h3; dsimp only at h3
      split at h3
      · refine ptsImp (pts_one (sndT t k h1)) fun σ H Q ⟨m, env, hh, s, p⟩ => ?_
        rw [evAll] at p
        refine ⟨m, env, hh, s, (Post.bind s.rel p).mono fun b h1 m1 H1 e1 p1 => ?_⟩
        cases b with
        | true => rw [if_pos rfl, evAll] at p1; exact p1 m1 H1 (Ext.refl e1.rel)
        | false => exact p1 m1 H1 (Ext.refl e1.rel)
      · cases h3
  | t :: t2 :: ts, X, W, Γ, pes, k, h, n => by
    rw [ckTs.eq_def] at h; dsimp only at h
    split at h
    · cases h
    · rename_i p ps
      obtain ⟨h1, h3⟩ := and2 h
      cases ps with
      | nil => rw [ckTs.eq_def] at h3; dsimp only at h3; cases h3
      | cons p2 ps => simp only [List.length_cons] at n; omega
theorem sndIt : ∀ (it : Lad.It) {X : Cx} {W : WX} {Γ : Kx} {tp : Bool} {tg pe : Expr}, Xok g l X W C tb Γ → isTupE tg = tp → ckIt tb it Γ tp pe = true → PI X tg pe (RdI g W (evIt C it))
  | .sq e, X, W, Γ, tp, tg, pe, k, ht, h => by
    rw [ckIt.eq_def] at h; dsimp only at h
    exact j_iSq k.cok.K (sndE e k (and2 h).1).1
  | .rng1 a, X, W, Γ, tp, tg, pe, k, ht, h => by
    rw [ckIt.eq_def] at h; dsimp only at h
    split at h
    · obtain ⟨h1, h4⟩ := and2 h
      obtain ⟨h1, h3⟩ := and2 h1
      obtain ⟨h1, h2⟩ := and2 h1
      have e := eq_of_beq h1
      subst e
      obtain ⟨b1, b2, _, _⟩ := blt_ok k h2
      exact j_iRng1 b1 b2 (sndE a k h3).1 (star_plain h4)
    · cases h
  | .rng2 a b, X, W, Γ, tp, tg, pe, k, ht, h => by
    rw [ckIt.eq_def] at h; dsimp only at h
    split at h
    · obtain ⟨h1, h6⟩ := and2 h
      obtain ⟨h1, h5⟩ := and2 h1
      obtain ⟨h1, h4⟩ := and2 h1
      obtain ⟨h1, h3⟩ := and2 h1
      obtain ⟨h1, h2⟩ := and2 h1
      have e := eq_of_beq h1
      subst e
      obtain ⟨b1, b2, _, _⟩ := blt_ok k h2
      exact j_iRng2 b1 b2 (sndE a k h3).1 (sndE b k h5).1 (by rw [star_plain h4, star_plain h6]; rfl) (star_plain h6)
    · cases h
  | .zip a b, X, W, Γ, tp, tg, pe, k, ht, h => by
    rw [ckIt.eq_def] at h; dsimp only at h
    split at h
    · obtain ⟨h1, h6⟩ := and2 h
      obtain ⟨h1, h5⟩ := and2 h1
      obtain ⟨h1, h4⟩ := and2 h1
      obtain ⟨h1, h3⟩ := and2 h1
      obtain ⟨h1, h2⟩ := and2 h1
      obtain ⟨h0, h1⟩ := and2 h1
      have e := eq_of_beq h1
      subst e
      obtain ⟨b1, b2, _, _⟩ := blt_ok k h2
      rw [← ht] at h0
      cases tg <;> first | (cases h0; done) | skip
      exact j_iZip k.cok.K b1 b2 (sndE a k h3).1 (sndE b k h5).1 (star_plain h4) (star_plain h6) (back_any fun q hq => List.mem_singleton.mp hq ▸ h6)
    · cases h
  | .enum a, X, W, Γ, tp, tg, pe, k, ht, h => by
    rw [ckIt.eq_def] at h; dsimp only at h
    split at h
    · obtain ⟨h1, h4⟩ := and2 h
      obtain ⟨h1, h3⟩ := and2 h1
      obtain ⟨h1, h2⟩ := and2 h1
      obtain ⟨h0, h1⟩ := and2 h1
      have e := eq_of_beq h1
      subst e
      obtain ⟨b1, b2, _, _⟩ := blt_ok k h2
      rw [← ht] at h0
      cases tg <;> first | (cases h0; done) | skip
      exact j_iEnum k.cok.K b1 b2 (sndE a k h3).1 (star_plain h4)
    · cases h
  | .rev _, X, W, Γ, tp, tg, pe, k, ht, h => by
    rw [ckIt.eq_def] at h; dsimp only at h
    cases h
end
end
end Lad
set_option Elab.async false
set_option linter.all false
set_option maxRecDepth 100000
set_option maxHeartbeats 8000000
/-! Raising, catching. -/
namespace Lad
open PySem PySem.Spec PyProof.Rows L2
/-! ### X() -/
theorem pmk_own0 {X : Cx} {Ca : Addr} {bmB : List Value} {B newId initId : String} {x : PySem.Str} {p pos : Pos} (F : ExcBaseFacts B newId initId bmB) (q : PySem.W.excIn X.K Ca bmB newId = true) (gC : X.mg x = some (.ref Ca)) (kC : PySem.W.keepIn X.K (.ref Ca) = true) (r : Raises X (.ref Ca)) (hg : Gl X x)
    (hdb : (x == ("__debug__" : PySem.Str)) = false) : PMk X (.Call (.Name x p) [] [] pos) (fun _ H Q => Q (.ref Ca) none H) := by
  intro pins s σ H Q I h
  refine wpAny_Call_Name_kw (ld_glob I hg gC ?_ hdb)
  refine PySem.W.callWith_K0 I.kIn kC ?_
  show wpAny _ _ (call (.ref Ca) []) _ _ _
  obtain ⟨bm, N, nm, qn, bs, hdct, sn, sub, ab, col, dd, k0, k1, k2, k3, k5, mN, hC, hN, hni, T⟩ := exc_obj I.kIn q
  refine wpAny_call_exc_subT F T hC hN hni (fun h' e hm => ?_) (by show 0 ≤ sizeLine; exact Nat.zero_le _)
  exact mk_of I hm r h (I.hok.gone hm.new)
/-! ### several clauses with names -/
def wManyAs (K : PySem.W.Frag) (Wout : WX) (D : Ends) : List (Value × Nat × (Addr → Value → Option Addr → TS)) → WX
  | [] => Wout
  | (c, i, ts) :: r => fun cls d σ H => ∃ b, PySem.W.exmOne K cls c = some b ∧
      (b = true → ∀ a, H a = none → ts a cls d { nx := fun σ' H' => D.nx (σ'.set i none) H', rt := D.rt, bk := fun σ' H' => D.bk (σ'.set i none) H', ct := fun σ' H' => D.ct (σ'.set i none) H' } (σ.set i (some (.ref a))) H) ∧
      (b = false → wManyAs K Wout D r cls d σ H)
inductive HdsAs (X : Cx) : List ExceptHandler → List (Value × Nat × (Addr → Value → Option Addr → TS)) → Prop
  | nil : HdsAs X [] []
  | cons {x n : PySem.Str} {c : Value} {i : Nat} {ts : Addr → Value → Option Addr → TS} {b₀ : Stmt} {suite : List Stmt} {np pos' : Pos} {hds : List ExceptHandler} {l : List (Value × Nat × (Addr → Value → Option Addr → TS))} (hi : X.N[i]? = some n) (hln : X.env.kindOf n = some .local) (hc : Names X x c)
      (hsu : ∀ (a : Addr) (oe : Obj) (cls : Value) (d : Option Addr) (pn : List (Addr × Obj)), Zc cls d oe → (∃ vs, oe.data = .fields vs) → PSs (X.suite a ((a, oe) :: pn)) (b₀ :: suite) (ts a cls d)) (r : HdsAs X hds l) :
      HdsAs X (.ExceptHandler (some (.Name x np)) (some n) (b₀ :: suite) pos' :: hds) ((c, i, ts) :: l)
section
variable {X : Cx} {body : List Stmt} {h₀ : ExceptHandler} {hds : List ExceptHandler} {l : List (Value × Nat × (Addr → Value → Option Addr → TS))} {pos : Pos} {tb : WX → TS} {Wout : WX}
theorem ps_try_manyAs (hs : X.stack = X.env :: X.outer) (hf : X.env.frame = some X.env.locals) (hN : X.N.Nodup) (tk : Takes X Wout)
    (hb : ∀ (W : WX) (pn : List (Addr × Obj)) (xe : Value → Shared → Prop), Takes (X.tr pn xe) W → PassesOwn (model X.prog X.w) X.A X.env xe → PSs (X.tr pn xe) body (tb W))
    (hh : HdsAs X (h₀ :: hds) l) : PS X (.Try body (h₀ :: hds) [] [] pos) (fun D σ H => tb (wManyAs X.K Wout D l) D σ H) := by
  refine ⟨fun pn0 s σ H D I h => ?_⟩
  have ok := I.ok
  have hFr : X.A.frames = some (X.env :: X.outer) := by rw [ok.frames, hs]
  refine wpAny_Try_except ?_
  refine wpAny_mono ((hb (wManyAs X.K Wout D l) (X.pn ++ pn0) (fun e s₁ => wpAny (model X.prog X.w) X.A (noteFrame e X.env) (fun _ s₂ => wpAny (model X.prog X.w) X.A (setFlight e none) (fun _ s₃ =>
    wpAny (model X.prog X.w) X.A (handleBy e X.env (h₀ :: hds)) (SP X pn0 D) X.xe s₃) X.xe s₂) X.xe s₁) (fun u s' xx => ?_) PassesOwn.looking).run [] s σ H D (I.toTry _) h) (fun f s1 hz0 => ?_) (fun e s1 he => he)
  · obtain ⟨a, Bd, sx, py, τ, Hn, kl, d, rfl, Jy, nB, up, sky, nA, oS, aG, w⟩ := xx
    have Jx : Inv X pn0 τ Hn sx := Jy.ofTry ok
    have skz : Sky Bd (X.env :: X.outer) a (Zc kl d) X.env.locals s'.heap := by rw [← hs]; exact sky
    show wpAny (model X.prog X.w) X.A (noteFrame (.ref a) X.env) _ _ _
    refine Sky.land Zc.steady hFr hf skz fun hl ld ul => ?_
    have Jl : Inv X pn0 τ Hn { s' with heap := hl } := Jx.landed nB ld.1 (up.trans ul) oS aG
    obtain ⟨ol, vl, hel, hzl, hdl⟩ := ld.there
    have offOf : ∀ {h : Heap} {o : Obj} {vs : Array Value}, h.FunFrames Bd (X.env :: X.outer) → h.get? a = some o → o.data = .fields vs → a ∉ frs (X.env :: X.outer) := fun {h o vs} ff e dd hMm => by
      obtain ⟨_, o2, e2, hnf⟩ := ff.mem hMm
      rw [e] at e2
      cases e2
      exact hnf _ dd
    have offF := offOf ld.2.2.1 hel hdl
    have offL : a ≠ X.env.locals := fun z => offF (List.mem_filterMap.mpr ⟨X.env, List.mem_cons_self, by rw [hf, z]⟩)
    have offG : a ∉ X.fs := fun hMm => by
      obtain ⟨e, he, q⟩ := List.mem_filterMap.mp hMm
      exact offF (List.mem_filterMap.mpr ⟨e, List.mem_cons_of_mem _ he, q⟩)
    have Sl := Jl.suite hel hdl nA offL offG
    have go : ∀ {hds' : List ExceptHandler} {l' : List (Value × Nat × (Addr → Value → Option Addr → TS))}, HdsAs X hds' l' → wManyAs X.K Wout D l' kl d τ Hn →
        wpAny (model X.prog X.w) X.A (handleBy (.ref a) X.env hds') (SP X pn0 D) X.xe { s' with heap := hl } := by
      intro hds' l' hk
      induction hk with
      | nil =>
        intro w
        refine wpAny_handleBy_nil ?_
        obtain ⟨kq1, kq2, kq3, oe, vs, Tt, oTt, tt, he, hz, hd, h1, hr⟩ := id ld
        unfold PySem.passOn
        refine wpAny_bind (wpAny_field he hd h1 ?_)
        rw [if_neg (show ¬ ((Value.ref Tt == Value.none) = true) from by simp)]
        have fn0 : wpAny (model X.prog X.w) X.A (setFlight (.ref a) X.env.frame) (fun _ s4 => wpAny (model X.prog X.w) X.A (throw (.ref a) : Sem Flow) (SP X pn0 D) X.xe s4) X.xe { s' with heap := hl } := by
          rw [hf]
          refine HandSPX.setFlight_upZ ld fun hm4 hhm um => wpAny_throw (tk _ _ ?_)
          exact ⟨a, Bd, sx, pn0, τ, Hn, kl, d, rfl, Jx, nB, (up.trans ul).trans um, .inr (.inr (by rw [hs]; exact hhm)), nA, oS, aG, w⟩
        first
          | exact wpAny_bind (wpAny_pure (wpAny_bind fn0))
          | exact wpAny_bind fn0
      | @cons x n c i ts b₀ suite np pos' hdr l2 hi hln hc hsu r ih =>
        intro w
        obtain ⟨b, hb0, hY, hN0⟩ := w
        have hLo : Loc X.env.scope n := .inl hln
        refine wpAny_handleBy_cons (codeAny_handlers_test ?_) (by intro q; cases q)
        have lk : PySem.W.Looks (model X.prog X.w) hl (typeOf (.ref a)) kl := fun A Qq Eq0 s k q => wpAny_typeOf_ref (k _ _ hel) (by rw [hzl.1]; exact q)
        have lm := PySem.W.exm_one (M := model X.prog X.w) (Jl.kIn) lk hb0
        have tst : ∀ {Qq : Value → Shared → Prop} {Eq0 : Value → Shared → Prop}, Qq c { s' with heap := hl } → wpAny (model X.prog X.w) (X.A.mark (some (.ref a))) (eval (.Name x np) X.env) Qq Eq0 { s' with heap := hl } := fun {Qq Eq0} q => by
          obtain ⟨hGg, hDb, hMm | ⟨hMm, hVv, hNn⟩⟩ := hc
          · exact ld_glob (X := X.suite a ((a, ol) :: (X.pn ++ pn0))) Sl hGg hMm q hDb
          · exact ld_blt (X := X.suite a ((a, ol) :: (X.pn ++ pn0))) Sl hGg hMm hVv q hNn hDb
        refine tst (lm.here ?_)
        cases b with
        | true =>
          refine codeAny_handlers_suite_as ?_
          refine HandSPX.lands_againZ ld fun hm4 le um => ?_
          have Jm : Inv X pn0 τ Hn { s' with heap := hm4 } := Jx.landed nB le.1 ((up.trans ul).trans um) oS aG
          obtain ⟨om, vm, hem, hzm, hdm⟩ := le.there
          have Sm := Jm.suite hem hdm nA offL offG
          refine store_ok (X := X.suite a ((a, om) :: (X.pn ++ pn0))) (v := .ref a) Sm hN hi hLo rfl (fun s50 S50 => ?_) (.inr hln)
          refine wpAny_mono ((hsu a om kl d (X.pn ++ pn0) hzm ⟨_, hdm⟩).run [] s50 _ Hn _ S50 (hY rfl a nA)) (fun f sz hz0 => ?_) (fun _ _ z => False.elim z)
          have fin2 : ∀ {σz : L2.St} {Hz : Hp} {Qq : Shared → Prop}, Inv (X.suite a ((a, om) :: (X.pn ++ pn0))) [] σz Hz sz → (∀ sy, Inv X pn0 (σz.set i none) Hz sy → Qq sy) →
              wpAny (model X.prog X.w) X.A (do bindName X.env n .none; unbindBehindTheSuite X.env n pos') (fun _ sy => Qq sy) X.xe sz := fun {σz Hz Qq} Sz hq => gone_ok (Sz.unsuite ok) hN hi hln hq
          cases f with
          | next =>
            obtain ⟨σz, Hz, Sz, qz⟩ := hz0
            exact fin2 Sz fun sy Jw => ⟨_, _, Jw, qz⟩
          | brk =>
            obtain ⟨σz, Hz, Sz, qz⟩ := hz0
            exact fin2 Sz fun sy Jw => ⟨_, _, Jw, qz⟩
          | cont =>
            obtain ⟨σz, Hz, Sz, qz⟩ := hz0
            exact fin2 Sz fun sy Jw => ⟨_, _, Jw, qz⟩
          | ret u =>
            obtain ⟨vz, σz, Hz, Sz, rz, qz⟩ := hz0
            exact fin2 Sz fun sy Jw => ⟨_, _, _, Jw, rz, qz⟩
        | false =>
          show wpAny _ X.A (handleBy (.ref a) X.env hdr) _ _ _
          exact ih (hN0 rfl)
    exact go hh w
  · cases f with
    | next =>
      obtain ⟨τ, Hn, Jy, q⟩ := hz0
      exact wpAny_execs_nil ⟨τ, Hn, Jy.ofTry ok, q⟩
    | brk =>
      obtain ⟨τ, Hn, Jy, q⟩ := hz0
      exact ⟨τ, Hn, Jy.ofTry ok, q⟩
    | cont =>
      obtain ⟨τ, Hn, Jy, q⟩ := hz0
      exact ⟨τ, Hn, Jy.ofTry ok, q⟩
    | ret u =>
      obtain ⟨v, τ, Hn, Jy, r, q⟩ := hz0
      exact ⟨v, τ, Hn, Jy.ofTry ok, r, q⟩
end
/-- what a statement's place has too -/
structure Sok (g : Gp) (l : Nat) (X : Cx) (W : WX) (C : CallT) (tb : Tb) (Γ : Kx) : Prop where
  x : Xok g l X W C tb Γ
  own : PassesOwn (model X.prog X.w) X.A X.env X.xe
  tk : Takes X W
  stk : X.stack = X.env :: X.outer
  frm : X.env.frame = some X.env.locals
  exm : ∀ c c', c < 3 → c' < 3 → PySem.W.exmOne X.K (.ref (g.xa c)) (.ref (g.xa c')) = some (c == c')
  exc : ∀ c, c < 3 → ExcC X.K (g.xa c) ∧ PySem.W.kitOne X.K (.ref (g.xa c)) (.type "ValueError") = some true
section
variable {g : Gp} {l : Nat} {X : Cx} {W : WX} {C : CallT} {tb : Tb} {Γ : Kx}
theorem tr_ok (k : Sok g l X W C tb Γ) {W' : WX} {pn : List (Addr × Obj)} {xe : Value → Shared → Prop} (tk : Takes (X.tr pn xe) W') (po : PassesOwn (model X.prog X.w) X.A X.env xe) : Sok g l (X.tr pn xe) W' C tb Γ where
  x := ⟨⟨k.x.cok.K, k.x.cok.calm, k.x.cok.nd, k.x.cok.room, fun σ => passAt tk σ⟩, k.x.N, k.x.sc, k.x.kind, k.x.fa, fun x m e => by
    have := k.x.tb x m e
    cases m <;> exact this, fun f hf => ⟨(k.x.fns f hf).ok, (k.x.fns f hf).kp⟩⟩
  own := po
  tk := tk
  stk := k.stk
  frm := k.frm
  exm := k.exm
  exc := k.exc
/-- what the clause does: slot j gets d -/
def tH (X : Cx) (g : Gp) (i j : Nat) (v : V) : Addr → Value → Option Addr → TS := fun a cls dd D σ H => ∃ c, c < 3 ∧ cls = .ref (g.xa c) ∧ dd = none ∧ σ[i]? = some (some (.ref a)) ∧ D.nx (σ.set j (some v)) H
theorem suite_ok (k : Sok g l X W C tb Γ) {i j : Nat} {n y : PySem.Str} {k1 : Const} {q1 : Nat} {d : Lad.D} {p1 p2 p3 p4 p5 p6 p7 p8 p9 : Pos} {q2 : Nat} (hi : slotB Γ i n = true) (hn : localB Γ n = true) (hnn : nmB n = true) (hj : slotB Γ j y = true) (hy : locB Γ y = true) (hc : constB d k1 = true) (hf : bltB tb Γ "isinstance" = true) (hv : bltB tb Γ "ValueError" = true) :
    ∃ v, (∀ m n H, Rep g m n H d v) ∧ ∀ (a : Addr) (oe : Obj) (cls : Value) (dd : Option Addr) (pn : List (Addr × Obj)), Zc cls dd oe → (∃ vs, oe.data = .fields vs) →
      PSs (X.suite a ((a, oe) :: pn)) [.Assign [.Name y p1] (.IfExp (.Call (.Name "isinstance" p2) [.Name n p3, .Name "ValueError" p4] [] p5) (.Constant k1 q1 p6) (.Constant .none q2 p7) p8) p9] (tH X g i j v a cls dd) := by
  obtain ⟨v, pv, rv⟩ := const_ok (g := g) (X := X) (j := q1) (pos := p6) hc
  refine ⟨v, rv, fun a oe cls dd pn hz hvs => ⟨fun pins s σ H D I ⟨c, c3, e1, e2, e3, q⟩ => ?_⟩⟩
  subst e1 e2
  obtain ⟨EC, kit⟩ := k.exc c c3
  obtain ⟨v', pv', rv'⟩ := const_ok (g := g) (X := X.suite a ((a, oe) :: pn)) (j := q1) (pos := p6) hc
  have ev' : v' = v := by
    have r1 := rv' ⟨fun _ => 0, []⟩ 0 (fun _ => none)
    have r2 := rv ⟨fun _ => 0, []⟩ 0 (fun _ => none)
    cases d <;> cases k1 <;> first | (cases hc; done) | skip
    all_goals (cases r1; cases r2; rfl)
  subst ev'
  obtain ⟨f1, f2, f3, f4⟩ := blt_ok k.x hf
  obtain ⟨g1, g2, g3, g4⟩ := blt_ok k.x hv
  have n1 := nm_ok hnn
  have vn : Vis X.env.scope n := .inl (by
    have z : X.env.kindOf n = kindB Γ n := kind_eq k.x n
    have w : kindB Γ n = some .local := eq_of_beq hn
    exact z.trans w)
  obtain ⟨l1, l2⟩ := loc_ok k.x hy
  have PB : PE (X.suite a ((a, oe) :: pn)) (.Call (.Name "isinstance" p2) [.Name n p3, .Name "ValueError" p4] [] p5) _ :=
    pe_callB (call_isE EC hz hvs) f1 f2 (by decide +kernel) (pa_cons (pe_var (slot_ok k.x hi) vn n1.1 n1.2.1) (pa_cons (pe_bltn (v := .ty "ValueError") (u := .type "ValueError") g1 g2 (by decide +kernel) rfl) pa_nil)) f4 f3
  have PI' : PE (X.suite a ((a, oe) :: pn)) (.IfExp (.Call (.Name "isinstance" p2) [.Name n p3, .Name "ValueError" p4] [] p5) (.Constant k1 q1 p6) (.Constant .none q2 p7) p8) _ := pe_ifExp (pt_val PB) pv' pe_non
  refine (pss_one (ps_set (X := X.suite a ((a, oe) :: pn)) (pos' := p1) (pos := p9) k.x.cok.nd (slot_ok k.x hj) l1 PI' rfl l2)).run pins s σ H D I ?_
  refine ⟨_, e3, _, .type "ValueError", true, rfl, fun u r => ?_, kit, true, rfl, q⟩
  exact r
/-- the clean clause -/
theorem exH_mk {c i j : Nat} {d : Lad.D} {hs : List H} {x : Xn} {env : Lad.Env} {h : Hc} (hi : i < env.length) (h4 : x.cls < 4) :
    exHs C (.mk [c] (some i) [.asg (.nm j) (.ife (.e (.isi (.var i) [.valueError])) (.c d) (.c .non))] :: hs) x env h = if x.cls = c then .next (((env.set i (some (.exc x.cls x.arg))).set j (some d)).set i none) h else exHs C hs x env h := by
  rw [exHs]
  by_cases e : x.cls = c
  · have e1 : [c].contains x.cls = true := by simp [e]
    rw [if_pos e1, if_pos e]
    have e2 : (env.set i (some (Lad.D.exc x.cls x.arg)))[i]? = some (some (.exc x.cls x.arg)) := List.getElem?_set_self hi
    have e3 : isiAny h (.exc x.cls x.arg) [.valueError] = some true := by
      unfold isiAny
      show (match some (decide (x.cls < 4)) with | some true => some true | some false => _ | none => none) = _
      rw [decide_eq_true h4]
    simp only [exSs, exS, ev, evT, e2, Rs.bind, e3, Rs.toFl, truthD, if_true, storeG, Fl.nox, Fl.drop]
  · have e1 : [c].contains x.cls = false := by simp; exact e
    rw [if_neg (by rw [e1]; exact Bool.false_ne_true), if_neg e]
end
end Lad
set_option Elab.async false
set_option linter.all false
set_option maxRecDepth 100000
set_option maxHeartbeats 8000000
/-! The check is sound: statements. -/
namespace Lad
open PySem PySem.Spec PyProof.Rows L2
section
variable {g : Gp} {l : Nat} {X : Cx} {W : WX} {C : CallT} {tb : Tb} {Γ : Kx}
theorem bk_ok (k : Xok g l X W C tb Γ) : X.env.blockKind = .function := by
  have e : X.env.scope.kind = .function := by rw [k.sc, k.kind]
  unfold PySem.Env.blockKind
  rw [e]
  rfl
theorem swap_lc (k : Xok g l X W C tb Γ) {e : Expr} {gs : List Comprehension} {sc : Scope} {p px : Pos} {x : PySem.Str} {line : Nat} : swapsWith (.ListComp e gs sc p) (some (.Name x px)) line X.env = pure (swapB Γ x px sc p) := by
  unfold swapsWith swapB
  simp only [bk_ok k, kind_eq k]
  rfl
theorem swap_no {pe : Expr} {t : Option Expr} {line : Nat} {env : PySem.Env} (h : notLC pe = true) : swapsWith pe t line env = pure false := by
  cases pe <;> first | rfl | cases h
theorem sole_no {pe t : Expr} {line : Nat} {env : PySem.Env} (h : notLC pe = true) : swapsWithSole [t] pe line env = pure false := swap_no h
theorem filt_lt {α β : Type} (f : α → Option β) : ∀ l : List α, (l.filterMap f).length ≤ l.length ∧ ((∃ x ∈ l, f x = none) → (l.filterMap f).length < l.length)
  | [] => ⟨Nat.le_refl _, fun ⟨_, h, _⟩ => by cases h⟩
  | x :: xs => by
    obtain ⟨h1, h2⟩ := filt_lt f xs
    cases e : f x with
    | none =>
      rw [List.filterMap_cons_none e]
      exact ⟨Nat.le_succ_of_le h1, fun _ => Nat.lt_succ_of_le h1⟩
    | some y =>
      rw [List.filterMap_cons_some e]
      refine ⟨Nat.succ_le_succ h1, fun ⟨z, hz, ez⟩ => ?_⟩
      rcases List.mem_cons.mp hz with w | w
      · rw [w, e] at ez; cases ez
      · exact Nat.succ_lt_succ (h2 ⟨z, w, ez⟩)
theorem stores_plain (k : Xok g l X W C tb Γ) {pts : List Expr} {pe : Expr} {kk : Nat} {tp : Pos} (h : noSwap Γ pts pe = true) : swappedStores [.Tuple pts kk tp] pe X.env = pure none := by
  cases pe <;> first | rfl | skip
  rename_i vs k2 p2
  have h' : (!(pts.length == 2 || pts.length == 3) || vs.length != pts.length || vs.all (foldedForSure 8) || pts.any (notLoc Γ)) = true := h
  unfold swappedStores
  simp only []
  split
  · rfl
  · rename_i c
    split
    · rfl
    · split
      · rfl
      · rename_i c3
        split
        · rfl
        · rename_i c4
          exfalso
          simp only [Bool.or_eq_true] at h' c c3
          rcases h' with ((z | z) | z) | z
          · exact c (.inl (.inl z))
          · exact c (.inl (.inr z))
          · exact c4 z
          · obtain ⟨t, ht, hn⟩ := List.any_eq_true.mp z
            refine c3 (.inl ?_)
            rw [bne_iff_ne]
            refine Nat.ne_of_lt ((filt_lt _ pts).2 ⟨t, ht, ?_⟩)
            cases t <;> first | (cases hn; done) | skip
            rename_i x px
            have hk : ¬ kindB Γ x = some .local := by
              have : (!(kindB Γ x == some .local)) = true := hn
              simpa using this
            show (if X.env.kindOf x == some .local && _ then some x else none) = none
            rw [kind_eq k, if_neg]
            intro w
            rw [Bool.and_eq_true] at w
            exact hk (eq_of_beq w.1)
theorem stores_sub {o i pe : Expr} {tp : Pos} {env : PySem.Env} : swappedStores [.Subscript o i tp] pe env = pure none := by
  cases pe <;> rfl
theorem local_eq (k : Xok g l X W C tb Γ) {x : PySem.Str} (h : localB Γ x = true) : X.env.kindOf x = some .local := by
  rw [kind_eq k]
  exact eq_of_beq h
def isStar : Expr → Bool
  | .Starred .. => true
  | _ => false
theorem plain_star {e : Expr} (h : plain e = true) : isStar e = false := by
  cases e <;> first | rfl | cases h
theorem stores_two (k : Xok g l X W C tb Γ) {x y : PySem.Str} {px py pt pt2 : Pos} {kt k2 : Nat} {a b : Expr} (hx : localB Γ x = true) (hy : localB Γ y = true) (hl : (px.line == py.line) = true) (hne : (x == y) = false) (ha : plain a = true) (hb : plain b = true) (f1 : [a, b].all (foldedForSure 8) = false) (f2 : [a, b].all (constantsAlone 8) = false) :
    swappedStores [.Tuple [.Name x px, .Name y py] kt pt] (.Tuple [a, b] k2 pt2) X.env = pure (some [x, y]) := by
  have e1 := local_eq k hx
  have e2 := local_eq k hy
  have s1 := plain_star ha
  have s2 := plain_star hb
  have hl' : py.line = px.line := (eq_of_beq hl).symm
  have hne' : ¬ x = y := by simpa using hne
  have hne2 : (y == x) = false := by
    apply Bool.eq_false_iff.mpr
    intro z
    exact hne' (eq_of_beq z).symm
  unfold swappedStores
  simp only [bk_ok k]
  have A : ([a, b].any fun | .Starred .. => true | _ => false) = false := by
    show (isStar a || (isStar b || false)) = false
    rw [s1, s2]; rfl
  rw [if_neg (by simp)]
  simp only [A, Bool.false_eq_true, if_false, f1, f2]
  simp [e1, e2, hl', Expr.pos, List.eraseDups_cons, hne, hne2]
  rintro (z | z)
  · exact absurd (show isStar a = true from z) (by rw [s1]; exact Bool.false_ne_true)
  · exact absurd (show isStar b = true from z) (by rw [s2]; exact Bool.false_ne_true)
theorem stores_three (k : Xok g l X W C tb Γ) {x y z : PySem.Str} {px py pz pt pt2 : Pos} {kt k2 : Nat} {a b c : Expr} (hx : localB Γ x = true) (hy : localB Γ y = true) (hz : localB Γ z = true) (hl : (px.line == py.line) = true) (hl2 : (px.line == pz.line) = true) (n1 : (x == y) = false) (n2 : (x == z) = false) (n3 : (y == z) = false) (ha : plain a = true) (hb : plain b = true) (hc : plain c = true) (f1 : [a, b, c].all (foldedForSure 8) = false) (f2 : [a, b, c].all (constantsAlone 8) = false) :
    swappedStores [.Tuple [.Name x px, .Name y py, .Name z pz] kt pt] (.Tuple [a, b, c] k2 pt2) X.env = pure (some [x, y, z]) := by
  have e1 := local_eq k hx
  have e2 := local_eq k hy
  have e3 := local_eq k hz
  have hl' : py.line = px.line := (eq_of_beq hl).symm
  have hl'' : pz.line = px.line := (eq_of_beq hl2).symm
  have sym : ∀ {p q : PySem.Str}, (p == q) = false → (q == p) = false := fun {p q} h => by
    apply Bool.eq_false_iff.mpr
    intro w
    have := eq_of_beq w
    subst this
    simp at h
  unfold swappedStores
  simp only [bk_ok k]
  have A : ([a, b, c].any fun | .Starred .. => true | _ => false) = false := by
    have fa := plain_star ha
    have fb := plain_star hb
    have fc := plain_star hc
    show (isStar a || (isStar b || (isStar c || false))) = false
    rw [fa, fb, fc]; rfl
  rw [if_neg (by simp)]
  simp only [A, Bool.false_eq_true, if_false, f1, f2]
  simp [e1, e2, e3, hl', hl'', Expr.pos, List.eraseDups_cons, n1, n2, n3, sym n1, sym n2, sym n3]
  have fa := plain_star ha
  have fb := plain_star hb
  have fc := plain_star hc
  rintro (z | z | z)
  · exact absurd (show isStar a = true from z) (by rw [fa]; exact Bool.false_ne_true)
  · exact absurd (show isStar b = true from z) (by rw [fb]; exact Bool.false_ne_true)
  · exact absurd (show isStar c = true from z) (by rw [fc]; exact Bool.false_ne_true)
theorem assign_sub {o i : Expr} {pos : Pos} {env : PySem.Env} (h : plain i = true) : ∀ v, assign (.Subscript o i pos) env v = (do
      let ov ← holding [v] (eval o env)
      let iv ← holding [v, ov] (eval i env)
      standAt pos
      holding [v, ov, iv] (setItem ov iv v)
      release [v, ov, iv] []) := by
  intro v
  cases i <;> first | rfl | cases h
/-- y = [..] on one line -/
theorem j_asgLc (k : Xok g l X W C tb Γ) {i : Nat} {x : PySem.Str} {px pos : Pos} {pe : Expr} {e : E} {sc : Scope} {p : Pos} {pelt : Expr} {gs : List Comprehension} (hp : isLC pe = some (pelt, gs, sc, p)) (he : isLcE e = true) (h : ckE tb e Γ pe = true) (hs : slotB Γ i x = true) (hw : swapB Γ x px sc p = true) :
    PS X (.Assign [.Name x px] pe pos) (RdS g W (exS C (.asg (.nm i) e))) := by
  have hl : X.env.scope.names.lookup x = some .local := by
    have z : X.env.kindOf x = kindB Γ x := kind_eq k x
    have w : kindB Γ x = some .local := by
      unfold swapB at hw
      rw [Bool.and_eq_true, Bool.and_eq_true] at hw
      exact eq_of_beq hw.1.1
    exact z.trans w
  have core : ∀ (own is : List Nat) (tp : Bool) (it : Lad.It) (ifs : List T) (c : E), ckE tb (.lc own is tp it ifs c) Γ pe = true → ∃ t, PS X (.Assign [.Name x px] pe pos) (tAsg t (gName i)) ∧ ∀ σ H Q, RdF g W (ev C (.lc own is tp it ifs c)) σ H Q → t σ H Q := by
    intro own is tp it ifs c h
    cases pe <;> first | (cases hp; done) | skip
    cases hp
    rw [ckE.eq_def] at h; dsimp only at h
    split at h
    · rename_i heq
      cases heq
      obtain ⟨h1, h7⟩ := and2 h
      obtain ⟨h1, h6⟩ := and2 h1
      obtain ⟨h1, h5⟩ := and2 h1
      obtain ⟨h1, h4⟩ := and2 h1
      obtain ⟨h1, h3⟩ := and2 h1
      obtain ⟨h1, h2⟩ := and2 h1
      have ok : BlkOk X.N X.env.scope sc (ownB Γ own) := by
        rw [k.N, k.sc]
        exact blkOk_by h1
      have B := fun s H Ca cl fp => blk_ok k s H sc Ca cl fp ok.kind
      refine ⟨_, ps_setLc (pos := p) (spos := pos) (py := px) k.cok.calm k.cok.nd (slot_ok k hs) hl (by rw [swap_lc k, hw]) (sndIt it k rfl h4) ok (fun s H Ca cl fp => snd_tg (B s H Ca cl fp) h3) (fun s H Ca cl fp => sndTl ifs (B s H Ca cl fp) h6 (of_decide_eq_true h5)) (fun s H Ca cl fp => (sndE c (B s H Ca cl fp) h7).1) (itFold it h4), fun σ H Q q => ?_⟩
      rw [own_map]
      exact lc_read (sub_mem h2) q
    · cases h
  have rd : ∀ D σ H, RdS g W (exS C (.asg (.nm i) e)) D σ H → RdE g W (ev C e) σ H fun v H1 => gName i v σ H1 D.nx := by
    rintro D σ H ⟨m, env, h, s, p⟩
    rw [exS] at p
    exact ⟨m, env, h, s, (PostF.toFl s p).mono fun d h1 m1 H1 e1 p1 v rv => p1 m1 H1 _ (Ext.refl e1.rel) ((s.ext e1).set rv)⟩
  cases e <;> first | (cases he; done) | skip
  · rename_i c
    cases c <;> first | (cases he; done) | skip
    rename_i own is tp it ifs c
    have h' : (isF (.lc own is tp it ifs c) && ckE tb (.lc own is tp it ifs c) Γ pe) = true := by
      rw [ckE.eq_def] at h; exact h
    obtain ⟨t, P, f⟩ := core own is tp it ifs c (and2 h').2
    exact psImp P fun D σ H q => f _ _ _ (rd_nw (rd D σ H q))
  · rename_i own is tp it ifs c
    obtain ⟨t, P, f⟩ := core own is tp it ifs c h
    exact psImp P fun D σ H q => f _ _ _ (rdF_E (fun _ _ _ _ e => lc_fresh e) (rd D σ H q))
/-! ### clauses -/
theorem exH_out {c i j : Nat} {d : Lad.D} {hs : List H} {x : Xn} {env : Lad.Env} {h : Hc} (hi : ¬ i < env.length) :
    exHs C (.mk [c] (some i) [.asg (.nm j) (.ife (.e (.isi (.var i) [.valueError])) (.c d) (.c .non))] :: hs) x env h = if x.cls = c then .fail else exHs C hs x env h := by
  rw [exHs]
  by_cases e : x.cls = c
  · have e1 : [c].contains x.cls = true := by simp [e]
    rw [if_pos e1, if_pos e]
    have e2 : (env.set i (some (Lad.D.exc x.cls x.arg)))[i]? = none := List.getElem?_eq_none (by rw [List.length_set]; omega)
    simp only [exSs, exS, ev, evT, e2, Rs.bind, Rs.toFl, Fl.nox, Fl.drop]
  · have e1 : [c].contains x.cls = false := by simp; exact e
    rw [if_neg (by rw [e1]; exact Bool.false_ne_true), if_neg e]
theorem set_shift {α : Type} (xs : List α) (i j : Nat) (a b c : α) (h : j ≠ i) : ((xs.set i a).set j b).set i c = (xs.set j b).set i c := by
  rw [List.set_comm a b (Ne.symm h), List.set_set]
theorem snd_Hs (k : Sok g l X W C tb Γ) : ∀ {hs : List H} {phs : List ExceptHandler}, ckHs tb Γ hs phs = true → ∃ lst, HdsAs X phs lst ∧ ∀ (D : Ends) (x : Xn) (m : AM) (env : Lad.Env) (h : Hc) (σ : L2.St) (H : Hp), Stt g m env h σ H → x.cls < 3 → x.arg = none → PostF g W m h H D (exHs C hs x env h) → wManyAs X.K W D lst (.ref (g.xa x.cls)) none σ H
  | [], [], _ => ⟨[], .nil, fun D x m env h σ H s _ ha p => by
    rw [exHs] at p
    refine p m H σ (Ext.refl s.rel) s _ _ ⟨rfl, ?_⟩
    rw [ha]⟩
  | [], _ :: _, hh => by cases hh
  | _ :: _, [], hh => by cases hh
  | hd :: hs, ph :: phs, hh => by
    have hh' : (ckH tb Γ hd ph && ckHs tb Γ hs phs) = true := hh
    obtain ⟨h1, h2⟩ := and2 hh'
    obtain ⟨lst, P, F⟩ := snd_Hs k h2
    unfold ckH at h1
    split at h1
    · rename_i c i j i' d x p1 n y p2 f p3 n' p4 v p5 p6 k1 q1 p7 q2 p8 p9 p10 p11
      obtain ⟨h1, a17⟩ := and2 h1
      obtain ⟨h1, a16⟩ := and2 h1
      obtain ⟨h1, a15⟩ := and2 h1
      obtain ⟨h1, a14⟩ := and2 h1
      obtain ⟨h1, a13⟩ := and2 h1
      obtain ⟨h1, a12⟩ := and2 h1
      obtain ⟨h1, a11⟩ := and2 h1
      obtain ⟨h1, a10⟩ := and2 h1
      obtain ⟨h1, a9⟩ := and2 h1
      obtain ⟨h1, a8⟩ := and2 h1
      obtain ⟨h1, a7⟩ := and2 h1
      obtain ⟨h1, a6⟩ := and2 h1
      obtain ⟨h1, a5⟩ := and2 h1
      obtain ⟨h1, a4⟩ := and2 h1
      obtain ⟨h1, a3⟩ := and2 h1
      obtain ⟨a1, a2⟩ := and2 h1
      have a1 := of_decide_eq_true a1
      have a2 := of_decide_eq_true a2
      have a12 := of_decide_eq_true a12
      have a8 := eq_of_beq a8
      have a14 := eq_of_beq a14
      have a16 := eq_of_beq a16
      subst a2 a8 a14 a16
      split at a3
      · rename_i c' e
        have ec := eq_of_beq a3
        subst ec
        have mn := k.x.tb _ _ e
        obtain ⟨vv, rv, hsu⟩ := suite_ok k (i := i) (j := j) (p1 := p2) (p2 := p3) (p3 := p4) (p4 := p5) (p5 := p6) (q1 := q1) (p6 := p7) (q2 := q2) (p7 := p8) (p8 := p9) (p9 := p10) a6 a7 a9 a10 a11 a13 a15 a17
        refine ⟨(.ref (g.xa c), i, tH X g i j vv) :: lst, .cons (slot_ok k.x a6) (local_eq k.x a7) ⟨gl_ok k.x a4, (nm_ok a5).1, .inl mn.1⟩ hsu P, fun D x m env h σ H s hx ha p => ?_⟩
        refine ⟨x.cls == c, k.exm _ _ hx a1, fun ht a na => ?_, fun hf => ?_⟩
        · have ec := eq_of_beq ht
          by_cases hi : i < env.length
          · rw [exH_mk hi (by omega), if_pos ec] at p
            have il : i < σ.length := by rw [← s.len]; exact hi
            refine ⟨x.cls, hx, rfl, rfl, List.getElem?_set_self il, ?_⟩
            refine p m H _ (Ext.refl s.rel) ?_
            show Stt g m (((env.set i _).set j _).set i none) h (((σ.set i _).set j _).set i none) H
            rw [set_shift _ _ _ _ _ _ a12, set_shift _ _ _ _ _ _ a12]
            exact (s.set (rv m h.length H)).unset (by rw [List.length_set]) fun q hq => List.getElem?_set_ne (Ne.symm hq)
          · rw [exH_out hi, if_pos ec] at p
            exact p.elim
        · have ne : ¬ x.cls = c := by simpa using hf
          refine F D x m env h σ H s hx ha ?_
          by_cases hi : i < env.length
          · rw [exH_mk hi (by omega), if_neg ne] at p; exact p
          · rw [exH_out hi, if_neg ne] at p; exact p
      · cases a3
    · cases h1
end
end Lad
set_option Elab.async false
set_option linter.all false
set_option maxRecDepth 100000
set_option maxHeartbeats 8000000
/-! The check is sound: statements. -/
namespace Lad
open PySem PySem.Spec PyProof.Rows L2
section
variable {g : Gp} {l : Nat} {X : Cx} {W : WX} {C : CallT} {tb : Tb} {Γ : Kx}
theorem ckEs_len : ∀ {es : List E} {pes : List Expr}, ckEs tb es Γ pes = true → es.length = pes.length
  | [], [], _ => rfl
  | [], _ :: _, h => by rw [ckEs.eq_def] at h; dsimp only at h; cases h
  | _ :: _, [], h => by rw [ckEs.eq_def] at h; dsimp only at h; cases h
  | e :: es, p :: ps, h => by
    rw [ckEs.eq_def] at h; dsimp only at h
    simp [ckEs_len (and2 h).2]
theorem snd_asgN (k : Sok g l X W C tb Γ) {i : Nat} {x : PySem.Str} {px pos : Pos} {pe : Expr} {e : E} (h1 : slotB Γ i x = true) (h2 : locB Γ x = true) (h3 : ckE tb e Γ pe = true) (h4 : (match isLC pe with
          | some (_, _, sc, p) => (swapB Γ x px sc p && isLcE e) || !(swapB Γ x px sc p)
          | none => plain pe) = true) : PS X (.Assign [.Name x px] pe pos) (RdS g W (exS C (.asg (.nm i) e))) := by
  obtain ⟨l1, l2⟩ := loc_ok k.x h2
  have P := (sndE e k.x h3).1
  cases hl : isLC pe with
  | none =>
    rw [hl] at h4
    have h4 : plain pe = true := h4
    exact j_asgN k.x.cok.nd (slot_ok k.x h1) l1 l2 P (swap_no (by unfold notLC; rw [h4, hl]; rfl))
  | some q =>
    obtain ⟨pelt, gs, sc, p⟩ := q
    rw [hl] at h4
    have h4 : ((swapB Γ x px sc p && isLcE e) || !(swapB Γ x px sc p)) = true := h4
    rcases Bool.or_eq_true _ _ ▸ h4 with z | z
    · obtain ⟨z1, z2⟩ := and2 z
      exact j_asgLc k.x hl z2 h3 h1 z1
    · refine j_asgN k.x.cok.nd (slot_ok k.x h1) l1 l2 P ?_
      cases pe <;> first | (cases hl; done) | skip
      cases hl
      rw [swap_lc k.x]
      rw [Bool.not_eq_true'] at z
      rw [z]
theorem snd_par (k : Sok g l X W C tb Γ) {is : List Nat} {pts pvs : List Expr} {es : List E} {kt k2 : Nat} {pt pt2 pos : Pos} (h1 : ckEs tb es Γ pvs = true) (h2 : ckPar Γ is pts pvs = true) : PS X (.Assign [.Tuple pts kt pt] (.Tuple pvs k2 pt2) pos) (RdS g W (exS C (.asg (.tp is) (.tup es)))) := by
  have ln := ckEs_len h1
  have PAr := sndEs es k.x h1 (W := W)
  have loc : ∀ {x : PySem.Str}, localB Γ x = true → X.env.scope.names.lookup x = some .local := fun {x} h => local_eq k.x h
  unfold ckPar at h2
  split at h2
  · rename_i i j x px y py a b
    obtain ⟨h2, a10⟩ := and2 h2
    obtain ⟨h2, a9⟩ := and2 h2
    obtain ⟨h2, a8⟩ := and2 h2
    obtain ⟨h2, a7⟩ := and2 h2
    obtain ⟨h2, a6⟩ := and2 h2
    obtain ⟨h2, a5⟩ := and2 h2
    obtain ⟨h2, a4⟩ := and2 h2
    obtain ⟨h2, a3⟩ := and2 h2
    obtain ⟨a1, a2⟩ := and2 h2
    rw [Bool.not_eq_true'] at a6 a9 a10
    have s1 := slot_ok k.x a3
    have s2 := slot_ok k.x a4
    have ne : i ≠ j := fun e => by
      subst e
      rw [s1] at s2
      cases s2
      simp at a6
    exact j_par2 k.x.cok.calm k.x.cok.nd s1 s2 ne (loc a1) (loc a2) PAr ln (stores_two k.x a1 a2 a5 a6 a7 a8 a9 a10) rfl
  · rename_i i j m x px y py z pz a b c
    obtain ⟨h2, a16⟩ := and2 h2
    obtain ⟨h2, a15⟩ := and2 h2
    obtain ⟨h2, a14⟩ := and2 h2
    obtain ⟨h2, a13⟩ := and2 h2
    obtain ⟨h2, a12⟩ := and2 h2
    obtain ⟨h2, a11⟩ := and2 h2
    obtain ⟨h2, a10⟩ := and2 h2
    obtain ⟨h2, a9⟩ := and2 h2
    obtain ⟨h2, a8⟩ := and2 h2
    obtain ⟨h2, a7⟩ := and2 h2
    obtain ⟨h2, a6⟩ := and2 h2
    obtain ⟨h2, a5⟩ := and2 h2
    obtain ⟨h2, a4⟩ := and2 h2
    obtain ⟨h2, a3⟩ := and2 h2
    obtain ⟨a1, a2⟩ := and2 h2
    rw [Bool.not_eq_true'] at a9 a10 a11 a15 a16
    have s1 := slot_ok k.x a4
    have s2 := slot_ok k.x a5
    have s3 := slot_ok k.x a6
    have ne1 : i ≠ j := fun e => by
      subst e
      rw [s1] at s2
      cases s2
      simp at a9
    have ne2 : i ≠ m := fun e => by
      subst e
      rw [s1] at s3
      cases s3
      simp at a10
    have ne3 : j ≠ m := fun e => by
      subst e
      rw [s2] at s3
      cases s3
      simp at a11
    exact j_par3 k.x.cok.calm k.x.cok.nd s1 s2 s3 ne1 ne2 ne3 (loc a1) (loc a2) (loc a3) PAr ln (stores_three k.x a1 a2 a3 a7 a8 a9 a10 a11 a12 a13 a14 a15 a16) rfl
  · cases h2
theorem sole_tup {pts : List Expr} {kt : Nat} {pt : Pos} {pe : Expr} {line : Nat} {env : PySem.Env} (h : plain pe = true) : swapsWithSole [.Tuple pts kt pt] pe line env = pure false := by
  cases pe <;> first | rfl | cases h
theorem snd_asgT (k : Sok g l X W C tb Γ) {is : List Nat} {pts : List Expr} {kt : Nat} {pt pos : Pos} {pe : Expr} {e : E} (h1 : ckE tb e Γ pe = true) (h2 : ckNames Γ is pts = true) (h3 : noSwap Γ pts pe = true) (h4 : plain pe = true) : PS X (.Assign [.Tuple pts kt pt] pe pos) (RdS g W (exS C (.asg (.tp is) e))) := by
  obtain ⟨p, l1, l2⟩ := snd_names k.x h2
  exact j_asgT (sndE e k.x h1).1 (j_gTup k.x.cok.K k.x.cok.calm p l1 l2) (sole_tup h4) (stores_plain k.x h3)
theorem exS_try {b : List S} {hs : List H} {env : Lad.Env} {h : Hc} : exS C (.tryS b hs) env h = match exSs C b env h with
    | .ex x env1 h1 => if x.cls < 3 && x.arg.isNone then exHs C hs x env1 h1 else .fail
    | r => r := by first | (rw [exS]; done) | (rw [exS]; cases exSs C b env h <;> rfl)
mutual
theorem sndS : ∀ (s : S) {X : Cx} {W : WX} {Γ : Kx} {st : Stmt}, Sok g l X W C tb Γ → ckS tb s Γ st = true → PS X st (RdS g W (exS C s))
  | .asg gg e, X, W, Γ, st, k, h => by
    rw [ckS.eq_def] at h; dsimp only at h
    split at h
    · rename_i tg pe pos
      cases gg with
      | nm i =>
        dsimp only at h
        split at h
        · obtain ⟨h, h4⟩ := and2 h
          obtain ⟨h, h3⟩ := and2 h
          obtain ⟨h1, h2⟩ := and2 h
          exact snd_asgN k h1 h2 h3 h4
        · cases h
      | tp is =>
        dsimp only at h
        split at h
        · split at h
          · rcases Bool.or_eq_true _ _ ▸ h with z | z
            · obtain ⟨z, z3⟩ := and2 z
              obtain ⟨z1, z2⟩ := and2 z
              cases e <;> first | (cases z1; done) | skip
              exact snd_par k z2 z3
            · obtain ⟨z, z3⟩ := and2 z
              obtain ⟨z1, z2⟩ := and2 z
              exact snd_asgT k z1 z2 z3 rfl
          · obtain ⟨z, z3⟩ := and2 h
            obtain ⟨z1, z2⟩ := and2 z
            have pl : plain _ = true := (and2 z3).1
            rename_i hne
            refine snd_asgT k z1 z2 ?_ pl
            cases pe <;> first | exact pl | skip
            rename_i vs k2 p2
            exact absurd rfl (hne vs k2 p2)
        · cases h
      | ix a b =>
        dsimp only at h
        split at h
        · obtain ⟨h, h5⟩ := and2 h
          obtain ⟨h, h4⟩ := and2 h
          obtain ⟨h, h3⟩ := and2 h
          obtain ⟨h1, h2⟩ := and2 h
          exact j_asgI (sndE e k.x h4).1 (sndE a k.x h1).1 (sndE b k.x h2).1 (o_set k.x.cok.K (rm_ok k.x)) (assign_sub h3) (sole_no h5) stores_sub
        · cases h
    · cases h
  | .aug i op e, X, W, Γ, st, k, h => by
    rw [ckS.eq_def] at h; dsimp only at h
    split at h
    · obtain ⟨h, h4⟩ := and2 h
      obtain ⟨h, h3⟩ := and2 h
      obtain ⟨h1, h2⟩ := and2 h
      obtain ⟨l1, l2⟩ := loc_ok k.x h3
      exact j_aug k.x.cok.nd (slot_ok k.x h2) l1 l2 (sndE e k.x h4).1 (o_aug (of_decide_eq_true h1))
    · cases h
  | .augIx _ _ _ _, X, W, Γ, st, k, h => by
    rw [ckS.eq_def] at h; dsimp only at h; cases h
  | .ifs t a b, X, W, Γ, st, k, h => by
    rw [ckS.eq_def] at h; dsimp only at h
    split at h
    · obtain ⟨h, h3⟩ := and2 h
      obtain ⟨h1, h2⟩ := and2 h
      exact j_if (sndT t k.x h1) (sndSs a k h2) (sndSs b k h3)
    · cases h
  | .whl t b, X, W, Γ, st, k, h => by
    rw [ckS.eq_def] at h; dsimp only at h
    split at h
    · obtain ⟨h1, h2⟩ := and2 h
      exact j_while k.own (sndT t k.x h1) (sndSs b k h2)
    · cases h
  | .forS is tp it b, X, W, Γ, st, k, h => by
    rw [ckS.eq_def] at h; dsimp only at h
    split at h
    · obtain ⟨h, h3⟩ := and2 h
      obtain ⟨h1, h2⟩ := and2 h
      exact j_for k.own k.x.cok.calm (sndIt it k.x rfl h2) (snd_tg k.x h1) (sndSs b k h3) (itFold it h2)
    · cases h
  | .ret e, X, W, Γ, st, k, h => by
    rw [ckS.eq_def] at h; dsimp only at h
    split at h
    · exact j_ret (sndE e k.x h).1
    · have ee := noneE_c h
      subst ee
      exact j_retN
    · cases h
  | .ex e, X, W, Γ, st, k, h => by
    rw [ckS.eq_def] at h; dsimp only at h
    split at h
    · obtain ⟨h1, h2⟩ := and2 h
      exact j_expr (sndE e k.x h1).1 (swap_no h2)
    · cases h
  | .raise c a, X, W, Γ, st, k, h => by
    rw [ckS.eq_def] at h; dsimp only at h
    split at h
    · obtain ⟨h, h5⟩ := and2 h
      obtain ⟨h, h4⟩ := and2 h
      obtain ⟨h, h3⟩ := and2 h
      obtain ⟨h1, h2⟩ := and2 h
      cases a <;> first | (cases h1; done) | skip
      unfold excT at h2
      split at h2
      · rename_i c' e
        have ec := eq_of_beq h2
        subst ec
        obtain ⟨hm, bmB, B, n1, n2, F, q, kC, r⟩ := k.x.tb _ _ e
        refine psImp (ps_raise k.x.cok.calm k.tk (pmk_own0 F q hm kC r (gl_ok k.x h3) (nm_ok h4).1)) fun D σ H ⟨m, env, hh, s, p⟩ => ?_
        rw [exS] at p
        exact p m H σ (Ext.refl s.rel) s _ _ ⟨rfl, rfl⟩
      · cases h2
    · cases h
  | .brk, X, W, Γ, st, k, h => by
    rw [ckS.eq_def] at h; dsimp only at h
    split at h
    · exact j_brk
    · cases h
  | .pass, X, W, Γ, st, k, h => by
    rw [ckS.eq_def] at h; dsimp only at h
    split at h
    · exact j_pass
    · cases h
  | .tryS b hs, X, W, Γ, st, k, h => by
    rw [ckS.eq_def] at h; dsimp only at h
    split at h
    · obtain ⟨h1, h2⟩ := and2 h
      obtain ⟨lst, P, F⟩ := snd_Hs k h2
      refine psImp (ps_try_manyAs (tb := fun W' => RdS g W' (exSs C b)) k.stk k.frm k.x.cok.nd k.tk (fun W' pn xe tk po => sndSs b (tr_ok k tk po) h1) P) fun D σ H ⟨m, env, hh, s, p⟩ => ⟨m, env, hh, s, ?_⟩
      rw [exS_try] at p
      cases e : exSs C b env hh with
      | fail => rw [e] at p; exact p
      | next env2 h2 => rw [e] at p; exact p
      | brk env2 h2 => rw [e] at p; exact p
      | cont env2 h2 => rw [e] at p; exact p
      | ret d h2 => rw [e] at p; exact p
      | ex x env2 h2 =>
        rw [e] at p
        have p2 : PostF g W m hh H D (if x.cls < 3 && x.arg.isNone then exHs C hs x env2 h2 else .fail) := p
        by_cases c : (decide (x.cls < 3) && x.arg.isNone) = true
        · rw [if_pos c] at p2
          obtain ⟨c1, c2⟩ := and2 c
          have c2 : x.arg = none := by simpa using c2
          intro m' H' σ' e1 s1 cc dd xr
          obtain ⟨r1, r2⟩ := xr
          rw [c2] at r2
          have r2 : dd = none := r2
          subst r1 r2
          exact F D x m' env2 h2 σ' H' s1 (of_decide_eq_true c1) c2 (PostF.later s.rel e1 p2)
        · rw [if_neg c] at p2
          exact p2.elim
    · cases h
theorem sndSs : ∀ (ss : List S) {X : Cx} {W : WX} {Γ : Kx} {sts : List Stmt}, Sok g l X W C tb Γ → ckSs tb ss Γ sts = true → PSs X sts (RdS g W (exSs C ss))
  | [], X, W, Γ, sts, k, h => by
    rw [ckSs.eq_def] at h; dsimp only at h
    split at h
    · exact j_sNil
    · cases h
  | s :: ss, X, W, Γ, sts, k, h => by
    rw [ckSs.eq_def] at h; dsimp only at h
    split at h
    · cases h
    · obtain ⟨h1, h2⟩ := and2 h
      exact j_sCons (sndS s k h1) (sndSs ss k h2)
end
end
end Lad
set_option Elab.async false
set_option linter.all false
set_option maxRecDepth 100000
set_option maxHeartbeats 8000000
/-! Functions: what a call leaves; the induction. -/
namespace Lad
open PySem PySem.Spec PyProof.Rows L2
/-! ### low a place -/
mutual
def D.low (n : Nat) : Lad.D → Bool
  | .ref i => decide (i < n)
  | .tup ds => D.lows n ds
  | .lst ds => D.lows n ds
  | _ => true
def D.lows (n : Nat) : List Lad.D → Bool
  | [] => true
  | d :: ds => D.low n d && D.lows n ds
end
mutual
theorem pure_below (n : Nat) : ∀ d : Lad.D, d.pure = true → D.low n d = true
  | .ref i, h => by simp [D.pure] at h
  | .tup ds, h => by simp only [D.low]; exact pures_below n ds (by simpa [D.pure] using h)
  | .lst ds, h => by simp only [D.low]; exact pures_below n ds (by simpa [D.pure] using h)
  | .non, _ => by simp [D.low]
  | .bl _, _ => by simp [D.low]
  | .int _, _ => by simp [D.low]
  | .str _, _ => by simp [D.low]
  | .scr _, _ => by simp [D.low]
  | .fn _, _ => by simp [D.low]
  | .kd _, _ => by simp [D.low]
  | .exc _ _, _ => by simp [D.low]
theorem pures_below (n : Nat) : ∀ ds : List Lad.D, D.pures ds = true → D.lows n ds = true
  | [], _ => by simp [D.lows]
  | d :: ds, h => by
    simp only [D.pures, Bool.and_eq_true] at h
    simp only [D.lows, pure_below n d h.1, pures_below n ds h.2, Bool.and_self]
end
section
variable {g : Gp} {m : AM} {n N : Nat} {H : Hp}
mutual
theorem Rep.low : ∀ {d : Lad.D} {v : V}, Rep g m n H d v → D.low n d = true
  | _, _, .non => by simp [D.low]
  | _, _, .bl _ => by simp [D.low]
  | _, _, .int _ => by simp [D.low]
  | _, _, .str _ => by simp [D.low]
  | _, _, .tup _ r => by simp only [D.low]; exact r.lows
  | _, _, .lst _ _ r => by simp only [D.low]; exact r.lows
  | _, _, .scr _ => by simp [D.low]
  | _, _, .ref l => by simp only [D.low]; exact decide_eq_true l
  | _, _, .fn _ => by simp [D.low]
theorem Reps.lows : ∀ {ds : List Lad.D} {vs : List V}, Reps g m n H ds vs → D.lows n ds = true
  | _, _, .nil => by simp [D.lows]
  | _, _, .cons a b => by simp only [D.lows, a.low, b.lows, Bool.and_self]
end
theorem out_mono {a : Addr} (h : n ≤ N) (o : m.out N a) : m.out n a := ⟨fun i l => o.1 i (Nat.lt_of_lt_of_le l h), o.2⟩
mutual
theorem Rep.down (h : n ≤ N) : ∀ {d : Lad.D} {v : V}, Rep g m N H d v → D.low n d = true → Rep g m n H d v
  | _, _, .non, _ => .non
  | _, _, .bl b, _ => .bl b
  | _, _, .int i, _ => .int i
  | _, _, .str x, _ => .str x
  | _, _, .tup s r, e => .tup s (r.down h (by simpa [D.low] using e))
  | _, _, .lst s o r, e => .lst s (out_mono h o) (r.down h (by simpa [D.low] using e))
  | _, _, .scr s, _ => .scr (by
      rcases s with ⟨s, o⟩ | s
      · exact .inl ⟨s, out_mono h o⟩
      · exact .inr s)
  | _, _, .ref _, e => .ref (by simpa [D.low] using e)
  | _, _, .fn k, _ => .fn k
theorem Reps.down (h : n ≤ N) : ∀ {ds : List Lad.D} {vs : List V}, Reps g m N H ds vs → D.lows n ds = true → Reps g m n H ds vs
  | _, _, .nil, _ => .nil
  | _, _, .cons a b, e => by
    simp only [D.lows, Bool.and_eq_true] at e
    exact .cons (a.down h e.1) (b.down h e.2)
end
theorem RepKv.down (h : n ≤ N) : ∀ {kvs : List (Ky × Lad.D)} {ws : List (Key × V)}, RepKv g m N H kvs ws → (∀ p ∈ kvs, D.low n p.2 = true) → RepKv g m n H kvs ws
  | _, _, .nil, _ => .nil
  | _, _, .cons a b, e => .cons (a.down h (e _ List.mem_cons_self)) (b.down h fun p hp => e p (List.mem_cons_of_mem _ hp))
theorem RepKv.low : ∀ {kvs : List (Ky × Lad.D)} {ws : List (Key × V)}, RepKv g m n H kvs ws → ∀ p ∈ kvs, D.low n p.2 = true
  | _, _, .nil, p, h => by cases h
  | _, _, .cons a b, p, h => by
    rcases List.mem_cons.mp h with e | e
    · rw [e]; exact a.low
    · exact b.low p e
def MO.low (n : Nat) : MO → Prop
  | .lst ds => D.lows n ds = true
  | .dct kvs => ∀ p ∈ kvs, D.low n p.2 = true
  | .ins _ _ => True
theorem mo_pure {o : MO} (h : o.pure = true) : MO.low n o := by
  cases o with
  | lst ds => exact pures_below n ds h
  | dct kvs => exact fun p hp => pure_below n p.2 (List.all_eq_true.mp h p hp)
  | ins c fs => trivial
theorem RepO.low {a : Addr} {o : MO} (r : RepO g m n H a o) : MO.low n o := by
  cases o with
  | lst ds => obtain ⟨vs, _, q⟩ := r; exact q.lows
  | dct kvs => obtain ⟨ws, _, q, _⟩ := r; exact q.low
  | ins c fs => trivial
theorem RepO.down {a : Addr} {o : MO} (h : n ≤ N) (r : RepO g m N H a o) (b : MO.low n o) : RepO g m n H a o := by
  cases o with
  | lst ds => obtain ⟨vs, e, q⟩ := r; exact ⟨vs, e, q.down h b⟩
  | dct kvs => obtain ⟨ws, e, q, nd⟩ := r; exact ⟨ws, e, q.down h b, nd⟩
  | ins c fs => exact r
end
theorem gcOk_get : ∀ {h h' : Hc}, gcOk h h' = true → ∀ i, i < h.length → ∃ o, h'[i]? = some o ∧ (h[i]? = some o ∨ o.pure = true)
  | [], _, _, i, l => by simp at l
  | _ :: _, [], e, _, _ => by simp [gcOk] at e
  | x :: xs, y :: ys, e, i, l => by
    simp only [gcOk, Bool.and_eq_true, Bool.or_eq_true] at e
    cases i with
    | zero =>
      refine ⟨y, rfl, ?_⟩
      rcases e.1 with z | z
      · exact .inl (by rw [MO.beq_eq z]; rfl)
      · exact .inr z
    | succ i =>
      obtain ⟨o, h1, h2⟩ := gcOk_get e.2 i (by simpa using l)
      exact ⟨o, by simpa using h1, by simpa using h2⟩
section
variable {g : Gp} {m m' : AM} {h h' : Hc} {H H' : Hp}
/-- what was made within goes -/
theorem Ext.gc (r : Rel g m h H) (e : Ext g m h H m' h' H') (k : gcOk h h' = true) : Ext g m h H m' (h'.take h.length) H' := by
  have ln : (h'.take h.length).length = h.length := by rw [List.length_take]; exact Nat.min_eq_left e.len
  refine ⟨⟨fun i o q => ?_, fun i j li lj z => ?_, fun a z => ?_⟩, by rw [ln]; exact Nat.le_refl _, e.agree, e.keep, fun i a b => by rw [ln] at b; exact absurd b (Nat.not_lt.mpr a), e.zs⟩
  · rw [ln]
    have li : i < h.length := by
      have := (List.getElem?_eq_some_iff.mp q).1
      rw [ln] at this
      exact this
    rw [List.getElem?_take_of_lt li] at q
    obtain ⟨o', h1, h2⟩ := gcOk_get k i li
    rw [q] at h1
    cases h1
    refine (e.rel.obj i o q).down e.len ?_
    rcases h2 with h2 | h2
    · exact (r.obj i o h2).low
    · exact mo_pure h2
  · rw [ln] at li lj
    exact e.rel.inj i j (Nat.lt_of_lt_of_le li e.len) (Nat.lt_of_lt_of_le lj e.len) z
  · obtain ⟨a1, a2⟩ := e.rel.res a z
    refine ⟨a1, fun i li => ?_⟩
    rw [ln] at li
    exact a2 i (Nat.lt_of_lt_of_le li e.len)
/-- a fresh list is handed back as a value -/
def froze (fz : Bool) (h : Hc) (d : Lad.D) (h' : Hc) : Lad.D := match fz, d with
  | true, .ref i => match h'[i]? with
    | some (.lst ds) => if h.length ≤ i then .lst ds else d
    | _ => d
  | _, d => d
theorem leave_eq {fz : Bool} {d : Lad.D} : leave fz h d h' = if (froze fz h d h').pure && gcOk h h' then .ok (froze fz h d h') (h'.take h.length) else .ok d h' := rfl
theorem froze_rep {fz : Bool} {d : Lad.D} {v : V} (e : Ext g m h H m' h' H') (q : Rep g m' h'.length H' d v) (p : (froze fz h d h').pure = true) : Rep g m' (h'.take h.length).length H' (froze fz h d h') v := by
  have ln : (h'.take h.length).length = h.length := by rw [List.length_take]; exact Nat.min_eq_left e.len
  rw [ln]
  have same : froze fz h d h' = d → Rep g m' h.length H' (froze fz h d h') v := fun z => by
    rw [z] at p ⊢
    exact q.down e.len (pure_below _ _ p)
  cases fz with
  | false => exact same (by cases d <;> rfl)
  | true =>
    cases d <;> first | exact same rfl | skip
    rename_i i
    have e0 : froze true h (.ref i) h' = (match h'[i]? with
      | some (.lst ds) => if h.length ≤ i then .lst ds else .ref i
      | _ => .ref i) := rfl
    cases o : h'[i]? with
    | none => exact same (by rw [e0, o])
    | some z =>
      cases z with
      | lst ds =>
        rw [o] at e0
        by_cases c : h.length ≤ i
        · have e1 : froze true h (.ref i) h' = .lst ds := by
            rw [e0]
            show (if h.length ≤ i then Lad.D.lst ds else .ref i) = _
            rw [if_pos c]
          rw [e1] at p ⊢
          obtain ⟨vs, rfl, a, b⟩ := ref_lst e.rel q o
          have li := (List.getElem?_eq_some_iff.mp o).1
          refine .lst a ⟨fun j lj z => ?_, fun z => ?_⟩ (b.down e.len (pures_below _ _ (by simpa [D.pure] using p)))
          · have := e.rel.inj j i (Nat.lt_of_lt_of_le lj e.len) li z
            omega
          · exact (e.rel.res _ z).2 i li rfl
        · refine same ?_
          rw [e0]
          show (if h.length ≤ i then Lad.D.lst ds else .ref i) = _
          rw [if_neg c]
      | dct _ => exact same (by rw [e0, o])
      | ins _ _ => exact same (by rw [e0, o])
theorem leave_post {W : WX} {σ : L2.St} {fz : Bool} {d : Lad.D} {Q : VK} (r : Rel g m h H) (p : Post g W σ m h H (leave fz h d h') (VQ g Q)) : ∀ m' H', Ext g m h H m' h' H' → ∀ v, Rep g m' h'.length H' d v → Q v H' := by
  intro m' H' e v q
  rw [leave_eq] at p
  by_cases c : ((froze fz h d h').pure && gcOk h h') = true
  · rw [if_pos c] at p
    rw [Bool.and_eq_true] at c
    exact p m' H' (e.gc r c.2) v (froze_rep e q c.1)
  · rw [if_neg c] at p
    exact p m' H' e v q
theorem leaveX_post {W : WX} {σ : L2.St} {x : Xn} {R : RP Lad.D} (r : Rel g m h H) (p : Post g W σ m h H (leaveX h x h') R) : ∀ m' H', Ext g m h H m' h' H' → ∀ c dd, XRep g m' h'.length x c dd H' → W c dd σ H' := by
  intro m' H' e c dd q
  unfold leaveX at p
  by_cases k : gcOk h h' = true
  · rw [if_pos k] at p
    refine p m' H' (e.gc r k) c dd ?_
    have ln : (h'.take h.length).length = h.length := by rw [List.length_take]; exact Nat.min_eq_left e.len
    obtain ⟨q1, q2⟩ := q
    refine ⟨q1, ?_⟩
    cases xa : x.arg with
    | none => rw [xa] at q2; exact q2
    | some i =>
      rw [xa] at q2
      obtain ⟨d, h1, h2, h3⟩ := q2
      exact ⟨d, h1, h2, fun j lj => h3 j (by rw [ln] at lj; exact Nat.lt_of_lt_of_le lj e.len)⟩
  · rw [if_neg k] at p
    exact p m' H' e c dd q
end
/-! ### a function -/
theorem start_stt {g : Gp} {m : AM} {h : Hc} {H : Hp} {ds : List Lad.D} {vs : List V} {N : List PySem.Str} {n : Nat} (r : Rel g m h H) (q : Reps g m h.length H ds vs) (hn : n = N.length) : Stt g m (startE n ds) h (L2.start N vs) H := by
  have l := q.length
  refine ⟨r, ?_, fun i d e => ?_⟩
  · unfold startE L2.start
    simp only [List.length_append, List.length_map, List.length_replicate, l, hn]
  · unfold startE at e
    unfold L2.start
    by_cases z : i < ds.length
    · rw [List.getElem?_append_left (by rw [List.length_map]; exact z), List.getElem?_map] at e
      cases o : ds[i]? with
      | none => rw [o] at e; cases e
      | some d' =>
        rw [o] at e
        cases e
        obtain ⟨v, h1, h2⟩ := q.get o
        refine ⟨v, ?_, h2⟩
        rw [List.getElem?_append_left (by rw [List.length_map, ← l]; exact z), List.getElem?_map, h1]
        rfl
    · rw [List.getElem?_append_right (by rw [List.length_map]; omega)] at e
      rw [List.getElem?_replicate] at e
      split at e <;> cases e
/-- the program's def and the clean function -/
structure FnD (g : Gp) (F : Nat → Option Fn) (tb : Tb) (f : Nat) (fd : FuncData) (ps : List PySem.Str) : Prop where
  ex : ∃ (x qual : PySem.Str) (args : Arguments) (body : List Stmt) (scope : Scope) (N : List PySem.Str) (fn : Fn), FunD g.K x qual args body scope [] [] (g.fa f) fd ∧ FnScope N ps scope ∧ F f = some fn ∧ fn.arity = ps.length ∧ fn.slots = N.length ∧ ckSs tb fn.body ⟨N, scope, true⟩ body = true
  bind : Binds g.K fd ps []
/-- what is known of the world of the row -/
structure Wok (P : Program) (w : World) (g : Gp) (mg : PySem.Str → Option Value) (tb : Tb) (F : Nat → Option Fn) : Prop where
  fns : ∀ f, g.dom f = true → ∃ fd ps, FnD g F tb f fd ps
  glo : ∀ x f, tb.lookup x = some (.fn f) → mg x = some (.ref (g.fa f)) ∧ g.dom f = true
  val : ∀ x d, tb.lookup x = some (.val d) → ∃ v u, mg x = some u ∧ RelV v u ∧ ∀ m n H, Rep g m n H d v
  exc : ∀ x c, tb.lookup x = some (.exc c) → mg x = some (.ref (g.xa c)) ∧ ∃ bmB B newId initId, ExcBaseFacts B newId initId bmB ∧ PySem.W.excIn g.K (g.xa c) bmB newId = true ∧ PySem.W.keepIn g.K (.ref (g.xa c)) = true ∧ PySem.W.subIn g.K (.ref (g.xa c)) (.type "BaseException") = some true ∧ PySem.W.typeIn g.K (.ref (g.xa c)) = some (.type "type")
  blt : ∀ x, tb.lookup x = some .blt → mg x = none
  exm : ∀ c c', c < 3 → c' < 3 → PySem.W.exmOne g.K (.ref (g.xa c)) (.ref (g.xa c')) = some (c == c')
  exi : ∀ c, c < 3 → ExcC g.K (g.xa c) ∧ PySem.W.kitOne g.K (.ref (g.xa c)) (.type "ValueError") = some true
theorem fn_all {P : Program} {w : World} {g : Gp} {mg : PySem.Str → Option Value} {base : Heap} {tb : Tb} {F : Nat → Option Fn} (K : Wok P w g mg tb F) : ∀ (n f : Nat) (fd : FuncData) (ps : List PySem.Str), FnD g F tb f fd ps → FnOk P w g.K mg base (L2.CX P w) n (g.fa f) fd ps (spC g (callN F n f))
  | 0, f, fd, ps, D => ⟨fun vs H Q E ⟨_, _, _, _, _, p⟩ => p.elim, fun A outer s H args us vs Q E _ _ _ _ ⟨_, _, _, _, _, p⟩ => p.elim⟩
  | n + 1, f, fd, ps, Df => by
    obtain ⟨x, qual, args, body, scope, N, fn, FD, S, hF, ha, hs, hck⟩ := Df.ex
    have hc : callN F (n + 1) f = runFn (callN F n) fn := by
      funext ds h
      show (match F f with | some fn => runFn (callN F n) fn ds h | none => .fail) = _
      rw [hF]
    have hl : ∀ ds h, runFn (callN F n) fn ds h = if ds.length = fn.arity then (match exSs (callN F n) fn.body (startE fn.slots ds) h with
        | .ret d h' => leave fn.frz h d h'
        | .next _ h' => leave fn.frz h .non h'
        | .ex x _ h' => leaveX h x h'
        | _ => .fail) else .fail := fun ds h => rfl
    refine FD.ok S (fun vs H Q E ⟨m, h, ds, rl, rs, p⟩ => ?_) fun cdv A outer s H vs Q E hr ⟨m, h, ds, rl, rs, p⟩ => ?_
    · rw [hc, hl] at p
      by_cases z : ds.length = fn.arity
      · rw [← rs.length, z, ha]
      · rw [if_neg z] at p; exact p.elim
    · rw [hc, hl] at p
      have lenE : ds.length = fn.arity := by
        by_cases z : ds.length = fn.arity
        · exact z
        · rw [if_neg z] at p; exact p.elim
      rw [if_pos lenE] at p
      have k : Sok g n (cxOf (L2.CX P w) P w g.K mg base N qual scope (g.fa f) cdv A outer s H E) (fun cls d _ H => E cls d H) (callN F n) tb ⟨N, scope, true⟩ := by
        have tk : Takes (cxOf (L2.CX P w) P w g.K mg base N qual scope (g.fa f) cdv A outer s H E) (fun cls d _ H => E cls d H) := takes_of rfl rfl rfl rfl
        refine ⟨⟨⟨rfl, rfl, S.nd, hr, fun σ => passAt tk σ⟩, rfl, rfl, S.kind, fun _ _ => rfl, fun y mn e => ?_, fun f' hf' => ?_⟩, passes_of rfl, tk, rfl, rfl, K.exm, K.exi⟩
        · cases mn with
          | fn f' => exact K.glo y f' e
          | val d => exact K.val y d e
          | exc c =>
            obtain ⟨a1, bmB, B, n1, n2, a2, a3, a4, a5, a6⟩ := K.exc y c e
            exact ⟨a1, bmB, B, n1, n2, a2, a3, a4, raises_own a5 a6⟩
          | blt => exact K.blt y e
        · obtain ⟨fd', ps', D'⟩ := K.fns f' hf'
          obtain ⟨x', q', ar', bo', sc', N', fn', FD', _⟩ := D'.ex
          exact ⟨⟨fd', ps', fn_all K n f' fd' ps' D', D'.bind⟩, FD'.kp⟩
      refine ⟨_, sndSs fn.body k hck, m, startE fn.slots ds, h, start_stt rl rs hs, ?_⟩
      cases eb : exSs (callN F n) fn.body (startE fn.slots ds) h with
      | fail => rw [eb] at p; exact p
      | brk env h' => rw [eb] at p; exact p.elim
      | cont env h' => rw [eb] at p; exact p.elim
      | ret d h' => rw [eb] at p; exact leave_post rl p
      | next env h' => rw [eb] at p; exact fun m' H' σ' e _ => leave_post rl p m' H' e _ .non
      | ex x env h' => rw [eb] at p; exact fun m' H' σ' e _ => leaveX_post rl p m' H' e
/-! ### the law -/
open PySem.W PySem.Calls in
theorem walk_law {r : PySem.W.OpenLaw} {n k : Nat} {q : Program} {loose : List PySem.Str} {XP : (PySem.Str → Option Value) → Heap → Prop} {YP : World → Heap → Prop} {d : DefRec} {x : PySem.Str}
    (hn : r.most = some n) (hn2 : n ≤ sizeLine) (hdf : d.params.defaults = []) (hr : Room k callerA)
    (F : ∀ (w : World) (mg : PySem.Str → Option Value) (fa : Addr) (h : Heap), YP w h → h.Ns mainGlobals mg → mg d.name = some (.ref fa) →
      ∃ (K : PySem.W.Frag) (fd : FuncData) (sp : Sp), K.In h ∧ (∀ (s : Shared) (u : Value), BindsTo s fd ⟨[u], []⟩ [(x, u)]) ∧
        (∀ (H : Hp) (a : Addr) (ns : List Int), ns.length ≤ n → (∀ j ∈ ns, Builtin.Int.intBits j ≤ 1048576) → SqL K H a (ns.map V.int) → sp [.ref a] H (fun v _ => v = .bl true) fun _ _ _ => False) ∧
        ∀ base : Heap, K.In base → base.Ns mainGlobals mg → FnOk r.prog w K mg base (L2.CX r.prog w) k fa fd [x] sp) :
    PySem.W.WalkO q loose XP YP r.row.toRowW d [] (fun f vs => PySem.call f vs) := by
  refine Att.attach_callB hn hdf fun w s₀ s₁ mg mb fa o pm cd doc a vs ns G Y ho hd hcd hmg hobj hints hlen hbits hg => ?_
  obtain ⟨K, fd, sp, KX, hb, hsp, hF⟩ := F w mg fa _ Y G.T.g hmg
  exact law_call KX G.T.g G.T.b G.T.builtins G.T.nolimit hg hobj hints (Nat.le_trans hlen hn2) hr hF hb (fun H _ hS => hsp H a ns hlen hbits hS) fun H e s' ⟨_, _, _, _, _, _, _, _, _, _, _, _, z⟩ => z
/-- the clean law's truth is the law's promise -/
theorem law_sp {g : Gp} {F : Nat → Option Fn} {k f : Nat} {H : Hp} {a : Addr} {ns : List Int} (hS : SqL g.K H a (ns.map V.int)) (h : ∃ h', callN F k f [.scr ns] [] = .ok (.bl true) h') : spC g (callN F k f) [.ref a] H (fun v _ => v = .bl true) fun _ _ _ => False := by
  obtain ⟨h', e⟩ := h
  refine ⟨⟨fun _ => 0, []⟩, [], [.scr ns], ⟨fun i o z => by simp at z, fun i j l => by simp at l, fun a z => by cases z⟩, .cons (.scr ?_) .nil, ?_⟩
  · rcases hS with s | s
    · exact .inl ⟨s, fun i l => by simp at l, fun z => by cases z⟩
    · exact .inr s
  · rw [e]
    intro m' H' x v rv
    cases rv
    rfl
end Lad
set_option Elab.async false
set_option linter.all false
set_option maxRecDepth 100000
set_option maxHeartbeats 8000000
/-! The head: what the run of the top leaves. -/
namespace Lad
open PySem PySem.Spec PyProof.Rows L2
/-- a def of the row: its number, its name, its place in the top, its slots' names, how many parameters -/
structure Fx where
  id : Nat
  nm : PySem.Str
  ix : Nat
  N : List PySem.Str
  np : Nat
def nmOf (fl : List Fx) (f : Nat) : PySem.Str := match fl.find? fun q => q.id == f with
  | some q => q.nm
  | none => ""
def xnOf (tb : Tb) (c : Nat) : PySem.Str := match tb.find? fun q => (match q.2 with | .exc c' => c' == c | _ => false) with
  | some q => q.1
  | none => ""
abbrev gOf (fl : List Fx) (tb : Tb) (K : PySem.W.Frag) : Gp := ⟨K, fun f => He.ga K (nmOf fl f), fun c => He.ga K (xnOf tb c), fun f => (fl.find? fun q => q.id == f).isSome⟩
def defD (top : Nat → Stmt) (q : Fx) : He.DefD := ⟨(q.nm, none), q.nm, q.nm, defArgs (top q.ix), defBody (top q.ix), defScope (top q.ix), [], []⟩
def faOf : PySem.Str × Mean → List He.Fa
  | (x, .fn _) => [.glo x]
  | (x, .val (.int i)) => [.int x i]
  | (x, .val (.str z)) => [.str x (kStr z)]
  | (x, .val _) => [.glo x]
  | (x, .exc _) => [.glo x, .exc x]
  | (x, .blt) => [.free x]
/-- constants that are tuples -/
structure Cn where
  nm : PySem.Str
  vs : List He.Dv
  d : Lad.D
def dvB (cs : List Cn) : He.Dv → Lad.D → Bool
  | .non, .non => true
  | .bl a, .bl b => a == b
  | .int i, .int j => decide (i = j)
  | .str x, .str y => decide (x = kStr y)
  | .glo x, d => cs.any fun c => decide (c.nm = x) && D.beq c.d d
  | _, _ => false
def dvsB (cs : List Cn) : List He.Dv → List Lad.D → Bool
  | [], [] => true
  | v :: vs, d :: ds => dvB cs v d && dvsB cs vs ds
  | _, _ => false
/-- each constant rests on those ahead of it -/
def cnsB : List Cn → List Cn → Bool
  | _, [] => true
  | acc, c :: r => (match c.d with
    | .tup ds => dvsB acc c.vs ds
    | _ => false) && cnsB (c :: acc) r
def excB (K : PySem.W.Frag) (Da : Addr) : Bool :=
  He.eqO (PySem.W.findIn K (.ref Da) "__getattribute__") (some (some (.builtin "BaseException.__getattribute__"))) && (He.eqO (PySem.W.findIn K (.ref Da) "__getattr__") (some none) && (decide (PySem.W.subIn K (.ref Da) (.type "BaseException") = some true) && (PySem.W.hasDictIn K Da &&
    (He.eqO (PySem.W.findIn K (.ref Da) "__class__") (some (some (.builtin "object.__class__"))) && (He.eqO (PySem.W.specialIn K (.builtin "object.__class__") "__get__") (some (some (.builtin "getset_descriptor.__get__"))) && (decide (PySem.W.takesIn K (.builtin "object.__class__") = some true) &&
      (decide (PySem.W.mroIn K Da (.type "object") = some true) && decide (PySem.W.kitOne K (.ref Da) (.type "ValueError") = some true))))))))
theorem excB_ok {K : PySem.W.Frag} {Da : Addr} (h : excB K Da = true) : ExcC K Da ∧ PySem.W.kitOne K (.ref Da) (.type "ValueError") = some true := by
  obtain ⟨h1, h⟩ := and2 h
  obtain ⟨h2, h⟩ := and2 h
  obtain ⟨h3, h⟩ := and2 h
  obtain ⟨h4, h⟩ := and2 h
  obtain ⟨h5, h⟩ := and2 h
  obtain ⟨h6, h⟩ := and2 h
  obtain ⟨h7, h⟩ := and2 h
  obtain ⟨h8, h9⟩ := and2 h
  exact ⟨⟨He.eqO_ok h1, He.eqO_ok h2, of_decide_eq_true h3, h4, He.eqO_ok h5, He.eqO_ok h6, of_decide_eq_true h7, of_decide_eq_true h8⟩, of_decide_eq_true h9⟩
/-- what the Hook looks at besides: the tuples, the exceptions (where the row has any) -/
def ckK (tb : Tb) (cs : List Cn) (xs : Bool) (K : PySem.W.Frag) : Bool := (cs.all fun c => He.tupB K c.nm c.vs) && (!xs || ([0, 1, 2].all fun c => excB K (He.ga K (xnOf tb c))))
def obsL (ck : PySem.W.Frag → Bool) (fa : List He.Fa) (fn : List He.DefD) (K : PySem.W.Frag) : He.AlD := (ck K && ((fa.all fun f => f.ok K) && fn.all fun d => d.ok K), fn.map fun d => He.fnW K d.at_)
def obsLG (n : Nat) (ck : PySem.W.Frag → Bool) (fa : List He.Fa) (fn : List He.DefD) (g : Addr → Option Obj) : He.AlD := obsL ck fa fn (He.frG g (He.asD g n))
def hookL (n : Nat) (ck : PySem.W.Frag → Bool) (fa : List He.Fa) (fn : List He.DefD) : PySem.W.Hook where
  α := He.AlD
  obs := fun s => obsLG n ck fa fn s.heap.get?
  val := fun _ => He.valD fn
  says := fun _ h => ∃ K : PySem.W.Frag, K.In h ∧ obsL ck fa fn K = He.valD fn
  of := fun _ _ e => ⟨_, He.frG_in, e⟩
  keeps := fun _ _ _ ⟨K, hK, c⟩ k => ⟨K, PySem.W.Frag.In.keeps hK k, c⟩
theorem obsLG_eq {n : Nat} {ck : PySem.W.Frag → Bool} {fa : List He.Fa} {fn : List He.DefD} {g : Addr → Option Obj} {s : Shared} (h : ∀ a, g a = s.heap.get? a) : obsLG n ck fa fn g = (hookL n ck fa fn).obs s := by
  have e : g = s.heap.get? := funext h
  rw [e] <;> rfl
theorem obsL_two {ck : PySem.W.Frag → Bool} {fa : List He.Fa} {fn : List He.DefD} {K : PySem.W.Frag} (h : obsL ck fa fn K = He.valD fn) : ck K = true ∧ He.SaysD fa fn K := by
  have h1 : (ck K && ((fa.all fun f => f.ok K) && fn.all fun d => d.ok K)) = true := congrArg (fun z : He.AlD => z.1) h
  have h2 : (fn.map fun d => He.fnW K d.at_) = fn.map He.DefD.val := congrArg (fun z : He.AlD => z.2) h
  obtain ⟨a, b⟩ := and2 h1
  refine ⟨a, ?_⟩
  show ((fa.all fun f => f.ok K) && fn.all fun d => d.ok K, fn.map fun d => He.fnW K d.at_) = (true, fn.map He.DefD.val)
  rw [b, h2]
/-! ### constants -/
theorem dv_rep {cs : List Cn} {K : PySem.W.Frag} {g : Gp} {m : AM} {n : Nat} {H : Hp} (hc : ∀ c ∈ cs, Rep g m n H c.d (.ref (He.ga K c.nm))) : ∀ {v : He.Dv} {d : Lad.D}, dvB cs v d = true → Rep g m n H d (v.v K) := by
  intro v d h
  cases v with
  | glo x =>
    obtain ⟨c, hm, hx⟩ := List.any_eq_true.mp (show (cs.any fun c => decide (c.nm = x) && D.beq c.d d) = true from h)
    obtain ⟨e1, e2⟩ := and2 hx
    have e1 := of_decide_eq_true e1
    have e2 := D.beq_eq e2
    subst e1 e2
    exact hc c hm
  | non => cases d <;> first | exact .non | cases h
  | bl a => cases d <;> first | (have e := eq_of_beq (show (a == _) = true from h); subst e; exact .bl _) | cases h
  | int i => cases d <;> first | (have e := of_decide_eq_true (show decide (i = _) = true from h); subst e; exact .int _) | cases h
  | str x => cases d <;> first | (have e := of_decide_eq_true (show decide (x = kStr _) = true from h); subst e; exact .str _) | cases h
  | _ => cases d <;> cases h
theorem dvs_rep {cs : List Cn} {K : PySem.W.Frag} {g : Gp} {m : AM} {n : Nat} {H : Hp} (hc : ∀ c ∈ cs, Rep g m n H c.d (.ref (He.ga K c.nm))) : ∀ {vs : List He.Dv} {ds : List Lad.D}, dvsB cs vs ds = true → Reps g m n H ds (vs.map (He.Dv.v K))
  | [], [], _ => .nil
  | [], _ :: _, h => by cases h
  | _ :: _, [], h => by cases h
  | v :: vs, d :: ds, h => by
    obtain ⟨h1, h2⟩ := and2 (show (dvB cs v d && dvsB cs vs ds) = true from h)
    exact .cons (dv_rep hc h1) (dvs_rep hc h2)
theorem cns_rep {K : PySem.W.Frag} {g : Gp} (hK : g.K = K) : ∀ {cs acc : List Cn}, cnsB acc cs = true → (cs.all fun c => He.tupB K c.nm c.vs) = true → (∀ c ∈ acc, ∀ m n H, Rep g m n H c.d (.ref (He.ga K c.nm))) → ∀ c ∈ cs, ∀ m n H, Rep g m n H c.d (.ref (He.ga K c.nm))
  | [], _, _, _, _, c, hc => by cases hc
  | c0 :: r, acc, h, ht, ha, c, hc => by
    obtain ⟨h1, h2⟩ := and2 (show ((match c0.d with | .tup ds => dvsB acc c0.vs ds | _ => false) && cnsB (c0 :: acc) r) = true from h)
    obtain ⟨t1, t2⟩ := and2 (show (He.tupB K c0.nm c0.vs && r.all fun c => He.tupB K c.nm c.vs) = true from ht)
    have head : ∀ m n H, Rep g m n H c0.d (.ref (He.ga K c0.nm)) := fun m n H => by
      cases e : c0.d with
      | tup ds =>
        rw [e] at h1
        exact .tup (by rw [hK]; exact He.tupB_ok t1 H) (dvs_rep (fun c hc => ha c hc m n H) h1)
      | _ => rw [e] at h1; cases h1
    rcases List.mem_cons.mp hc with z | z
    · rw [z]; exact head
    · exact cns_rep hK h2 t2 (fun c' hc' => by
        rcases List.mem_cons.mp hc' with w | w
        · rw [w]; exact head
        · exact ha c' w) c z
/-! ### what is checked of the row -/
def scB (N ps : List PySem.Str) (sc : Scope) : Bool := decide (sc.kind = .function) && !sc.isCoroutine && !sc.isGenerator && decide N.Nodup && decide (N.take ps.length = ps) && (ps.all fun x => match sc.names.lookup x with
    | some .local => true
    | some .cell => true
    | _ => false) && sc.names.all fun y => decide (y.2 ≠ .free)
theorem scB_ok {N ps : List PySem.Str} {sc : Scope} (h : scB N ps sc = true) : FnScope N ps sc := by
  obtain ⟨h, h7⟩ := and2 h
  obtain ⟨h, h6⟩ := and2 h
  obtain ⟨h, h5⟩ := and2 h
  obtain ⟨h, h4⟩ := and2 h
  obtain ⟨h, h3⟩ := and2 h
  obtain ⟨h1, h2⟩ := and2 h
  refine ⟨of_decide_eq_true h1, by simpa using h2, by simpa using h3, of_decide_eq_true h4, of_decide_eq_true h5, fun x hx => ?_, fun y hy => of_decide_eq_true (List.all_eq_true.mp h7 y hy)⟩
  have := List.all_eq_true.mp h6 x hx
  split at this
  · rename_i e; exact .inl e
  · rename_i e; exact .inr e
  · cases this
def fxB (top : Nat → Stmt) (tb : Tb) (F : Nat → Option Fn) (q : Fx) : Bool := match F q.id with
  | some fn => scB q.N (q.N.take q.np) (defScope (top q.ix)) && decide (fn.arity = (q.N.take q.np).length) && decide (fn.slots = q.N.length) && ckSs tb fn.body ⟨q.N, defScope (top q.ix), true⟩ (defBody (top q.ix))
  | none => false
/-- names and numbers agree -/
def tbB (fl : List Fx) (tb : Tb) (cs : List Cn) : Bool := tb.all fun p => match p.2 with
  | .fn f => decide (nmOf fl f = p.1) && (fl.find? fun q => q.id == f).isSome
  | .exc c => decide (xnOf tb c = p.1)
  | .val (.tup ds) => cs.any fun c => decide (c.nm = p.1) && D.beq c.d (.tup ds)
  | .val (.int _) => true
  | .val (.str _) => true
  | .val _ => false
  | .blt => true
def exFa (tb : Tb) (xs : Bool) : List He.Fa := if xs then [0, 1, 2].flatMap fun c => [0, 1, 2].map fun c' => He.Fa.exm (xnOf tb c) (xnOf tb c') (c == c') else []
def allFa (tb : Tb) (xs : Bool) : List He.Fa := tb.flatMap faOf ++ exFa tb xs
theorem lookup_mem {α : Type} : ∀ {l : List (PySem.Str × α)} {x : PySem.Str} {m : α}, l.lookup x = some m → (x, m) ∈ l
  | (y, k) :: r, x, m, h => by
    rw [List.lookup_cons] at h
    cases e : x == y with
    | true => rw [e] at h; cases h; rw [eq_of_beq e]; exact List.mem_cons_self
    | false => rw [e] at h; exact List.mem_cons_of_mem _ (lookup_mem h)
theorem find_mem {fl : List Fx} {f : Nat} {q : Fx} (h : (fl.find? fun q => q.id == f) = some q) : q ∈ fl ∧ q.id = f := by
  have h2 := List.find?_some h
  exact ⟨List.mem_of_find?_eq_some h, eq_of_beq h2⟩
theorem wok_of {P : Program} {w : World} {K : PySem.W.Frag} {h : Heap} {mg : PySem.Str → Option Value} {top : Nat → Stmt} {fl : List Fx} {tb : Tb} {cs : List Cn} {F : Nat → Option Fn} (X : K.In h) (G : h.Ns mainGlobals mg) (c : obsL (ckK tb cs true) (allFa tb true) (fl.map (defD top)) K = He.valD (fl.map (defD top)))
    (c1 : fl.all (fxB top tb F) = true) (c2 : tbB fl tb cs = true) (c3 : cnsB [] cs = true)
    (hb : ∀ q ∈ fl, ∀ (kV doc pm : Value) (an : Option Addr) (cdv ct : Value) (us : List Value), us.length = (q.N.take q.np).length → bindArgs (PySem.W.fnOf q.nm q.nm (defArgs (top q.ix)) (defBody (top q.ix)) (defScope (top q.ix)) .none kV doc pm an cdv ct) ⟨us, []⟩ = pure ((q.N.take q.np).zip us)) :
    Wok P w (gOf fl tb K) mg tb F ∧ ∀ q ∈ fl, (fl.find? fun q' => q'.id == q.id) = some q → ∃ fd, FnD (gOf fl tb K) F tb q.id fd (q.N.take q.np) ∧ ∀ (s : Shared) (us : List Value), us.length = (q.N.take q.np).length → BindsTo s fd ⟨us, []⟩ ((q.N.take q.np).zip us) := by
  obtain ⟨ck, S⟩ := obsL_two c
  obtain ⟨k1, k2⟩ := and2 ck
  have fct : ∀ f ∈ allFa tb true, f.ok K = true := by
    have z := (He.ba (show (((allFa tb true).all fun f => f.ok K) && (fl.map (defD top)).all fun d => d.ok K) = true from congrArg (fun z : He.AlD => z.1) S)).1
    exact List.all_eq_true.mp z
  have fct1 : ∀ {x : PySem.Str} {m : Mean}, tb.lookup x = some m → ∀ f ∈ faOf (x, m), f.ok K = true := fun {x m} e f hf => fct f (List.mem_append_left _ (List.mem_flatMap.mpr ⟨_, lookup_mem e, hf⟩))
  have fn1 : ∀ q ∈ fl, (fl.find? fun q' => q'.id == q.id) = some q → ∃ fd, FnD (gOf fl tb K) F tb q.id fd (q.N.take q.np) ∧ ∀ (s : Shared) (us : List Value), us.length = (q.N.take q.np).length → BindsTo s fd ⟨us, []⟩ ((q.N.take q.np).zip us) := by
    intro q hq hf
    obtain ⟨i, hi⟩ := List.getElem?_of_mem hq
    obtain ⟨fd, FD⟩ := S.def_ i (d := defD top q) (by rw [List.getElem?_map, hi]; rfl)
    have z := List.all_eq_true.mp c1 q hq
    unfold fxB at z
    split at z
    · rename_i fn eF
      obtain ⟨z, z4⟩ := and2 z
      obtain ⟨z, z3⟩ := and2 z
      obtain ⟨z1, z2⟩ := and2 z
      have nm : nmOf fl q.id = q.nm := by unfold nmOf; rw [hf]
      have FD' : FunD K q.nm q.nm (defArgs (top q.ix)) (defBody (top q.ix)) (defScope (top q.ix)) [] [] (He.ga K (nmOf fl q.id)) fd := by
        rw [nm]; exact FD
      have B := hb q hq
      refine ⟨fd, ⟨⟨_, _, _, _, _, q.N, fn, FD', scB_ok z1, eF, of_decide_eq_true z2, of_decide_eq_true z3, z4⟩, FunD.bindsN FD' fun kV doc pm an cdv ct us hl => B kV doc pm an cdv ct us hl⟩, fun s us hl => ?_⟩
      exact FunD.bindsA FD' (fun kV doc pm an cdv ct us hl => B kV doc pm an cdv ct us hl) s us hl
    · cases z
  have tbk : ∀ {x : PySem.Str} {m : Mean}, tb.lookup x = some m → (match m with
    | .fn f => decide (nmOf fl f = x) && (fl.find? fun q => q.id == f).isSome
    | .exc c => decide (xnOf tb c = x)
    | .val (.tup ds) => cs.any fun c => decide (c.nm = x) && D.beq c.d (.tup ds)
    | .val (.int _) => true
    | .val (.str _) => true
    | .val _ => false
    | .blt => true) = true := fun {x m} e => List.all_eq_true.mp c2 (x, m) (lookup_mem e)
  have cn := cns_rep (g := gOf fl tb K) (K := K) rfl c3 k1 (fun c hc => by cases hc)
  have exm : ∀ c c', c < 3 → c' < 3 → PySem.W.exmOne K (.ref (He.ga K (xnOf tb c))) (.ref (He.ga K (xnOf tb c'))) = some (c == c') := fun c c' h1 h2 => by
    have hm : He.Fa.exm (xnOf tb c) (xnOf tb c') (c == c') ∈ allFa tb true := by
      refine List.mem_append_right _ ?_
      show _ ∈ (if true = true then [0, 1, 2].flatMap fun c => [0, 1, 2].map fun c' => He.Fa.exm (xnOf tb c) (xnOf tb c') (c == c') else [])
      rw [if_pos rfl]
      exact List.mem_flatMap.mpr ⟨c, by simp; omega, List.mem_map.mpr ⟨c', by simp; omega, rfl⟩⟩
    exact He.exm_ok (fct _ hm)
  have exi : ∀ c, c < 3 → ExcC K (He.ga K (xnOf tb c)) ∧ PySem.W.kitOne K (.ref (He.ga K (xnOf tb c))) (.type "ValueError") = some true := fun c h1 => by
    have z : ([0, 1, 2].all fun c => excB K (He.ga K (xnOf tb c))) = true := by
      rcases Bool.or_eq_true _ _ ▸ k2 with y | y
      · cases y
      · exact y
    exact excB_ok (List.all_eq_true.mp z c (by simp; omega))
  refine ⟨⟨fun f hf => ?_, fun x f e => ?_, fun x d e => ?_, fun x c e => ?_, fun x e => He.free_ok X G (fct1 e _ List.mem_cons_self), exm, exi⟩, fn1⟩
  · obtain ⟨q, hq⟩ := Option.isSome_iff_exists.mp (show (fl.find? fun q => q.id == f).isSome = true from hf)
    obtain ⟨h1, h2⟩ := find_mem hq
    subst h2
    obtain ⟨fd, D', _⟩ := fn1 q h1 hq
    exact ⟨fd, _, D'⟩
  · obtain ⟨t1, t2⟩ := and2 (tbk e)
    have t1 := of_decide_eq_true t1
    refine ⟨?_, t2⟩
    show mg x = some (.ref (He.ga K (nmOf fl f)))
    rw [t1]
    exact He.glo_ok X G (fct1 e _ List.mem_cons_self)
  · have t := tbk e
    cases d <;> first | (cases t; done) | skip
    · rename_i i
      obtain ⟨tk, hm⟩ := He.int_ok X G (fct1 e (.int x i) List.mem_cons_self)
      exact ⟨.int i, _, hm, ⟨tk, rfl⟩, fun _ _ _ => .int i⟩
    · rename_i z
      obtain ⟨tk, hm⟩ := He.str_ok X G (fct1 e (.str x (kStr z)) List.mem_cons_self)
      exact ⟨.str (kStr z), _, hm, ⟨tk, rfl⟩, fun _ _ _ => .str z⟩
    · rename_i ds
      obtain ⟨c, hc, hx⟩ := List.any_eq_true.mp t
      obtain ⟨e1, e2⟩ := and2 hx
      have e1 := of_decide_eq_true e1
      have e2 := D.beq_eq e2
      have hm := He.glo_ok X G (fct1 e (.glo x) List.mem_cons_self)
      refine ⟨.ref (He.ga K x), _, hm, rfl, fun m n H => ?_⟩
      rw [← e1, ← e2]
      exact cn c hc m n H
  · have t := of_decide_eq_true (tbk e)
    have hm := He.glo_ok X G (fct1 e (.glo x) List.mem_cons_self)
    obtain ⟨a1, a2, a3, a4⟩ := He.exc_ok (fct1 e (.exc x) (List.mem_cons_of_mem _ List.mem_cons_self))
    refine ⟨?_, He.veBase, "ValueError", "ValueError.__new__", "ValueError.__init__", PySem.F.excBase_ValueError, ?_, ?_, ?_, ?_⟩
    · show mg x = some (.ref (He.ga K (xnOf tb c)))
      rw [t]; exact hm
    · show PySem.W.excIn K (He.ga K (xnOf tb c)) _ _ = true
      rw [t]; exact a1
    · show PySem.W.keepIn K (.ref (He.ga K (xnOf tb c))) = true
      rw [t]; exact a2
    · show PySem.W.subIn K (.ref (He.ga K (xnOf tb c))) _ = _
      rw [t]; exact a3
    · show PySem.W.typeIn K (.ref (He.ga K (xnOf tb c))) = _
      rw [t]; exact a4
end Lad
/-! Printed by gen.py: the program's functions in the clean syntax. -/
namespace Lad
abbrev g_sayings_P : Nat := 1000
def k_sayings_P : D := .tup [.str [112]]
abbrev g_sayings_NO : Nat := 1001
def k_sayings_NO : D := .tup [.str [110,111]]
abbrev g_sayings_JOINS : Nat := 1002
def k_sayings_JOINS : D := .tup [.str [97,110,100], .str [111,114], .str [116,111]]
abbrev g_sayings_MOST_PARTS : Nat := 1003
def k_sayings_MOST_PARTS : D := .int 300
abbrev g_sayings_MOST_DEEP : Nat := 1004
def k_sayings_MOST_DEEP : D := .int 60
abbrev g_ladder_ALL : Nat := 1005
def k_ladder_ALL : D := .int (-1)
abbrev g_ladder_MOST_PLACE : Nat := 1006
def k_ladder_MOST_PLACE : D := .int 1000000
abbrev g_axioms_TRIED : Nat := 1008
def k_axioms_TRIED : D := .tup [.int 0, .int 1, .int 2, .int 3, .int 4, k_ladder_ALL]
abbrev g_rungs_YES : Nat := 1030
def k_rungs_YES : D := .tup [.str [116,111], k_sayings_NO, k_sayings_NO]
abbrev g_rungs_MOST_RUNG : Nat := 1031
def k_rungs_MOST_RUNG : D := .int 16
abbrev f_base_is_number : Nat := 0
abbrev f_base_is_within : Nat := 1
abbrev f_base_tupled : Nat := 5
abbrev f_base_sure_within : Nat := 6
abbrev f_sayings_is_saying_in : Nat := 7
abbrev f_sayings_sure_saying : Nat := 8
abbrev f_sayings_parts_in : Nat := 9
abbrev f_sayings_depth_in : Nat := 10
abbrev f_sayings_put_in : Nat := 11
abbrev f_sayings_checked : Nat := 12
abbrev f_sayings_put : Nat := 13
abbrev f_sayings_how_often_p : Nat := 14
abbrev f_sayings_plain_in : Nat := 16
abbrev f_ladder_is_place_in : Nat := 17
abbrev f_ladder_shape : Nat := 18
abbrev f_ladder_place_of_shape : Nat := 19
abbrev f_ladder_has : Nat := 20
abbrev f_ladder_both_in : Nat := 21
abbrev f_ladder_either_in : Nat := 22
abbrev f_ladder_first_beyond : Nat := 23
abbrev f_ladder_is_below_in : Nat := 24
abbrev f_ladder_leads_in : Nat := 25
abbrev f_ladder_place_in : Nat := 26
abbrev f_ladder_sure_place : Nat := 27
abbrev f_ladder_place_of : Nat := 28
abbrev f_ladder_both : Nat := 29
abbrev f_ladder_is_below : Nat := 30
abbrev f_axioms_schema_in : Nat := 33
abbrev f_axioms_schema_place : Nat := 36
abbrev f_again_put_place : Nat := 41
abbrev f_law_law_box : Nat := 54
abbrev f_law_law_take : Nat := 55
abbrev f_law_law_cells : Nat := 56
abbrev f_law_law_of : Nat := 57
abbrev f_law_law_same : Nat := 58
abbrev f_law_law_saying : Nat := 59
abbrev f_ladder_either : Nat := 111
abbrev f_ladder_leads : Nat := 144
abbrev f_again_walk : Nat := 145
abbrev f_again_round_of : Nat := 146
abbrev f_again_can_hold : Nat := 147
abbrev f_rungs_rung_in : Nat := 160
abbrev f_rungs_rung_parts_in : Nat := 161
abbrev f_rungs_sure_rung : Nat := 162
abbrev f_rungs_rung : Nat := 163
abbrev f_again_places : Nat := 239
abbrev f_again_place_far : Nat := 240
abbrev f_again_makes_hold : Nat := 241
abbrev f_again_first_that_holds : Nat := 242
abbrev f_law_law_call2 : Nat := 243
abbrev f_law_law_refused : Nat := 244
abbrev f_law_law_rung : Nat := 245
abbrev f_law_k38 : Nat := 246
def b_base_is_number : Fn := { arity := 1, slots := 1, body := [
  .ret (.andE [.isi (.var 0) [.int], .notE (.isi (.var 0) [.bool])])] }
def b_base_is_within : Fn := { arity := 3, slots := 3, body := [
  .ret (.andE [.call f_base_is_number [.var 0], .chain .le .le (.var 1) (.var 0) (.var 2)])] }
def b_base_tupled : Fn := { arity := 1, slots := 2, body := [
  .ret (.ife (.e (.isi (.var 0) [.list, .tuple])) (.bi .tuple [.lc [1] [1] false (.sq (.var 0)) [] (.call f_base_tupled [.var 1])]) (.var 0))] }
def b_base_sure_within : Fn := { arity := 3, slots := 3, body := [
  .ifs (.not (.e (.call f_base_is_within [.var 0, .var 1, .var 2]))) [
    .raise 2 none] [],
  .ret (.var 0)] }
def b_sayings_is_saying_in : Fn := { arity := 1, slots := 5, body := [
  .asg (.tp [1, 2]) (.tup [.nw (.lst [.tup [.var 0, .c (.int 1)]]), .c (.int 0)]),
  .whl (.e (.cmp .ne (.var 1) (.lst []))) [
    .asg (.tp [3, 4]) (.meth .pop (.var 1) []),
    .aug 2 .add (.c (.int 1)),
    .ifs (.or [.e (.cmp .gt (.var 2) (.gl g_sayings_MOST_PARTS k_sayings_MOST_PARTS)), .e (.cmp .gt (.var 4) (.gl g_sayings_MOST_DEEP k_sayings_MOST_DEEP)), .not (.e (.isi (.var 3) [.tuple])), .e (.cmp .eq (.var 3) (.tup []))]) [
      .ret (.c (.bl false))] [],
    .ifs (.not (.e (.isi (.ix (.var 3) (.c (.int 0))) [.str]))) [
      .ret (.c (.bl false))] [],
    .ifs (.and [.e (.cmp .mem (.ix (.var 3) (.c (.int 0))) (.gl g_sayings_JOINS k_sayings_JOINS)), .e (.cmp .eq (.bi .len [.var 3]) (.c (.int 3)))]) [
      .ex (.meth .extend (.var 1) [.lst [.tup [.ix (.var 3) (.c (.int 1)), .bin .add (.var 4) (.c (.int 1))], .tup [.ix (.var 3) (.c (.int 2)), .bin .add (.var 4) (.c (.int 1))]]])] [
      .ifs (.e (.cmp .nmem (.var 3) (.tup [.gl g_sayings_P k_sayings_P, .gl g_sayings_NO k_sayings_NO]))) [
        .ret (.c (.bl false))] []]],
  .ret (.c (.bl true))] }
def b_sayings_sure_saying : Fn := { arity := 1, slots := 2, body := [
  .asg (.nm 1) (.call f_base_tupled [.var 0]),
  .ifs (.not (.e (.call f_sayings_is_saying_in [.var 1]))) [
    .raise 2 none] [],
  .ret (.var 1)] }
def b_sayings_parts_in : Fn := { arity := 1, slots := 1, body := [
  .ret (.ife (.e (.cmp .eq (.bi .len [.var 0]) (.c (.int 1)))) (.c (.int 1)) (.bin .add (.bin .add (.c (.int 1)) (.call f_sayings_parts_in [.ix (.var 0) (.c (.int 1))])) (.call f_sayings_parts_in [.ix (.var 0) (.c (.int 2))])))] }
def b_sayings_depth_in : Fn := { arity := 1, slots := 1, body := [
  .ret (.ife (.e (.cmp .eq (.bi .len [.var 0]) (.c (.int 1)))) (.c (.int 1)) (.bin .add (.c (.int 1)) (.bi .max2 [.call f_sayings_depth_in [.ix (.var 0) (.c (.int 1))], .call f_sayings_depth_in [.ix (.var 0) (.c (.int 2))]])))] }
def b_sayings_put_in : Fn := { arity := 2, slots := 2, body := [
  .ifs (.e (.cmp .eq (.var 0) (.gl g_sayings_P k_sayings_P))) [
    .ret (.var 1)] [],
  .ret (.ife (.e (.cmp .eq (.var 0) (.gl g_sayings_NO k_sayings_NO))) (.var 0) (.tup [.ix (.var 0) (.c (.int 0)), .call f_sayings_put_in [.ix (.var 0) (.c (.int 1)), .var 1], .call f_sayings_put_in [.ix (.var 0) (.c (.int 2)), .var 1]]))] }
def b_sayings_checked : Fn := { arity := 1, slots := 1, body := [
  .ifs (.or [.e (.cmp .gt (.call f_sayings_parts_in [.var 0]) (.gl g_sayings_MOST_PARTS k_sayings_MOST_PARTS)), .e (.cmp .gt (.call f_sayings_depth_in [.var 0]) (.gl g_sayings_MOST_DEEP k_sayings_MOST_DEEP))]) [
    .raise 1 none] [],
  .ret (.var 0)] }
def b_sayings_put : Fn := { arity := 2, slots := 6, body := [
  .asg (.nm 2) (.call f_sayings_sure_saying [.var 0]),
  .asg (.nm 3) (.call f_sayings_sure_saying [.var 1]),
  .asg (.tp [4, 5]) (.tup [.call f_sayings_how_often_p [.var 2], .call f_sayings_parts_in [.var 3]]),
  .ifs (.e (.cmp .gt (.bin .add (.call f_sayings_parts_in [.var 2]) (.bin .mul (.var 4) (.bin .sub (.var 5) (.c (.int 1))))) (.gl g_sayings_MOST_PARTS k_sayings_MOST_PARTS))) [
    .raise 1 none] [],
  .ret (.call f_sayings_checked [.call f_sayings_put_in [.var 2, .var 3]])] }
def b_sayings_how_often_p : Fn := { arity := 1, slots := 1, body := [
  .ifs (.e (.cmp .eq (.bi .len [.var 0]) (.c (.int 1)))) [
    .ret (.ife (.e (.cmp .eq (.var 0) (.gl g_sayings_P k_sayings_P))) (.c (.int 1)) (.c (.int 0)))] [],
  .ret (.bin .add (.call f_sayings_how_often_p [.ix (.var 0) (.c (.int 1))]) (.call f_sayings_how_often_p [.ix (.var 0) (.c (.int 2))]))] }
def b_sayings_plain_in : Fn := { arity := 2, slots := 4, body := [
  .ifs (.e (.cmp .eq (.bi .len [.var 0]) (.c (.int 1)))) [
    .ret (.ife (.e (.cmp .eq (.var 0) (.gl g_sayings_P k_sayings_P))) (.var 1) (.c (.bl false)))] [],
  .asg (.tp [2, 3]) (.tup [.call f_sayings_plain_in [.ix (.var 0) (.c (.int 1)), .var 1], .call f_sayings_plain_in [.ix (.var 0) (.c (.int 2)), .var 1]]),
  .ifs (.e (.cmp .eq (.ix (.var 0) (.c (.int 0))) (.c (.str [97,110,100])))) [
    .ret (.andE [.var 2, .var 3])] [],
  .ret (.ife (.e (.cmp .eq (.ix (.var 0) (.c (.int 0))) (.c (.str [111,114])))) (.orE [.var 2, .var 3]) (.orE [.notE (.var 2), .var 3]))] }
def b_ladder_is_place_in : Fn := { arity := 1, slots := 1, body := [
  .ret (.andE [.call f_base_is_number [.var 0], .chain .le .le (.gl g_ladder_ALL k_ladder_ALL) (.var 0) (.gl g_ladder_MOST_PLACE k_ladder_MOST_PLACE)])] }
def b_ladder_shape : Fn := { arity := 1, slots := 1, body := [
  .ifs (.e (.cmp .eq (.var 0) (.c (.int 0)))) [
    .ret (.tup [.neg (.c (.int 1)), .c (.bl false)])] [],
  .ifs (.e (.cmp .eq (.var 0) (.c (.int 2)))) [
    .ret (.tup [.neg (.c (.int 1)), .c (.bl true)])] [],
  .ret (.ife (.e (.cmp .eq (.bin .mod (.var 0) (.c (.int 2))) (.c (.int 1)))) (.tup [.bin .fdiv (.var 0) (.c (.int 2)), .c (.bl false)]) (.tup [.bin .sub (.bin .fdiv (.var 0) (.c (.int 2))) (.c (.int 2)), .c (.bl true)]))] }
def b_ladder_place_of_shape : Fn := { arity := 2, slots := 2, body := [
  .ifs (.e (.var 1)) [
    .ret (.bin .add (.bin .mul (.c (.int 2)) (.var 0)) (.c (.int 4)))] [],
  .ret (.ife (.e (.cmp .ge (.var 0) (.c (.int 0)))) (.bin .add (.bin .mul (.c (.int 2)) (.var 0)) (.c (.int 1))) (.c (.int 0)))] }
def b_ladder_has : Fn := { arity := 2, slots := 4, body := [
  .ifs (.e (.cmp .eq (.var 0) (.gl g_ladder_ALL k_ladder_ALL))) [
    .ret (.c (.bl true))] [],
  .asg (.tp [2, 3]) (.call f_ladder_shape [.var 0]),
  .ret (.orE [.cmp .le (.var 1) (.var 2), .andE [.var 3, .cmp .eq (.var 1) (.bin .add (.var 2) (.c (.int 2)))]])] }
def b_ladder_both_in : Fn := { arity := 2, slots := 6, body := [
  .ifs (.or [.e (.cmp .eq (.var 0) (.gl g_ladder_ALL k_ladder_ALL)), .e (.cmp .eq (.var 1) (.gl g_ladder_ALL k_ladder_ALL))]) [
    .ret (.bi .max2 [.var 0, .var 1])] [],
  .asg (.tp [2, 3]) (.ife (.e (.cmp .le (.call f_ladder_shape [.var 0]) (.call f_ladder_shape [.var 1]))) (.tup [.var 0, .var 1]) (.tup [.var 1, .var 0])),
  .asg (.tp [4, 5]) (.call f_ladder_shape [.var 2]),
  .ret (.call f_ladder_place_of_shape [.var 4, .andE [.var 5, .call f_ladder_has [.var 3, .bin .add (.var 4) (.c (.int 2))]]])] }
def b_ladder_either_in : Fn := { arity := 2, slots := 3, body := [
  .ifs (.or [.e (.cmp .eq (.var 0) (.gl g_ladder_ALL k_ladder_ALL)), .e (.cmp .eq (.var 1) (.gl g_ladder_ALL k_ladder_ALL))]) [
    .ret (.gl g_ladder_ALL k_ladder_ALL)] [],
  .asg (.nm 2) (.bi .max2 [.ix (.call f_ladder_shape [.var 0]) (.c (.int 0)), .ix (.call f_ladder_shape [.var 1]) (.c (.int 0))]),
  .whl (.or [.e (.call f_ladder_has [.var 0, .bin .add (.var 2) (.c (.int 1))]), .e (.call f_ladder_has [.var 1, .bin .add (.var 2) (.c (.int 1))])]) [
    .aug 2 .add (.c (.int 1))],
  .ret (.call f_ladder_place_of_shape [.var 2, .orE [.call f_ladder_has [.var 0, .bin .add (.var 2) (.c (.int 2))], .call f_ladder_has [.var 1, .bin .add (.var 2) (.c (.int 2))]]])] }
def b_ladder_first_beyond : Fn := { arity := 2, slots := 4, body := [
  .asg (.tp [2, 3]) (.call f_ladder_shape [.var 0]),
  .ifs (.e (.cmp .eq (.var 1) (.gl g_ladder_ALL k_ladder_ALL))) [
    .ret (.neg (.c (.int 1)))] [],
  .ifs (.e (.cmp .gt (.var 2) (.ix (.call f_ladder_shape [.var 1]) (.c (.int 0))))) [
    .ret (.bin .add (.ix (.call f_ladder_shape [.var 1]) (.c (.int 0))) (.c (.int 1)))] [],
  .ret (.ife (.and [.e (.var 3), .not (.e (.call f_ladder_has [.var 1, .bin .add (.var 2) (.c (.int 2))]))]) (.bin .add (.var 2) (.c (.int 2))) (.neg (.c (.int 1))))] }
def b_ladder_is_below_in : Fn := { arity := 2, slots := 2, body := [
  .ifs (.e (.cmp .eq (.var 1) (.gl g_ladder_ALL k_ladder_ALL))) [
    .ret (.c (.bl true))] [],
  .ret (.andE [.cmp .ne (.var 0) (.gl g_ladder_ALL k_ladder_ALL), .cmp .lt (.call f_ladder_first_beyond [.var 0, .var 1]) (.c (.int 0))])] }
def b_ladder_leads_in : Fn := { arity := 2, slots := 3, body := [
  .ifs (.e (.call f_ladder_is_below_in [.var 0, .var 1])) [
    .ret (.gl g_ladder_ALL k_ladder_ALL)] [],
  .ifs (.e (.cmp .eq (.var 0) (.gl g_ladder_ALL k_ladder_ALL))) [
    .ret (.var 1)] [],
  .asg (.nm 2) (.call f_ladder_first_beyond [.var 0, .var 1]),
  .ret (.call f_ladder_place_of_shape [.bin .sub (.var 2) (.c (.int 1)), .orE [.notE (.call f_ladder_has [.var 0, .bin .add (.var 2) (.c (.int 1))]), .call f_ladder_has [.var 1, .bin .add (.var 2) (.c (.int 1))]]])] }
def b_ladder_place_in : Fn := { arity := 2, slots := 4, body := [
  .ifs (.e (.cmp .eq (.var 0) (.gl g_sayings_P k_sayings_P))) [
    .ret (.var 1)] [],
  .ifs (.e (.cmp .eq (.var 0) (.gl g_sayings_NO k_sayings_NO))) [
    .ret (.c (.int 0))] [],
  .asg (.tp [2, 3]) (.tup [.call f_ladder_place_in [.ix (.var 0) (.c (.int 1)), .var 1], .call f_ladder_place_in [.ix (.var 0) (.c (.int 2)), .var 1]]),
  .ifs (.e (.cmp .eq (.ix (.var 0) (.c (.int 0))) (.c (.str [97,110,100])))) [
    .ret (.call f_ladder_both_in [.var 2, .var 3])] [],
  .ret (.ife (.e (.cmp .eq (.ix (.var 0) (.c (.int 0))) (.c (.str [111,114])))) (.call f_ladder_either_in [.var 2, .var 3]) (.call f_ladder_leads_in [.var 2, .var 3]))] }
def b_ladder_sure_place : Fn := { arity := 1, slots := 1, body := [
  .ifs (.not (.e (.call f_ladder_is_place_in [.var 0]))) [
    .raise 2 none] [],
  .ret (.var 0)] }
def b_ladder_place_of : Fn := { arity := 1, slots := 1, body := [
  .ret (.call f_ladder_place_in [.call f_sayings_sure_saying [.var 0], .c (.int 1)])] }
def b_ladder_both : Fn := { arity := 2, slots := 3, body := [
  .asg (.nm 2) (.call f_ladder_sure_place [.var 0]),
  .ret (.call f_ladder_both_in [.var 2, .call f_ladder_sure_place [.var 1]])] }
def b_ladder_is_below : Fn := { arity := 2, slots := 3, body := [
  .asg (.nm 2) (.call f_ladder_sure_place [.var 0]),
  .ret (.call f_ladder_is_below_in [.var 2, .call f_ladder_sure_place [.var 1]])] }
def b_axioms_schema_in : Fn := { arity := 1, slots := 3, body := [
  .asg (.nm 1) (.gl g_ladder_ALL k_ladder_ALL),
  .forS [2] false (.sq (.gl g_axioms_TRIED k_axioms_TRIED)) [
    .asg (.nm 1) (.call f_ladder_both_in [.var 1, .call f_ladder_place_in [.var 0, .var 2]])],
  .ret (.var 1)] }
def b_axioms_schema_place : Fn := { arity := 1, slots := 1, body := [
  .ret (.call f_axioms_schema_in [.call f_sayings_sure_saying [.var 0]])] }
def b_again_put_place : Fn := { arity := 2, slots := 3, body := [
  .asg (.nm 2) (.call f_sayings_sure_saying [.var 0]),
  .ret (.call f_ladder_place_in [.var 2, .call f_ladder_sure_place [.var 1]])] }
def b_law_law_box : Fn := { arity := 2, slots := 3, frz := false, body := [
  .asg (.nm 2) (.ife (.e (.cmp .lt (.var 1) (.bi .len [.var 0]))) (.ix (.var 0) (.var 1)) (.c (.int 0))),
  .ret (.nw (.lst [.bin .mul (.bi .abs [.var 2]) (.bi .int [.cmp .ge (.bi .abs [.var 2]) (.bin .pow (.c (.int 10)) (.c (.int 18)))]), .bin .add (.bin .add (.bin .mod (.bi .int [.var 2]) (.c (.int 2305843009213693951))) (.bin .mul (.c (.int 39373)) (.var 1))) (.c (.int 262980)), .c (.int 0)]))] }
def b_law_law_take : Fn := { arity := 2, slots := 6, body := [
  .ifs (.e (.cmp .gt (.ix (.var 0) (.c (.int 0))) (.c (.int 0)))) [
    .asg (.nm 2) (.bin .mod (.bi .int [.ix (.var 0) (.c (.int 0))]) (.var 1)),
    .asg (.ix (.var 0) (.c (.int 0))) (.bin .fdiv (.ix (.var 0) (.c (.int 0))) (.var 1)),
    .ret (.var 2)] [],
  .asg (.ix (.var 0) (.c (.int 2))) (.bin .add (.ix (.var 0) (.c (.int 2))) (.c (.int 1))),
  .asg (.nm 3) (.bin .mod (.bi .int [.bin .mul (.bin .add (.ix (.var 0) (.c (.int 1))) (.bin .mul (.c (.int 48271)) (.ix (.var 0) (.c (.int 2))))) (.bin .add (.c (.int 39373)) (.ix (.var 0) (.c (.int 2))))]) (.c (.int 2147483647))),
  .asg (.nm 4) (.bin .add (.bin .mod (.bi .int [.var 3]) (.c (.int 40009))) (.c (.int 7))),
  .asg (.nm 5) (.bin .mod (.bi .int [.bin .mul (.bin .add (.bin .add (.var 3) (.ix (.var 0) (.c (.int 2)))) (.bin .fdiv (.ix (.var 0) (.c (.int 1))) (.c (.int 1000003)))) (.var 4)]) (.c (.int 2147483629))),
  .ret (.bin .mod (.bi .int [.bin .fdiv (.bin .mod (.bi .int [.bin .add (.bin .mul (.var 5) (.c (.int 48271))) (.var 3)]) (.c (.int 2147483587))) (.c (.int 64))]) (.var 1))] }
def b_law_law_cells : Fn := { arity := 2, slots := 6, body := [
  .asg (.nm 2) (.orE [.nw (.bi .list [.sl (.var 0) (.c .non) (.var 1)]), .nw (.lst [.c (.int 0)])]),
  .forS [3, 4] true (.enum (.sl (.var 0) (.var 1) (.c (.int 63)))) [
    .asg (.nm 5) (.bin .mod (.bi .int [.var 3]) (.var 1)),
    .asg (.ix (.var 2) (.var 5)) (.bin .add (.ix (.var 2) (.var 5)) (.bin .mul (.var 4) (.bin .add (.var 3) (.c (.int 2)))))],
  .ret (.var 2)] }
def b_law_law_of : Fn := { arity := 2, slots := 2, body := [
  .ret (.ix (.var 1) (.call f_law_law_take [.var 0, .bi .len [.var 1]]))] }
def b_law_law_same : Fn := { arity := 2, slots := 4, body := [
  .ifs (.e (.isi (.var 1) [.list, .tuple])) [
    .ifs (.or [.e (.cmp .ne (.isi (.var 0) [.list]) (.isi (.var 1) [.list])), .e (.cmp .ne (.isi (.var 0) [.tuple]) (.isi (.var 1) [.tuple]))]) [
      .ret (.c (.bl false))] [],
    .ret (.andE [.cmp .eq (.bi .len [.var 0]) (.bi .len [.var 1]), .bi .all [.lc [2, 3] [2, 3] true (.zip (.var 0) (.var 1)) [] (.call f_law_law_same [.var 2, .var 3])]])] [],
  .ifs (.e (.cmp .is (.var 1) (.c .non))) [
    .ret (.cmp .is (.var 0) (.c .non))] [],
  .ifs (.e (.isi (.var 1) [.bool, .str])) [
    .ret (.andE [.cmp .eq (.isi (.var 0) [.bool]) (.isi (.var 1) [.bool]), .cmp .eq (.isi (.var 0) [.str]) (.isi (.var 1) [.str]), .cmp .eq (.var 0) (.var 1)])] [],
  .ret (.andE [.isi (.var 0) [.int], .notE (.isi (.var 0) [.bool]), .cmp .eq (.var 0) (.var 1)])] }
def b_law_law_saying : Fn := { arity := 2, slots := 3, body := [
  .ifs (.or [.e (.cmp .eq (.var 1) (.c (.int 0))), .e (.cmp .eq (.call f_law_law_take [.var 0, .c (.int 5)]) (.c (.int 0)))]) [
    .ret (.call f_law_law_of [.var 0, .lst [.tup [.c (.str [112])], .tup [.c (.str [112])], .tup [.c (.str [110,111])], .tup [.c (.str [116,111]), .tup [.c (.str [112])], .tup [.c (.str [110,111])]]]])] [],
  .asg (.nm 2) (.call f_law_law_of [.var 0, .lst [.c (.str [97,110,100]), .c (.str [111,114]), .c (.str [116,111]), .c (.str [116,111]), .c (.str [116,111])]]),
  .ret (.tup [.var 2, .call f_law_law_saying [.var 0, .bin .sub (.var 1) (.c (.int 1))], .call f_law_law_saying [.var 0, .bin .sub (.var 1) (.c (.int 1))]])] }
def b_ladder_either : Fn := { arity := 2, slots := 3, body := [
  .asg (.nm 2) (.call f_ladder_sure_place [.var 0]),
  .ret (.call f_ladder_either_in [.var 2, .call f_ladder_sure_place [.var 1]])] }
def b_ladder_leads : Fn := { arity := 2, slots := 3, body := [
  .asg (.nm 2) (.call f_ladder_sure_place [.var 0]),
  .ret (.call f_ladder_leads_in [.var 2, .call f_ladder_sure_place [.var 1]])] }
def b_again_walk : Fn := { arity := 1, slots := 2, body := [
  .asg (.nm 1) (.nw (.lst [.c (.int 1)])),
  .whl (.e (.cmp .nmem (.ix (.var 1) (.neg (.c (.int 1)))) (.sl (.var 1) (.c .non) (.neg (.c (.int 1)))))) [
    .ex (.meth .append (.var 1) [.call f_ladder_place_in [.var 0, .ix (.var 1) (.neg (.c (.int 1)))]])],
  .ret (.var 1)] }
def b_again_round_of : Fn := { arity := 1, slots := 3, body := [
  .asg (.nm 1) (.call f_again_walk [.call f_sayings_sure_saying [.var 0]]),
  .asg (.nm 2) (.meth .index (.var 1) [.ix (.var 1) (.neg (.c (.int 1)))]),
  .ret (.tup [.var 2, .bin .sub (.bin .sub (.bi .len [.var 1]) (.c (.int 1))) (.var 2)])] }
def b_again_can_hold : Fn := { arity := 1, slots := 2, body := [
  .asg (.nm 1) (.call f_sayings_sure_saying [.var 0]),
  .ret (.orE [.call f_sayings_plain_in [.var 1, .c (.bl true)], .call f_sayings_plain_in [.var 1, .c (.bl false)]])] }
def b_rungs_rung_in : Fn := { arity := 1, slots := 3, body := [
  .ifs (.e (.cmp .eq (.var 0) (.gl g_ladder_ALL k_ladder_ALL))) [
    .ret (.gl g_rungs_YES k_rungs_YES)] [],
  .asg (.nm 1) (.nw (.lst [.gl g_sayings_NO k_sayings_NO, .gl g_sayings_P k_sayings_P, .tup [.c (.str [116,111]), .gl g_sayings_P k_sayings_P, .gl g_sayings_NO k_sayings_NO]])),
  .whl (.e (.cmp .le (.bi .len [.var 1]) (.var 0))) [
    .asg (.nm 2) (.bi .len [.var 1]),
    .ifs (.e (.cmp .eq (.bin .mod (.var 2) (.c (.int 2))) (.c (.int 1)))) [
      .ex (.meth .append (.var 1) [.tup [.c (.str [111,114]), .ix (.var 1) (.bin .sub (.var 2) (.c (.int 2))), .ix (.var 1) (.bin .sub (.var 2) (.c (.int 1)))]])] [
      .ex (.meth .append (.var 1) [.tup [.c (.str [116,111]), .ix (.var 1) (.bin .sub (.var 2) (.c (.int 1))), .ix (.var 1) (.bin .sub (.var 2) (.c (.int 3)))]])]],
  .ret (.ix (.var 1) (.var 0))] }
def b_rungs_rung_parts_in : Fn := { arity := 1, slots := 3, body := [
  .ifs (.e (.cmp .eq (.var 0) (.gl g_ladder_ALL k_ladder_ALL))) [
    .ret (.c (.int 3))] [],
  .asg (.nm 1) (.nw (.lst [.c (.int 1), .c (.int 1), .c (.int 3)])),
  .whl (.e (.cmp .le (.bi .len [.var 1]) (.var 0))) [
    .asg (.nm 2) (.bi .len [.var 1]),
    .ex (.meth .append (.var 1) [.bin .add (.bin .add (.c (.int 1)) (.ix (.var 1) (.bin .sub (.var 2) (.c (.int 1))))) (.ix (.var 1) (.ife (.e (.cmp .eq (.bin .mod (.var 2) (.c (.int 2))) (.c (.int 1)))) (.bin .sub (.var 2) (.c (.int 2))) (.bin .sub (.var 2) (.c (.int 3)))))])],
  .ret (.ix (.var 1) (.var 0))] }
def b_rungs_sure_rung : Fn := { arity := 1, slots := 1, body := [
  .ifs (.or [.e (.cmp .gt (.var 0) (.gl g_rungs_MOST_RUNG k_rungs_MOST_RUNG)), .e (.cmp .gt (.call f_rungs_rung_parts_in [.var 0]) (.gl g_sayings_MOST_PARTS k_sayings_MOST_PARTS))]) [
    .raise 1 none] [],
  .ret (.var 0)] }
def b_rungs_rung : Fn := { arity := 1, slots := 1, body := [
  .ret (.call f_rungs_rung_in [.call f_rungs_sure_rung [.call f_ladder_sure_place [.var 0]]])] }
def b_again_places : Fn := { arity := 1, slots := 1, body := [
  .ret (.call f_again_walk [.call f_sayings_sure_saying [.var 0]])] }
def b_again_place_far : Fn := { arity := 2, slots := 6, body := [
  .asg (.nm 2) (.call f_sayings_sure_saying [.var 0]),
  .asg (.nm 3) (.call f_base_sure_within [.var 1, .c (.int 0), .bin .pow (.c (.int 10)) (.c (.int 60))]),
  .asg (.nm 4) (.call f_again_walk [.var 2]),
  .asg (.nm 5) (.meth .index (.var 4) [.ix (.var 4) (.neg (.c (.int 1)))]),
  .ifs (.e (.cmp .lt (.var 3) (.bi .len [.var 4]))) [
    .ret (.ix (.var 4) (.var 3))] [],
  .ret (.ix (.var 4) (.bin .add (.var 5) (.bin .mod (.bin .sub (.var 3) (.var 5)) (.bin .sub (.bin .sub (.bi .len [.var 4]) (.c (.int 1))) (.var 5)))))] }
def b_again_makes_hold : Fn := { arity := 2, slots := 3, body := [
  .asg (.nm 2) (.call f_sayings_sure_saying [.var 0]),
  .ret (.cmp .eq (.call f_ladder_place_in [.var 2, .call f_ladder_sure_place [.var 1]]) (.gl g_ladder_ALL k_ladder_ALL))] }
def b_again_first_that_holds : Fn := { arity := 1, slots := 3, body := [
  .asg (.nm 1) (.call f_sayings_sure_saying [.var 0]),
  .forS [2] false (.sq (.tup [.c (.int 0), .gl g_ladder_ALL k_ladder_ALL])) [
    .ifs (.e (.cmp .eq (.call f_ladder_place_in [.var 1, .var 2]) (.gl g_ladder_ALL k_ladder_ALL))) [
      .ret (.var 2)] []],
  .raise 0 none] }
def b_law_law_call2 : Fn := { arity := 2, slots := 2, body := [
  .ifs (.e (.cmp .eq (.bi .len [.var 1]) (.c (.int 1)))) [
    .ret (.callv 0 [.ix (.var 1) (.c (.int 0))])] [],
  .ifs (.e (.cmp .eq (.bi .len [.var 1]) (.c (.int 2)))) [
    .ret (.callv 0 [.ix (.var 1) (.c (.int 0)), .ix (.var 1) (.c (.int 1))])] [],
  .ifs (.e (.cmp .eq (.bi .len [.var 1]) (.c (.int 3)))) [
    .ret (.callv 0 [.ix (.var 1) (.c (.int 0)), .ix (.var 1) (.c (.int 1)), .ix (.var 1) (.c (.int 2))])] [],
  .ret (.callv 0 [.ix (.var 1) (.c (.int 0)), .ix (.var 1) (.c (.int 1)), .ix (.var 1) (.c (.int 2)), .ix (.var 1) (.c (.int 3))])] }
def b_law_law_refused : Fn := { arity := 3, slots := 6, body := [
  .asg (.tp [3, 4]) (.tup [.c .non, .c .non]),
  .tryS [
    .asg (.nm 4) (.call f_law_law_call2 [.var 0, .var 1])] [.mk [0] (some 5) [
      .asg (.nm 3) (.ife (.e (.isi (.var 5) [.valueError])) (.c (.str [99,97,110,110,111,116])) (.c .non))], .mk [1] (some 5) [
      .asg (.nm 3) (.ife (.e (.isi (.var 5) [.valueError])) (.c (.str [109,97,110,121])) (.c .non))], .mk [2] (some 5) [
      .asg (.nm 3) (.ife (.e (.isi (.var 5) [.valueError])) (.c (.str [117,110,102,105,116])) (.c .non))]],
  .ret (.andE [.cmp .is (.var 4) (.c .non), .cmp .eq (.var 3) (.var 2)])] }
def b_law_law_rung : Fn := { arity := 2, slots := 5, body := [
  .asg (.nm 2) (.nw (.lst [.c (.int 0), .var 1, .call f_ladder_leads [.var 1, .c (.int 0)]])),
  .forS [3] false (.rng1 (.var 0)) [
    .asg (.nm 4) (.bi .len [.var 2]),
    .ex (.meth .append (.var 2) [.ife (.e (.cmp .eq (.bin .mod (.var 4) (.c (.int 2))) (.c (.int 1)))) (.call f_ladder_either [.ix (.var 2) (.bin .sub (.var 4) (.c (.int 2))), .ix (.var 2) (.bin .sub (.var 4) (.c (.int 1)))]) (.call f_ladder_leads [.ix (.var 2) (.bin .sub (.var 4) (.c (.int 1))), .ix (.var 2) (.bin .sub (.var 4) (.c (.int 3)))])])],
  .ret (.ife (.e (.cmp .eq (.var 0) (.neg (.c (.int 1))))) (.neg (.c (.int 1))) (.ix (.var 2) (.var 0)))] }
def b_law_k38 : Fn := { arity := 1, slots := 17, body := [
  .asg (.nm 1) (.call f_law_law_box [.call f_law_law_cells [.var 0, .c (.int 1)], .c (.int 0)]),
  .forS [2] false (.rng1 (.c (.int 5))) [
    .asg (.tp [3, 4, 5]) (.tup [.call f_law_law_saying [.var 1, .c (.int 3)], .call f_law_law_saying [.var 1, .c (.int 2)], .bin .sub (.call f_law_law_take [.var 1, .c (.int 30)]) (.c (.int 1))]),
    .ifs (.not (.e (.call f_law_law_same [.lst [.call f_again_put_place [.call f_sayings_put [.var 3, .var 4], .var 5], .call f_again_put_place [.var 3, .c (.int 1)], .call f_again_put_place [.tup [.c (.str [112])], .var 5]], .lst [.call f_again_put_place [.var 3, .call f_again_put_place [.var 4, .var 5]], .call f_ladder_place_of [.var 3], .var 5]]))) [
      .ret (.c (.bl false))] [],
    .forS [6, 7] true (.sq (.tup [.tup [.c (.str [97,110,100]), .gl f_ladder_both (.fn f_ladder_both)], .tup [.c (.str [111,114]), .gl f_ladder_either (.fn f_ladder_either)], .tup [.c (.str [116,111]), .gl f_ladder_leads (.fn f_ladder_leads)]])) [
      .ifs (.not (.e (.call f_law_law_same [.call f_again_put_place [.tup [.var 6, .var 3, .var 4], .var 5], .callv 7 [.call f_again_put_place [.var 3, .var 5], .call f_again_put_place [.var 4, .var 5]]]))) [
        .ret (.c (.bl false))] []],
    .asg (.nm 8) (.call f_ladder_place_of [.var 3]),
    .ifs (.and [.e (.cmp .le (.var 8) (.c (.int 12))), .not (.e (.call f_law_law_same [.lst [.call f_again_put_place [.call f_rungs_rung [.var 8], .var 5], .call f_again_put_place [.var 3, .var 5]], .bin .mul (.lst [.call f_law_law_rung [.var 8, .var 5]]) (.c (.int 2))]))]) [
      .ret (.c (.bl false))] [],
    .asg (.tp [9, 10]) (.call f_again_round_of [.var 3]),
    .asg (.tp [11, 12]) (.tup [.call f_again_places [.var 3], .c (.int 1)]),
    .forS [13] false (.rng1 (.bi .len [.var 11])) [
      .ifs (.not (.e (.call f_law_law_same [.lst [.ix (.var 11) (.var 13), .call f_again_place_far [.var 3, .var 13]], .lst [.var 12, .var 12]]))) [
        .ret (.c (.bl false))] [],
      .asg (.nm 12) (.call f_again_put_place [.var 3, .var 12])],
    .asg (.nm 14) (.bin .mul (.call f_law_law_take [.var 1, .bin .pow (.c (.int 10)) (.c (.int 9))]) (.bin .pow (.c (.int 10)) (.c (.int 20)))),
    .ifs (.not (.e (.call f_law_law_same [.lst [.cmp .mem (.var 10) (.tup [.c (.int 1), .c (.int 2)]), .bi .len [.var 11], .ix (.var 11) (.neg (.c (.int 1))), .call f_again_place_far [.var 3, .bin .add (.var 9) (.bin .mul (.var 14) (.var 10))], .call f_again_place_far [.var 3, .bin .add (.var 14) (.c (.int 1))]], .lst [.c (.bl true), .bin .add (.bin .add (.var 9) (.var 10)) (.c (.int 1)), .ix (.var 11) (.var 9), .ix (.var 11) (.var 9), .call f_again_put_place [.var 3, .call f_again_place_far [.var 3, .var 14]]]]))) [
      .ret (.c (.bl false))] [],
    .asg (.nm 15) (.lc [16] [16] false (.rng2 (.neg (.c (.int 1))) (.c (.int 30))) [.e (.call f_again_makes_hold [.var 3, .var 16])] (.var 16)),
    .ifs (.not (.e (.call f_law_law_same [.lst [.call f_again_can_hold [.var 3], .andE [.cmp .ne (.var 15) (.lst []), .orE [.cmp .mem (.c (.int 0)) (.var 15), .cmp .mem (.neg (.c (.int 1))) (.var 15)]], .call f_again_makes_hold [.var 3, .var 5]], .lst [.cmp .ne (.var 15) (.lst []), .cmp .ne (.var 15) (.lst []), .cmp .eq (.call f_again_put_place [.var 3, .var 5]) (.neg (.c (.int 1)))]]))) [
      .ret (.c (.bl false))] [],
    .ifs (.e (.cmp .eq (.var 15) (.lst []))) [
      .ifs (.not (.e (.call f_law_law_refused [.gl f_again_first_that_holds (.fn f_again_first_that_holds), .tup [.var 3], .c (.str [99,97,110,110,111,116])]))) [
        .ret (.c (.bl false))] []] [
      .ifs (.not (.e (.call f_law_law_same [.call f_again_first_that_holds [.var 3], .ife (.e (.cmp .mem (.c (.int 0)) (.var 15))) (.c (.int 0)) (.neg (.c (.int 1)))]))) [
        .ret (.c (.bl false))] []],
    .ifs (.or [.not (.e (.call f_ladder_is_below [.call f_axioms_schema_place [.var 3], .call f_again_put_place [.var 3, .var 5]])), .not (.e (.call f_ladder_is_below [.call f_axioms_schema_place [.var 3], .call f_again_place_far [.var 3, .bin .add (.c (.int 1)) (.call f_law_law_take [.var 1, .c (.int 9)])]]))]) [
      .ret (.c (.bl false))] []],
  .ret (.c (.bl true))] }
def prog : Nat → Option Fn
  | 0 => some b_base_is_number
  | 1 => some b_base_is_within
  | 5 => some b_base_tupled
  | 6 => some b_base_sure_within
  | 7 => some b_sayings_is_saying_in
  | 8 => some b_sayings_sure_saying
  | 9 => some b_sayings_parts_in
  | 10 => some b_sayings_depth_in
  | 11 => some b_sayings_put_in
  | 12 => some b_sayings_checked
  | 13 => some b_sayings_put
  | 14 => some b_sayings_how_often_p
  | 16 => some b_sayings_plain_in
  | 17 => some b_ladder_is_place_in
  | 18 => some b_ladder_shape
  | 19 => some b_ladder_place_of_shape
  | 20 => some b_ladder_has
  | 21 => some b_ladder_both_in
  | 22 => some b_ladder_either_in
  | 23 => some b_ladder_first_beyond
  | 24 => some b_ladder_is_below_in
  | 25 => some b_ladder_leads_in
  | 26 => some b_ladder_place_in
  | 27 => some b_ladder_sure_place
  | 28 => some b_ladder_place_of
  | 29 => some b_ladder_both
  | 30 => some b_ladder_is_below
  | 33 => some b_axioms_schema_in
  | 36 => some b_axioms_schema_place
  | 41 => some b_again_put_place
  | 54 => some b_law_law_box
  | 55 => some b_law_law_take
  | 56 => some b_law_law_cells
  | 57 => some b_law_law_of
  | 58 => some b_law_law_same
  | 59 => some b_law_law_saying
  | 111 => some b_ladder_either
  | 144 => some b_ladder_leads
  | 145 => some b_again_walk
  | 146 => some b_again_round_of
  | 147 => some b_again_can_hold
  | 160 => some b_rungs_rung_in
  | 161 => some b_rungs_rung_parts_in
  | 162 => some b_rungs_sure_rung
  | 163 => some b_rungs_rung
  | 239 => some b_again_places
  | 240 => some b_again_place_far
  | 241 => some b_again_makes_hold
  | 242 => some b_again_first_that_holds
  | 243 => some b_law_law_call2
  | 244 => some b_law_law_refused
  | 245 => some b_law_law_rung
  | 246 => some b_law_k38
  | _ => none
end Lad
set_option Elab.async false
set_option linter.all false
set_option maxRecDepth 100000
set_option maxHeartbeats 0
/-! Printed by gen2.py: the names of the row. -/
namespace Lad
open PySem PySem.Spec PyProof.Rows L2
def top (i : Nat) : Stmt := PySem.Challenge.pw_ladderofone_k38_across_sayings_put_on_ag.main.body.getD i (.Pass ⟨0, 0, 0, 0⟩)
def q_0 : Fx := ⟨0, "is_number", 5, ["thing"], 1⟩
def q_1 : Fx := ⟨1, "is_within", 6, ["thing", "least", "most"], 3⟩
def q_2 : Fx := ⟨5, "tupled", 7, ["value", "own"], 1⟩
def q_3 : Fx := ⟨6, "sure_within", 8, ["thing", "least", "most"], 3⟩
def q_4 : Fx := ⟨7, "is_saying_in", 15, ["thing", "rest", "many", "own", "deep"], 1⟩
def q_5 : Fx := ⟨8, "sure_saying", 16, ["value", "own"], 1⟩
def q_6 : Fx := ⟨9, "parts_in", 17, ["saying"], 1⟩
def q_7 : Fx := ⟨10, "depth_in", 18, ["saying"], 1⟩
def q_8 : Fx := ⟨11, "put_in", 19, ["saying", "other"], 2⟩
def q_9 : Fx := ⟨12, "checked", 20, ["saying"], 1⟩
def q_10 : Fx := ⟨13, "put", 21, ["saying", "other", "own", "its", "often", "small"], 2⟩
def q_11 : Fx := ⟨14, "how_often_p", 22, ["saying"], 1⟩
def q_12 : Fx := ⟨16, "plain_in", 23, ["saying", "told", "one", "other"], 2⟩
def q_13 : Fx := ⟨17, "is_place_in", 27, ["thing"], 1⟩
def q_14 : Fx := ⟨18, "shape", 28, ["place"], 1⟩
def q_15 : Fx := ⟨19, "place_of_shape", 29, ["last", "more"], 2⟩
def q_16 : Fx := ⟨20, "has", 30, ["place", "point", "last", "more"], 2⟩
def q_17 : Fx := ⟨21, "both_in", 31, ["one", "other", "near", "far", "last", "more"], 2⟩
def q_18 : Fx := ⟨22, "either_in", 32, ["one", "other", "last"], 2⟩
def q_19 : Fx := ⟨23, "first_beyond", 33, ["one", "other", "last", "more"], 2⟩
def q_20 : Fx := ⟨24, "is_below_in", 34, ["one", "other"], 2⟩
def q_21 : Fx := ⟨25, "leads_in", 35, ["one", "other", "least"], 2⟩
def q_22 : Fx := ⟨26, "place_in", 36, ["saying", "told", "one", "other"], 2⟩
def q_23 : Fx := ⟨27, "sure_place", 37, ["thing"], 1⟩
def q_24 : Fx := ⟨28, "place_of", 38, ["saying"], 1⟩
def q_25 : Fx := ⟨29, "both", 39, ["one", "other", "own"], 2⟩
def q_26 : Fx := ⟨111, "either", 40, ["one", "other", "own"], 2⟩
def q_27 : Fx := ⟨144, "leads", 41, ["one", "other", "own"], 2⟩
def q_28 : Fx := ⟨30, "is_below", 42, ["one", "other", "own"], 2⟩
def q_29 : Fx := ⟨145, "walk", 44, ["saying", "found"], 1⟩
def q_30 : Fx := ⟨41, "put_place", 45, ["saying", "place", "own"], 2⟩
def q_31 : Fx := ⟨239, "places_again", 46, ["saying"], 1⟩
def q_32 : Fx := ⟨146, "round_of", 47, ["saying", "found", "before"], 1⟩
def q_33 : Fx := ⟨240, "place_far", 48, ["saying", "times", "own", "often", "found", "before"], 2⟩
def q_34 : Fx := ⟨147, "can_hold", 49, ["saying", "own"], 1⟩
def q_35 : Fx := ⟨241, "makes_hold", 50, ["saying", "place", "own"], 2⟩
def q_36 : Fx := ⟨242, "first_that_holds", 51, ["saying", "own", "place"], 1⟩
def q_37 : Fx := ⟨160, "rung_in", 55, ["place", "rungs", "number"], 1⟩
def q_38 : Fx := ⟨161, "rung_parts_in", 56, ["place", "parts", "number"], 1⟩
def q_39 : Fx := ⟨162, "sure_rung", 57, ["place"], 1⟩
def q_40 : Fx := ⟨163, "rung", 58, ["place"], 1⟩
def q_41 : Fx := ⟨33, "schema_in", 61, ["saying", "found", "place"], 1⟩
def q_42 : Fx := ⟨36, "schema_place", 62, ["saying"], 1⟩
def q_43 : Fx := ⟨54, "_law_box", 64, ["script", "k", "bit_so"], 2⟩
def q_44 : Fx := ⟨55, "_law_take", 65, ["tin", "below_so", "drawn_so", "once_so", "wide_so", "twice_so"], 2⟩
def q_45 : Fx := ⟨56, "_law_cells", 66, ["script", "most_so", "cells_so", "k", "bit_so", "at_so"], 2⟩
def q_46 : Fx := ⟨57, "_law_of", 67, ["tin", "goods_so"], 2⟩
def q_47 : Fx := ⟨58, "_law_same", 68, ["got", "due", "mine", "its"], 2⟩
def q_48 : Fx := ⟨243, "_law_call", 69, ["door", "goods_so"], 2⟩
def q_49 : Fx := ⟨59, "_law_saying", 70, ["tin", "deep_so", "word_so"], 2⟩
def q_50 : Fx := ⟨244, "_law_refused", 71, ["door", "goods_so", "wished", "caught", "told_so", "slip_so"], 3⟩
def q_51 : Fx := ⟨245, "_law_rung", 72, ["k", "place_so", "rows_so", "step_so", "n"], 2⟩
def q_52 : Fx := ⟨246, "law", 73, ["script", "tin", "lap", "one_so", "two", "x", "word_so", "door", "k", "before_so", "turn_so", "walk_so", "here", "step_so", "far_so", "good_so", "j"], 1⟩
def fl : List Fx := [q_0, q_1, q_2, q_3, q_4, q_5, q_6, q_7, q_8, q_9, q_10, q_11, q_12, q_13, q_14, q_15, q_16, q_17, q_18, q_19, q_20, q_21, q_22, q_23, q_24, q_25, q_26, q_27, q_28, q_29, q_30, q_31, q_32, q_33, q_34, q_35, q_36, q_37, q_38, q_39, q_40, q_41, q_42, q_43, q_44, q_45, q_46, q_47, q_48, q_49, q_50, q_51, q_52]
def tb : Tb := [(("is_number" : PySem.Str), Mean.fn 0),
  (("is_within" : PySem.Str), Mean.fn 1),
  (("tupled" : PySem.Str), Mean.fn 5),
  (("sure_within" : PySem.Str), Mean.fn 6),
  (("is_saying_in" : PySem.Str), Mean.fn 7),
  (("sure_saying" : PySem.Str), Mean.fn 8),
  (("parts_in" : PySem.Str), Mean.fn 9),
  (("depth_in" : PySem.Str), Mean.fn 10),
  (("put_in" : PySem.Str), Mean.fn 11),
  (("checked" : PySem.Str), Mean.fn 12),
  (("put" : PySem.Str), Mean.fn 13),
  (("how_often_p" : PySem.Str), Mean.fn 14),
  (("plain_in" : PySem.Str), Mean.fn 16),
  (("is_place_in" : PySem.Str), Mean.fn 17),
  (("shape" : PySem.Str), Mean.fn 18),
  (("place_of_shape" : PySem.Str), Mean.fn 19),
  (("has" : PySem.Str), Mean.fn 20),
  (("both_in" : PySem.Str), Mean.fn 21),
  (("either_in" : PySem.Str), Mean.fn 22),
  (("first_beyond" : PySem.Str), Mean.fn 23),
  (("is_below_in" : PySem.Str), Mean.fn 24),
  (("leads_in" : PySem.Str), Mean.fn 25),
  (("place_in" : PySem.Str), Mean.fn 26),
  (("sure_place" : PySem.Str), Mean.fn 27),
  (("place_of" : PySem.Str), Mean.fn 28),
  (("both" : PySem.Str), Mean.fn 29),
  (("either" : PySem.Str), Mean.fn 111),
  (("leads" : PySem.Str), Mean.fn 144),
  (("is_below" : PySem.Str), Mean.fn 30),
  (("walk" : PySem.Str), Mean.fn 145),
  (("put_place" : PySem.Str), Mean.fn 41),
  (("places_again" : PySem.Str), Mean.fn 239),
  (("round_of" : PySem.Str), Mean.fn 146),
  (("place_far" : PySem.Str), Mean.fn 240),
  (("can_hold" : PySem.Str), Mean.fn 147),
  (("makes_hold" : PySem.Str), Mean.fn 241),
  (("first_that_holds" : PySem.Str), Mean.fn 242),
  (("rung_in" : PySem.Str), Mean.fn 160),
  (("rung_parts_in" : PySem.Str), Mean.fn 161),
  (("sure_rung" : PySem.Str), Mean.fn 162),
  (("rung" : PySem.Str), Mean.fn 163),
  (("schema_in" : PySem.Str), Mean.fn 33),
  (("schema_place" : PySem.Str), Mean.fn 36),
  (("_law_box" : PySem.Str), Mean.fn 54),
  (("_law_take" : PySem.Str), Mean.fn 55),
  (("_law_cells" : PySem.Str), Mean.fn 56),
  (("_law_of" : PySem.Str), Mean.fn 57),
  (("_law_same" : PySem.Str), Mean.fn 58),
  (("_law_call" : PySem.Str), Mean.fn 243),
  (("_law_saying" : PySem.Str), Mean.fn 59),
  (("_law_refused" : PySem.Str), Mean.fn 244),
  (("_law_rung" : PySem.Str), Mean.fn 245),
  (("law" : PySem.Str), Mean.fn 246),
  (("P" : PySem.Str), Mean.val k_sayings_P),
  (("NO" : PySem.Str), Mean.val k_sayings_NO),
  (("JOINS" : PySem.Str), Mean.val k_sayings_JOINS),
  (("MOST_PARTS" : PySem.Str), Mean.val k_sayings_MOST_PARTS),
  (("MOST_DEEP" : PySem.Str), Mean.val k_sayings_MOST_DEEP),
  (("ALL" : PySem.Str), Mean.val k_ladder_ALL),
  (("MOST_PLACE" : PySem.Str), Mean.val k_ladder_MOST_PLACE),
  (("YES" : PySem.Str), Mean.val k_rungs_YES),
  (("MOST_RUNG" : PySem.Str), Mean.val k_rungs_MOST_RUNG),
  (("TRIED" : PySem.Str), Mean.val k_axioms_TRIED),
  (("CanNot" : PySem.Str), Mean.exc 0),
  (("TooMany" : PySem.Str), Mean.exc 1),
  (("Unfit" : PySem.Str), Mean.exc 2),
  (("len" : PySem.Str), Mean.blt),
  (("abs" : PySem.Str), Mean.blt),
  (("int" : PySem.Str), Mean.blt),
  (("str" : PySem.Str), Mean.blt),
  (("tuple" : PySem.Str), Mean.blt),
  (("list" : PySem.Str), Mean.blt),
  (("all" : PySem.Str), Mean.blt),
  (("max" : PySem.Str), Mean.blt),
  (("range" : PySem.Str), Mean.blt),
  (("zip" : PySem.Str), Mean.blt),
  (("enumerate" : PySem.Str), Mean.blt),
  (("isinstance" : PySem.Str), Mean.blt),
  (("bool" : PySem.Str), Mean.blt),
  (("ValueError" : PySem.Str), Mean.blt)]
def cs : List Cn := [⟨"P", [.str "p"], k_sayings_P⟩,
  ⟨"NO", [.str "no"], k_sayings_NO⟩,
  ⟨"JOINS", [.str "and", .str "or", .str "to"], k_sayings_JOINS⟩,
  ⟨"YES", [.str "to", .glo "NO", .glo "NO"], k_rungs_YES⟩,
  ⟨"TRIED", [.int (0), .int (1), .int (2), .int (3), .int (4), .int (-1)], k_axioms_TRIED⟩]
theorem c1 : fl.all (fxB top tb prog) = true := by decide +kernel
theorem c2 : tbB fl tb cs = true := by decide +kernel
theorem c3 : cnsB [] cs = true := by decide +kernel
abbrev Bd (q : Fx) : Prop := ∀ (kV doc pm : Value) (an : Option Addr) (cdv ct : Value) (us : List Value), us.length = (q.N.take q.np).length → bindArgs (PySem.W.fnOf q.nm q.nm (defArgs (top q.ix)) (defBody (top q.ix)) (defScope (top q.ix)) .none kV doc pm an cdv ct) ⟨us, []⟩ = pure ((q.N.take q.np).zip us)
theorem b_0 : Bd q_0 := fun _ _ _ _ _ _ us hl => match us, hl with | [_], _ => by kernel_rfl
theorem b_1 : Bd q_1 := fun _ _ _ _ _ _ us hl => match us, hl with | [_, _, _], _ => by kernel_rfl
theorem b_2 : Bd q_2 := fun _ _ _ _ _ _ us hl => match us, hl with | [_], _ => by kernel_rfl
theorem b_3 : Bd q_3 := fun _ _ _ _ _ _ us hl => match us, hl with | [_, _, _], _ => by kernel_rfl
theorem b_4 : Bd q_4 := fun _ _ _ _ _ _ us hl => match us, hl with | [_], _ => by kernel_rfl
theorem b_5 : Bd q_5 := fun _ _ _ _ _ _ us hl => match us, hl with | [_], _ => by kernel_rfl
theorem b_6 : Bd q_6 := fun _ _ _ _ _ _ us hl => match us, hl with | [_], _ => by kernel_rfl
theorem b_7 : Bd q_7 := fun _ _ _ _ _ _ us hl => match us, hl with | [_], _ => by kernel_rfl
theorem b_8 : Bd q_8 := fun _ _ _ _ _ _ us hl => match us, hl with | [_, _], _ => by kernel_rfl
theorem b_9 : Bd q_9 := fun _ _ _ _ _ _ us hl => match us, hl with | [_], _ => by kernel_rfl
theorem b_10 : Bd q_10 := fun _ _ _ _ _ _ us hl => match us, hl with | [_, _], _ => by kernel_rfl
theorem b_11 : Bd q_11 := fun _ _ _ _ _ _ us hl => match us, hl with | [_], _ => by kernel_rfl
theorem b_12 : Bd q_12 := fun _ _ _ _ _ _ us hl => match us, hl with | [_, _], _ => by kernel_rfl
theorem b_13 : Bd q_13 := fun _ _ _ _ _ _ us hl => match us, hl with | [_], _ => by kernel_rfl
theorem b_14 : Bd q_14 := fun _ _ _ _ _ _ us hl => match us, hl with | [_], _ => by kernel_rfl
theorem b_15 : Bd q_15 := fun _ _ _ _ _ _ us hl => match us, hl with | [_, _], _ => by kernel_rfl
theorem b_16 : Bd q_16 := fun _ _ _ _ _ _ us hl => match us, hl with | [_, _], _ => by kernel_rfl
theorem b_17 : Bd q_17 := fun _ _ _ _ _ _ us hl => match us, hl with | [_, _], _ => by kernel_rfl
theorem b_18 : Bd q_18 := fun _ _ _ _ _ _ us hl => match us, hl with | [_, _], _ => by kernel_rfl
theorem b_19 : Bd q_19 := fun _ _ _ _ _ _ us hl => match us, hl with | [_, _], _ => by kernel_rfl
theorem b_20 : Bd q_20 := fun _ _ _ _ _ _ us hl => match us, hl with | [_, _], _ => by kernel_rfl
theorem b_21 : Bd q_21 := fun _ _ _ _ _ _ us hl => match us, hl with | [_, _], _ => by kernel_rfl
theorem b_22 : Bd q_22 := fun _ _ _ _ _ _ us hl => match us, hl with | [_, _], _ => by kernel_rfl
theorem b_23 : Bd q_23 := fun _ _ _ _ _ _ us hl => match us, hl with | [_], _ => by kernel_rfl
theorem b_24 : Bd q_24 := fun _ _ _ _ _ _ us hl => match us, hl with | [_], _ => by kernel_rfl
theorem b_25 : Bd q_25 := fun _ _ _ _ _ _ us hl => match us, hl with | [_, _], _ => by kernel_rfl
theorem b_26 : Bd q_26 := fun _ _ _ _ _ _ us hl => match us, hl with | [_, _], _ => by kernel_rfl
theorem b_27 : Bd q_27 := fun _ _ _ _ _ _ us hl => match us, hl with | [_, _], _ => by kernel_rfl
theorem b_28 : Bd q_28 := fun _ _ _ _ _ _ us hl => match us, hl with | [_, _], _ => by kernel_rfl
theorem b_29 : Bd q_29 := fun _ _ _ _ _ _ us hl => match us, hl with | [_], _ => by kernel_rfl
theorem b_30 : Bd q_30 := fun _ _ _ _ _ _ us hl => match us, hl with | [_, _], _ => by kernel_rfl
theorem b_31 : Bd q_31 := fun _ _ _ _ _ _ us hl => match us, hl with | [_], _ => by kernel_rfl
theorem b_32 : Bd q_32 := fun _ _ _ _ _ _ us hl => match us, hl with | [_], _ => by kernel_rfl
theorem b_33 : Bd q_33 := fun _ _ _ _ _ _ us hl => match us, hl with | [_, _], _ => by kernel_rfl
theorem b_34 : Bd q_34 := fun _ _ _ _ _ _ us hl => match us, hl with | [_], _ => by kernel_rfl
theorem b_35 : Bd q_35 := fun _ _ _ _ _ _ us hl => match us, hl with | [_, _], _ => by kernel_rfl
theorem b_36 : Bd q_36 := fun _ _ _ _ _ _ us hl => match us, hl with | [_], _ => by kernel_rfl
theorem b_37 : Bd q_37 := fun _ _ _ _ _ _ us hl => match us, hl with | [_], _ => by kernel_rfl
theorem b_38 : Bd q_38 := fun _ _ _ _ _ _ us hl => match us, hl with | [_], _ => by kernel_rfl
theorem b_39 : Bd q_39 := fun _ _ _ _ _ _ us hl => match us, hl with | [_], _ => by kernel_rfl
theorem b_40 : Bd q_40 := fun _ _ _ _ _ _ us hl => match us, hl with | [_], _ => by kernel_rfl
theorem b_41 : Bd q_41 := fun _ _ _ _ _ _ us hl => match us, hl with | [_], _ => by kernel_rfl
theorem b_42 : Bd q_42 := fun _ _ _ _ _ _ us hl => match us, hl with | [_], _ => by kernel_rfl
theorem b_43 : Bd q_43 := fun _ _ _ _ _ _ us hl => match us, hl with | [_, _], _ => by kernel_rfl
theorem b_44 : Bd q_44 := fun _ _ _ _ _ _ us hl => match us, hl with | [_, _], _ => by kernel_rfl
theorem b_45 : Bd q_45 := fun _ _ _ _ _ _ us hl => match us, hl with | [_, _], _ => by kernel_rfl
theorem b_46 : Bd q_46 := fun _ _ _ _ _ _ us hl => match us, hl with | [_, _], _ => by kernel_rfl
theorem b_47 : Bd q_47 := fun _ _ _ _ _ _ us hl => match us, hl with | [_, _], _ => by kernel_rfl
theorem b_48 : Bd q_48 := fun _ _ _ _ _ _ us hl => match us, hl with | [_, _], _ => by kernel_rfl
theorem b_49 : Bd q_49 := fun _ _ _ _ _ _ us hl => match us, hl with | [_, _], _ => by kernel_rfl
theorem b_50 : Bd q_50 := fun _ _ _ _ _ _ us hl => match us, hl with | [_, _, _], _ => by kernel_rfl
theorem b_51 : Bd q_51 := fun _ _ _ _ _ _ us hl => match us, hl with | [_, _], _ => by kernel_rfl
theorem b_52 : Bd q_52 := fun _ _ _ _ _ _ us hl => match us, hl with | [_], _ => by kernel_rfl
theorem hb : ∀ q ∈ fl, Bd q := by
  unfold fl
  exact List.forall_mem_cons.mpr ⟨b_0, List.forall_mem_cons.mpr ⟨b_1, List.forall_mem_cons.mpr ⟨b_2, List.forall_mem_cons.mpr ⟨b_3, List.forall_mem_cons.mpr ⟨b_4, List.forall_mem_cons.mpr ⟨b_5, List.forall_mem_cons.mpr ⟨b_6, List.forall_mem_cons.mpr ⟨b_7, List.forall_mem_cons.mpr ⟨b_8, List.forall_mem_cons.mpr ⟨b_9, List.forall_mem_cons.mpr ⟨b_10, List.forall_mem_cons.mpr ⟨b_11, List.forall_mem_cons.mpr ⟨b_12, List.forall_mem_cons.mpr ⟨b_13, List.forall_mem_cons.mpr ⟨b_14, List.forall_mem_cons.mpr ⟨b_15, List.forall_mem_cons.mpr ⟨b_16, List.forall_mem_cons.mpr ⟨b_17, List.forall_mem_cons.mpr ⟨b_18, List.forall_mem_cons.mpr ⟨b_19, List.forall_mem_cons.mpr ⟨b_20, List.forall_mem_cons.mpr ⟨b_21, List.forall_mem_cons.mpr ⟨b_22, List.forall_mem_cons.mpr ⟨b_23, List.forall_mem_cons.mpr ⟨b_24, List.forall_mem_cons.mpr ⟨b_25, List.forall_mem_cons.mpr ⟨b_26, List.forall_mem_cons.mpr ⟨b_27, List.forall_mem_cons.mpr ⟨b_28, List.forall_mem_cons.mpr ⟨b_29, List.forall_mem_cons.mpr ⟨b_30, List.forall_mem_cons.mpr ⟨b_31, List.forall_mem_cons.mpr ⟨b_32, List.forall_mem_cons.mpr ⟨b_33, List.forall_mem_cons.mpr ⟨b_34, List.forall_mem_cons.mpr ⟨b_35, List.forall_mem_cons.mpr ⟨b_36, List.forall_mem_cons.mpr ⟨b_37, List.forall_mem_cons.mpr ⟨b_38, List.forall_mem_cons.mpr ⟨b_39, List.forall_mem_cons.mpr ⟨b_40, List.forall_mem_cons.mpr ⟨b_41, List.forall_mem_cons.mpr ⟨b_42, List.forall_mem_cons.mpr ⟨b_43, List.forall_mem_cons.mpr ⟨b_44, List.forall_mem_cons.mpr ⟨b_45, List.forall_mem_cons.mpr ⟨b_46, List.forall_mem_cons.mpr ⟨b_47, List.forall_mem_cons.mpr ⟨b_48, List.forall_mem_cons.mpr ⟨b_49, List.forall_mem_cons.mpr ⟨b_50, List.forall_mem_cons.mpr ⟨b_51, List.forall_mem_cons.mpr ⟨b_52, fun _ h => nomatch h⟩⟩⟩⟩⟩⟩⟩⟩⟩⟩⟩⟩⟩⟩⟩⟩⟩⟩⟩⟩⟩⟩⟩⟩⟩⟩⟩⟩⟩⟩⟩⟩⟩⟩⟩⟩⟩⟩⟩⟩⟩⟩⟩⟩⟩⟩⟩⟩⟩⟩⟩⟩⟩
abbrev lawF : Nat := 246
abbrev lawP : Nat := 73
end Lad
set_option Elab.async false
set_option linter.all false
set_option maxRecDepth 100000
set_option maxHeartbeats 0
namespace Lad
open PySem PySem.Spec PyProof.Rows L2
abbrev RowK : PySem.W.OpenRow := PySem.W.OpenLaw.row PySem.Challenge.rw_ladderofone_k38_across_sayings_put_on_ag
abbrev hkK : PySem.W.Hook := hookL 4 (ckK tb cs true) (allFa tb true) (fl.map (defD top))
def obK (s : PySem.W.SharedT) : He.AlD := obsLG 4 (ckK tb cs true) (allFa tb true) (fl.map (defD top)) (HandSHeadRun.getT s)
theorem obK_eq (s : PySem.W.SharedT) : obK s = hkK.obs s.abs := obsLG_eq (HandSHeadRun.getT_eq s)
theorem q_mem : q_52 ∈ fl := by
  unfold fl
  simp
def looseL : List PySem.Str := (["CanNot", "TooMany", "Unfit", "is_number", "is_within", "tupled", "sure_within", "P", "NO", "JOINS", "MOST_PARTS", "MOST_DEEP", "is_saying_in", "sure_saying", "parts_in", "depth_in", "put_in", "checked", "put", "how_often_p", "plain_in", "ALL", "MOST_PLACE", "is_place_in", "shape", "place_of_shape", "has", "both_in", "either_in", "first_beyond"] : List PySem.Str) ++ (["is_below_in", "leads_in", "place_in", "sure_place", "place_of", "both", "either", "leads", "is_below", "walk", "put_place", "places_again", "round_of", "place_far", "can_hold", "makes_hold", "first_that_holds", "YES", "MOST_RUNG", "rung_in", "rung_parts_in", "sure_rung", "rung", "TRIED", "schema_in", "schema_place", "_law_box", "_law_take", "_law_cells", "_law_of"] : List PySem.Str) ++ (["_law_same", "_law_call", "_law_saying", "_law_refused", "_law_rung"] : List PySem.Str)
theorem runK (w : World) : HandSHeadRun.RunEq RowK (PySem.W.view RowK.prog [lawP]) hkK obK 4000 looseL w := by
  intro os
  kernel_rfl
end Lad
set_option Elab.async false
set_option linter.all false
set_option maxRecDepth 100000
set_option maxHeartbeats 0
open PySem PySem.W PySem.Calls PyProof.Rows in
theorem Lad.end_of (LT : ∀ ns : List Int, ns.length ≤ 63 → (∀ j ∈ ns, Builtin.Int.intBits j ≤ 1048576) → ∃ h', Lad.callN Lad.prog 190 Lad.lawF [.scr ns] [] = .ok (.bl true) h') : PySem.Challenge.rw_ladderofone_k38_across_sayings_put_on_ag.Holds := by
  w_on; o_law
  refine HandSHeadRun.head_any (r := OpenLaw.row PySem.Challenge.rw_ladderofone_k38_across_sayings_put_on_ag) (q := view (OpenLaw.row PySem.Challenge.rw_ladderofone_k38_across_sayings_put_on_ag).prog [Lad.lawP]) (H := Lad.hkK) (ob := Lad.obK) (M := 4000) (loose := Lad.looseL) (d := HandSHeadRun.topDef (OpenLaw.row PySem.Challenge.rw_ladderofone_k38_across_sayings_put_on_ag).prog Lad.lawP) (kwd := []) Lad.obK_eq
    (by kernel_rfl) (fun s => by kernel_rfl) Lad.runK (by kernel_rfl) (by kernel_rfl) (by kernel_rfl) (by rfl) (by first | assumption | decide +kernel) (by decide +kernel) ⟨rfl, rfl, rfl, rfl, rfl, by decide +kernel⟩ ?hw ?hc
  case hw => w_witness2
  case hc =>
    refine Lad.walk_law (r := PySem.Challenge.rw_ladderofone_k38_across_sayings_put_on_ag) (n := 63) (k := 190) (x := "script") rfl (by decide) (by kernel_rfl) ⟨rfl, by decide, by decide⟩ ?F
    intro w mg fa h Y G hmg0
    obtain ⟨K, KX, c⟩ := Y
    have hmg : mg ("law" : PySem.Str) = some (.ref fa) := by
      have e : (HandSHeadRun.topDef (OpenLaw.row PySem.Challenge.rw_ladderofone_k38_across_sayings_put_on_ag).prog Lad.lawP).name = ("law" : PySem.Str) := by kernel_rfl
      rw [← e]
      exact hmg0
    obtain ⟨WK, FN⟩ := Lad.wok_of (P := (PySem.Challenge.rw_ladderofone_k38_across_sayings_put_on_ag).prog) (w := w) KX G c Lad.c1 Lad.c2 Lad.c3 Lad.hb
    obtain ⟨fd, FD, hb⟩ := FN Lad.q_52 Lad.q_mem (by kernel_rfl)
    have e1 := (WK.glo "law" Lad.lawF (by kernel_rfl)).1
    rw [hmg] at e1
    cases e1
    exact ⟨K, fd, Lad.spC (Lad.gOf Lad.fl Lad.tb K) (Lad.callN Lad.prog 190 Lad.lawF), KX, fun s v => hb s [v] rfl, fun H a ns hl hbits hS => Lad.law_sp hS (LT ns hl hbits), fun base _ _ => Lad.fn_all WK 190 Lad.lawF fd _ FD⟩
set_option Elab.async false
set_option linter.all false
set_option maxRecDepth 100000
set_option maxHeartbeats 4000000
/-! Equations of the evaluator, for simp. -/
namespace Lad
section
variable {C : CallT} {env : Env} {h : Hc}
@[simp] theorem e_var {i : Nat} : ev C (.var i) env h = match env[i]? with | some (some d) => .ok d h | _ => .fail := by rw [ev] <;> rfl
@[simp] theorem e_c {d : D} : ev C (.c d) env h = .ok d h := by rw [ev] <;> rfl
@[simp] theorem e_gl {k : Nat} {d : D} : ev C (.gl k d) env h = .ok d h := by rw [ev] <;> rfl
@[simp] theorem e_tup {es : List E} : ev C (.tup es) env h = (evs C es env h).bind fun ds h1 => .ok (.tup ds) h1 := by rw [ev] <;> rfl
@[simp] theorem e_lst {es : List E} : ev C (.lst es) env h = (evs C es env h).bind fun ds h1 => .ok (.lst ds) h1 := by rw [ev] <;> rfl
@[simp] theorem e_nw {e : E} : ev C (.nw e) env h = (ev C e env h).bind fun d h1 => match d with | .lst ds => .ok (.ref h1.length) (h1 ++ [.lst ds]) | _ => .fail := by rw [ev] <;> rfl
@[simp] theorem e_bin {op : Bop} {a b : E} : ev C (.bin op a b) env h = (ev C a env h).bind fun x h1 => (ev C b env h1).bind fun y h2 => Rs.opt (binD op x y) h2 := by rw [ev] <;> rfl
@[simp] theorem e_neg {a : E} : ev C (.neg a) env h = (ev C a env h).bind fun x h1 => match x with | .int i => .ok (.int (-i)) h1 | _ => .fail := by rw [ev] <;> rfl
@[simp] theorem e_not {a : E} : ev C (.notE a) env h = (ev C a env h).bind fun x h1 => match truthD h1 x with | some t => .ok (.bl (!t)) h1 | none => .fail := by rw [ev] <;> rfl
@[simp] theorem e_and {es : List E} : ev C (.andE es) env h = evAnd C es env h := by rw [ev] <;> rfl
@[simp] theorem e_or {es : List E} : ev C (.orE es) env h = evOr C es env h := by rw [ev] <;> rfl
@[simp] theorem e_cmp {op : Cop} {a b : E} : ev C (.cmp op a b) env h = (ev C a env h).bind fun x h1 => (ev C b env h1).bind fun y h2 => Rs.opt (cmpD op x y h2) h2 := by rw [ev] <;> rfl
@[simp] theorem e_chain {o1 o2 : Cop} {a b c : E} : ev C (.chain o1 o2 a b c) env h = (ev C a env h).bind fun x h1 => (ev C b env h1).bind fun y h2 => (Rs.opt (cmpD o1 x y h2) h2).bind fun r h3 => match r with | .bl true => (ev C c env h3).bind fun z h4 => Rs.opt (cmpD o2 y z h4) h4 | .bl false => .ok (.bl false) h3 | _ => .fail := by rw [ev] <;> rfl
@[simp] theorem e_ife {t : T} {a b : E} : ev C (.ife t a b) env h = (evT C t env h).bind fun k h1 => if k then ev C a env h1 else ev C b env h1 := by rw [ev] <;> rfl
@[simp] theorem e_ix {a b : E} : ev C (.ix a b) env h = (ev C a env h).bind fun x h1 => (ev C b env h1).bind fun y h2 => Rs.opt (ixD x y h2) h2 := by rw [ev] <;> rfl
@[simp] theorem e_sl {a lo hi : E} : ev C (.sl a lo hi) env h = (ev C a env h).bind fun x h1 => ((ev C lo env h1).bind (isP lo)).bind fun i h2 => ((ev C hi env h2).bind (isP hi)).bind fun j h3 => Rs.opt (slD x i j h3) h3 := by rw [ev] <;> rfl
@[simp] theorem e_isi {a : E} {ts : List Ty} : ev C (.isi a ts) env h = (ev C a env h).bind fun x h1 => match isiAny h1 x ts with | some t => .ok (.bl t) h1 | none => .fail := by rw [ev] <;> rfl
@[simp] theorem e_call {f : Nat} {es : List E} : ev C (.call f es) env h = (evs C es env h).bind fun ds h1 => C f ds h1 := by rw [ev] <;> rfl
@[simp] theorem e_callv {i : Nat} {es : List E} : ev C (.callv i es) env h = match env[i]? with | some (some (.fn f)) => (evs C es env h).bind fun ds h1 => C f ds h1 | _ => .fail := by rw [ev] <;> rfl
@[simp] theorem e_bi {b : BI} {es : List E} : ev C (.bi b es) env h = (evs C es env h).bind fun ds h1 => Rs.opt2 (biD b ds h1) := by rw [ev] <;> rfl
@[simp] theorem e_meth {m : Mt} {a : E} {es : List E} : ev C (.meth m a es) env h = (ev C a env h).bind fun x h1 => if recvOk m h1 x then (evs C es env h1).bind fun ds h2 => Rs.opt2 (methD m x ds h2) else .fail := by rw [ev] <;> rfl
@[simp] theorem es_nil : evs C [] env h = .ok [] h := by rw [evs] <;> rfl
@[simp] theorem es_cons {e : E} {es : List E} : evs C (e :: es) env h = (ev C e env h).bind fun d h1 => (evs C es env h1).bind fun ds h2 => .ok (d :: ds) h2 := by rw [evs] <;> rfl
@[simp] theorem ea_one {e : E} : evAnd C [e] env h = ev C e env h := by rw [evAnd] <;> rfl
@[simp] theorem eo_one {e : E} : evOr C [e] env h = ev C e env h := by rw [evOr] <;> rfl
@[simp] theorem ea_cons {c d : E} {cs : List E} : evAnd C (c :: d :: cs) env h = (ev C c env h).bind fun x h1 => match truthD h1 x with
    | some true => evAnd C (d :: cs) env h1
    | some false => .ok x h1
    | none => .fail := by rw [evAnd] <;> first | rfl | (intro z; cases z)
@[simp] theorem eo_cons {c d : E} {cs : List E} : evOr C (c :: d :: cs) env h = (ev C c env h).bind fun x h1 => match truthD h1 x with
    | some true => .ok x h1
    | some false => evOr C (d :: cs) env h1
    | none => .fail := by rw [evOr] <;> first | rfl | (intro z; cases z)
@[simp] theorem t_e {a : E} : evT C (.e a) env h = (ev C a env h).bind fun x h1 => match truthD h1 x with | some t => .ok t h1 | none => .fail := by rw [evT] <;> rfl
@[simp] theorem t_not {t : T} : evT C (.not t) env h = (evT C t env h).bind fun k h1 => .ok (!k) h1 := by rw [evT] <;> rfl
@[simp] theorem t_and {ts : List T} : evT C (.and ts) env h = evAll C ts env h := by rw [evT] <;> rfl
@[simp] theorem t_or {ts : List T} : evT C (.or ts) env h = evAny C ts env h := by rw [evT] <;> rfl
@[simp] theorem t_ife {t a b : T} : evT C (.ife t a b) env h = (evT C t env h).bind fun k h1 => if k then evT C a env h1 else evT C b env h1 := by rw [evT] <;> rfl
@[simp] theorem al_nil : evAll C [] env h = .ok true h := by rw [evAll] <;> rfl
@[simp] theorem al_cons {t : T} {ts : List T} : evAll C (t :: ts) env h = (evT C t env h).bind fun k h1 => if k then evAll C ts env h1 else .ok false h1 := by rw [evAll] <;> rfl
@[simp] theorem an_nil : evAny C [] env h = .ok false h := by rw [evAny] <;> rfl
@[simp] theorem an_cons {t : T} {ts : List T} : evAny C (t :: ts) env h = (evT C t env h).bind fun k h1 => if k then .ok true h1 else evAny C ts env h1 := by rw [evAny] <;> rfl
@[simp] theorem x_asg {g : G} {e : E} : exS C (.asg g e) env h = (ev C e env h).toFl env fun d h1 => storeG C g d env h1 := by rw [exS] <;> rfl
@[simp] theorem x_aug {i : Nat} {op : Bop} {e : E} : exS C (.aug i op e) env h = match env[i]? with
    | some (some x) => (ev C e env h).toFl env fun y h1 => (Rs.opt (augD op x y) h1).toFl env fun z h2 => .next (env.set i (some z)) h2
    | _ => .fail := by rw [exS] <;> rfl
@[simp] theorem x_ifs {t : T} {a b : List S} : exS C (.ifs t a b) env h = (evT C t env h).toFl env fun k h1 => if k then exSs C a env h1 else exSs C b env h1 := by rw [exS] <;> rfl
@[simp] theorem x_whl {t : T} {b : List S} : exS C (.whl t b) env h = whlGo (evT C t) (exSs C b) lapsMax env h := by rw [exS] <;> rfl
@[simp] theorem x_for {g : List Nat} {tp : Bool} {it : It} {b : List S} : exS C (.forS g tp it b) env h = (evIt C it env h).toFl env fun xs h1 => forGo (still h1 xs.2) g tp (exSs C b) xs.1 env h1 := by rw [exS] <;> rfl
@[simp] theorem x_ret {e : E} : exS C (.ret e) env h = (ev C e env h).toFl env fun d h1 => .ret d h1 := by rw [exS] <;> rfl
@[simp] theorem x_ex {e : E} : exS C (.ex e) env h = (ev C e env h).toFl env fun _ h1 => .next env h1 := by rw [exS] <;> rfl
@[simp] theorem x_raise {c : Nat} : exS C (.raise c none) env h = .ex ⟨c, none⟩ env h := by rw [exS] <;> rfl
@[simp] theorem x_brk : exS C .brk env h = .brk env h := by rw [exS] <;> rfl
@[simp] theorem x_pass : exS C .pass env h = .next env h := by rw [exS] <;> rfl
@[simp] theorem xs_nil : exSs C [] env h = .next env h := by rw [exSs] <;> rfl
@[simp] theorem xs_cons {s : S} {ss : List S} : exSs C (s :: ss) env h = match exS C s env h with
    | .next env2 h2 => exSs C ss env2 h2
    | r => r := by first | (rw [exSs]; done) | (rw [exSs]; cases exS C s env h <;> rfl)
@[simp] theorem sg_nm {i : Nat} {d : D} : storeG C (.nm i) d env h = .next (env.set i (some d)) h := rfl
@[simp] theorem sg_tp {is : List Nat} {d : D} : storeG C (.tp is) d env h = match bindG env is true d with
    | some env1 => .next env1 h
    | none => .fail := rfl
@[simp] theorem sg_ix {a b : E} {d : D} : storeG C (.ix a b) d env h = (ev C a env h).toFl env fun x h1 => (ev C b env h1).toFl env fun y h2 => (Rs.optU (setD x y d h2)).toFl env fun _ h3 => .next env h3 := rfl
@[simp] theorem bg_tup {is : List Nat} {ds : List D} : bindG env is true (.tup ds) = setAll env is ds := by cases is <;> rfl
@[simp] theorem bg_one {i : Nat} {d : D} : bindG env [i] false d = some (env.set i (some d)) := rfl
@[simp] theorem sa_nil : setAll env [] [] = some env := rfl
@[simp] theorem sa_cons {i : Nat} {is : List Nat} {d : D} {ds : List D} : setAll env (i :: is) (d :: ds) = setAll (env.set i (some d)) is ds := rfl
theorem run_eq {f : Fn} {ds : List D} : runFn C f ds h = if ds.length = f.arity then
    match exSs C f.body (startE f.slots ds) h with
    | .ret d h' => leave f.frz h d h'
    | .next _ h' => leave f.frz h .non h'
    | .ex x _ h' => leaveX h x h'
    | _ => .fail
  else .fail := rfl
end
theorem gcOk_self : ∀ h : Hc, gcOk h h = true
  | [] => rfl
  | x :: xs => by simp [gcOk, gcOk_self xs]
theorem gcOk_app : ∀ (h t : Hc), gcOk h (h ++ t) = true
  | [], _ => rfl
  | x :: xs, t => by simp [gcOk, gcOk_app xs t]
theorem leave_app {fz : Bool} {h t : Hc} {d : D} (hp : d.pure = true) : leave fz h d (h ++ t) = .ok d h := by
  cases fz <;> cases d <;> first | (simp [D.pure] at hp; done) | (simp [leave, hp, gcOk_app])
theorem leave_same {fz : Bool} {h : Hc} {d : D} (hp : d.pure = true) : leave fz h d h = .ok d h := by
  have := leave_app (fz := fz) (h := h) (t := []) hp
  simpa using this
@[simp] theorem leave_int {fz : Bool} {h : Hc} {i : Int} : leave fz h (.int i) h = .ok (.int i) h := leave_same (by simp [D.pure])
@[simp] theorem leave_bl {fz : Bool} {h : Hc} {i : Bool} : leave fz h (.bl i) h = .ok (.bl i) h := leave_same (by simp [D.pure])
@[simp] theorem leave_str {fz : Bool} {h : Hc} {x : List Nat} : leave fz h (.str x) h = .ok (.str x) h := leave_same (by simp [D.pure])
@[simp] theorem leave_non {fz : Bool} {h : Hc} : leave fz h .non h = .ok .non h := leave_same (by simp [D.pure])
@[simp] theorem eqOk_int (i j : Int) : eqOk (.int i) (.int j) = true := by simp [eqOk, D.data, D.depth]
@[simp] theorem deref_int (h : Hc) (i : Int) : deref h (.int i) = .int i := rfl
@[simp] theorem deref_tup (h : Hc) (i : List D) : deref h (.tup i) = .tup i := rfl
@[simp] theorem deref_lst (h : Hc) (i : List D) : deref h (.lst i) = .lst i := rfl
@[simp] theorem deref_bl (h : Hc) (i : Bool) : deref h (.bl i) = .bl i := rfl
@[simp] theorem deref_str (h : Hc) (i : List Nat) : deref h (.str i) = .str i := rfl
@[simp] theorem deref_non (h : Hc) : deref h .non = .non := rfl
@[simp] theorem eqv_int (i j : Int) : D.eqv (.int i) (.int j) = (i == j) := by simp [D.eqv]
@[simp] theorem truth_bl (h : Hc) (b : Bool) : truthD h (.bl b) = some b := rfl
@[simp] theorem truth_int (h : Hc) (i : Int) : truthD h (.int i) = some (i != 0) := rfl
@[simp] theorem c_eqI (i j : Int) (h : Hc) : cmpD .eq (.int i) (.int j) h = some (.bl (i == j)) := by simp [cmpD]
@[simp] theorem c_neI (i j : Int) (h : Hc) : cmpD .ne (.int i) (.int j) h = some (.bl (!(i == j))) := by simp [cmpD]
@[simp] theorem c_ltI (i j : Int) (h : Hc) : cmpD .lt (.int i) (.int j) h = some (.bl (decide (i < j))) := rfl
@[simp] theorem c_leI (i j : Int) (h : Hc) : cmpD .le (.int i) (.int j) h = some (.bl (decide (i ≤ j))) := rfl
@[simp] theorem c_gtI (i j : Int) (h : Hc) : cmpD .gt (.int i) (.int j) h = some (.bl (decide (j < i))) := rfl
@[simp] theorem c_geI (i j : Int) (h : Hc) : cmpD .ge (.int i) (.int j) h = some (.bl (decide (j ≤ i))) := rfl
def pairLe (i : Int) (a : Bool) (j : Int) (b : Bool) : Bool := if i = j then !a || b else decide (i ≤ j)
@[simp] theorem c_leP (i j : Int) (a b : Bool) (h : Hc) : cmpD .le (.tup [.int i, .bl a]) (.tup [.int j, .bl b]) h = some (.bl (pairLe i a j b)) := rfl
@[simp] theorem ix_ref {i : Nat} {y : D} {h : Hc} {ds : List D} (e : h[i]? = some (.lst ds)) {j : Int} : ixD (.ref i) (.int j) h = getI ds j := by
  have e2 : ixD (.ref i) (.int j) h = (match h[i]? with
    | some (.lst ds) => (match getI ds j with | some v => some v | none => none)
    | some (.dct kvs) => match (keyOf (.int j)).bind (kvGet kvs) with
      | some v => some v
      | none => none
    | _ => none) := rfl
  rw [e2, e]
  show (match getI ds j with | some v => some v | none => none) = _
  cases getI ds j <;> rfl
theorem getI_nat {α : Type} (xs : List α) (k : Nat) (x : α) (e : xs[k]? = some x) : getI xs (k : Int) = some x := by
  have l := (List.getElem?_eq_some_iff.mp e).1
  unfold getI ixOf
  rw [if_pos (Int.natCast_nonneg k), if_pos (by omega)]
  show xs[((k : Int)).toNat]? = _
  rw [Int.toNat_natCast]
  exact e
theorem getI_0 {α : Type} (x : α) (xs : List α) : getI (x :: xs) 0 = some x := getI_nat _ 0 _ rfl
theorem getI_1 {α : Type} (x y : α) (xs : List α) : getI (x :: y :: xs) 1 = some y := getI_nat _ 1 _ rfl
theorem getI_2 {α : Type} (x y z : α) (xs : List α) : getI (x :: y :: z :: xs) 2 = some z := getI_nat _ 2 _ rfl
@[simp] theorem b_addI (i j : Int) : binD .add (.int i) (.int j) = some (.int (i + j)) := rfl
@[simp] theorem b_subI (i j : Int) : binD .sub (.int i) (.int j) = some (.int (i - j)) := rfl
@[simp] theorem b_mulI (i j : Int) (h : (small i || small j) = true) : binD .mul (.int i) (.int j) = some (.int (i * j)) := by
  show (if small i || small j then some (D.int (i * j)) else none) = _
  rw [if_pos h]
@[simp] theorem b_modI (i j : Int) (h : 0 < j) : binD .mod (.int i) (.int j) = some (.int (i % j)) := by
  show (if 0 < j then some (D.int (i % j)) else none) = _
  rw [if_pos h]
@[simp] theorem b_fdivI (i j : Int) (h : 0 < j) (h2 : small j = true) : binD .fdiv (.int i) (.int j) = some (.int (i / j)) := by
  show (if 0 < j && small j then some (D.int (i / j)) else none) = _
  rw [if_pos (by simp [h, h2])]
@[simp] theorem a_addI (i j : Int) : augD .add (.int i) (.int j) = some (.int (i + j)) := rfl
@[simp] theorem m_2 (i j : Int) (h : Hc) : biD .max2 [.int i, .int j] h = some (.int (if j > i then j else i), h) := rfl
@[simp] theorem ix_t (ds : List D) (i : Int) (h : Hc) : ixD (.tup ds) (.int i) h = getI ds i := by
  show (match getI ds i with | some v => some v | none => none) = _
  cases getI ds i <;> rfl
@[simp] theorem ix_l (ds : List D) (i : Int) (h : Hc) : ixD (.lst ds) (.int i) h = getI ds i := by
  show (match getI ds i with | some v => some v | none => none) = _
  cases getI ds i <;> rfl
theorem sm_nat (n : Nat) (h : n < 18446744073709551616) : small (n : Int) = true := by simp [small]; exact h
@[simp] theorem m_lenT (ds : List D) (h : Hc) : biD .len [.tup ds] h = some (.int ds.length, h) := rfl
@[simp] theorem m_lenL (ds : List D) (h : Hc) : biD .len [.lst ds] h = some (.int ds.length, h) := rfl
@[simp] theorem m_tupL (ds : List D) (h : Hc) : biD .tuple [.lst ds] h = some (.tup ds, h) := rfl
@[simp] theorem getA (h : Hc) (o : MO) : (h ++ [o])[h.length]? = some o := by simp
@[simp] theorem setA (h : Hc) (o o' : MO) : (h ++ [o]).set h.length o' = h ++ [o'] := by simp
/-- what each item gives -/
def lcM (C : CallT) (own is : List Nat) (tp : Bool) (ifs : List T) (e : E) (env : Env) : D → Hc → Rs (Option D) := fun x h2 => match bindG (wipeD env own) is tp x with
  | some env2 => (evAll C ifs env2 h2).bind fun k h3 => if k then (ev C e env2 h3).bind fun v h4 => .ok (some v) h4 else .ok none h3
  | none => .fail
theorem e_lc {C : CallT} {own is : List Nat} {tp : Bool} {it : It} {ifs : List T} {e : E} {env : Env} {h : Hc} : ev C (.lc own is tp it ifs e) env h = (evIt C it env h).bind fun xs h1 =>
    ((lcGo (still h1 xs.2) (lcM C own is tp ifs e env) xs.1 h1).nox).bind fun ys h5 => if ys.length ≤ sizeMax then .ok (.lst ys) h5 else .fail := by rw [ev]; rfl
theorem lcGo_map {st : Hc → Bool} {F : D → Hc → Rs (Option D)} {φ : D → D} {h : Hc} (hs : st h = true) : ∀ {xs : List D}, (∀ x ∈ xs, F x h = .ok (some (φ x)) h) → lcGo st F xs h = .ok (xs.map φ) h
  | [], _ => rfl
  | x :: xs, hf => by
    have ih := lcGo_map hs (xs := xs) fun y hy => hf y (List.mem_cons_of_mem _ hy)
    simp [lcGo, hf x List.mem_cons_self, hs, ih]
/-- some are left out -/
theorem lcGo_filt {st : Hc → Bool} {F : D → Hc → Rs (Option D)} {φ : D → Option D} {h : Hc} (hs : st h = true) : ∀ {xs : List D}, (∀ x ∈ xs, F x h = .ok (φ x) h) → lcGo st F xs h = .ok (xs.filterMap φ) h
  | [], _ => rfl
  | x :: xs, hf => by
    have ih := lcGo_filt hs (xs := xs) fun y hy => hf y (List.mem_cons_of_mem _ hy)
    cases e : φ x <;> simp [lcGo, hf x List.mem_cons_self, hs, ih, e]
@[simp] theorem it_sq {C : CallT} {e : E} {env : Env} {h : Hc} : evIt C (.sq e) env h = (ev C e env h).bind fun d h1 => match items? h1 d with
    | some xs => .ok (xs, refsOf d) h1
    | none => .fail := by rw [evIt] <;> rfl
@[simp] theorem itemsT (h : Hc) (ds : List D) : items? h (.tup ds) = some ds := rfl
@[simp] theorem itemsL (h : Hc) (ds : List D) : items? h (.lst ds) = some ds := rfl
@[simp] theorem refsT (ds : List D) : refsOf (.tup ds) = [] := rfl
@[simp] theorem refsL (ds : List D) : refsOf (.lst ds) = [] := rfl
@[simp] theorem still_nil (h h' : Hc) : still h [] h' = true := rfl
@[simp] theorem isi_int_listtuple (i : Int) (h : Hc) : isiAny h (.int i) [.list, .tuple] = some false := rfl
@[simp] theorem isi_bool_listtuple (b : Bool) (h : Hc) : isiAny h (.bl b) [.list, .tuple] = some false := rfl
@[simp] theorem isi_str_listtuple (x : List Nat) (h : Hc) : isiAny h (.str x) [.list, .tuple] = some false := rfl
@[simp] theorem isi_tup_listtuple (ds : List D) (h : Hc) : isiAny h (.tup ds) [.list, .tuple] = some true := rfl
@[simp] theorem isi_lst_listtuple (ds : List D) (h : Hc) : isiAny h (.lst ds) [.list, .tuple] = some true := rfl
@[simp] theorem isi_non_listtuple (h : Hc) : isiAny h .non [.list, .tuple] = some false := rfl
@[simp] theorem isi_int_int (i : Int) (h : Hc) : isiAny h (.int i) [.int] = some true := rfl
@[simp] theorem isi_bool_int (b : Bool) (h : Hc) : isiAny h (.bl b) [.int] = some true := rfl
@[simp] theorem isi_str_int (x : List Nat) (h : Hc) : isiAny h (.str x) [.int] = some false := rfl
@[simp] theorem isi_tup_int (ds : List D) (h : Hc) : isiAny h (.tup ds) [.int] = some false := rfl
@[simp] theorem isi_lst_int (ds : List D) (h : Hc) : isiAny h (.lst ds) [.int] = some false := rfl
@[simp] theorem isi_non_int (h : Hc) : isiAny h .non [.int] = some false := rfl
@[simp] theorem isi_int_bool (i : Int) (h : Hc) : isiAny h (.int i) [.bool] = some false := rfl
@[simp] theorem isi_bool_bool (b : Bool) (h : Hc) : isiAny h (.bl b) [.bool] = some true := rfl
@[simp] theorem isi_str_bool (x : List Nat) (h : Hc) : isiAny h (.str x) [.bool] = some false := rfl
@[simp] theorem isi_tup_bool (ds : List D) (h : Hc) : isiAny h (.tup ds) [.bool] = some false := rfl
@[simp] theorem isi_lst_bool (ds : List D) (h : Hc) : isiAny h (.lst ds) [.bool] = some false := rfl
@[simp] theorem isi_non_bool (h : Hc) : isiAny h .non [.bool] = some false := rfl
@[simp] theorem isi_int_str (i : Int) (h : Hc) : isiAny h (.int i) [.str] = some false := rfl
@[simp] theorem isi_bool_str (b : Bool) (h : Hc) : isiAny h (.bl b) [.str] = some false := rfl
@[simp] theorem isi_str_str (x : List Nat) (h : Hc) : isiAny h (.str x) [.str] = some true := rfl
@[simp] theorem isi_tup_str (ds : List D) (h : Hc) : isiAny h (.tup ds) [.str] = some false := rfl
@[simp] theorem isi_lst_str (ds : List D) (h : Hc) : isiAny h (.lst ds) [.str] = some false := rfl
@[simp] theorem isi_non_str (h : Hc) : isiAny h .non [.str] = some false := rfl
@[simp] theorem isi_int_tuple (i : Int) (h : Hc) : isiAny h (.int i) [.tuple] = some false := rfl
@[simp] theorem isi_bool_tuple (b : Bool) (h : Hc) : isiAny h (.bl b) [.tuple] = some false := rfl
@[simp] theorem isi_str_tuple (x : List Nat) (h : Hc) : isiAny h (.str x) [.tuple] = some false := rfl
@[simp] theorem isi_tup_tuple (ds : List D) (h : Hc) : isiAny h (.tup ds) [.tuple] = some true := rfl
@[simp] theorem isi_lst_tuple (ds : List D) (h : Hc) : isiAny h (.lst ds) [.tuple] = some false := rfl
@[simp] theorem isi_non_tuple (h : Hc) : isiAny h .non [.tuple] = some false := rfl
@[simp] theorem isi_int_list (i : Int) (h : Hc) : isiAny h (.int i) [.list] = some false := rfl
@[simp] theorem isi_bool_list (b : Bool) (h : Hc) : isiAny h (.bl b) [.list] = some false := rfl
@[simp] theorem isi_str_list (x : List Nat) (h : Hc) : isiAny h (.str x) [.list] = some false := rfl
@[simp] theorem isi_tup_list (ds : List D) (h : Hc) : isiAny h (.tup ds) [.list] = some false := rfl
@[simp] theorem isi_lst_list (ds : List D) (h : Hc) : isiAny h (.lst ds) [.list] = some true := rfl
@[simp] theorem isi_non_list (h : Hc) : isiAny h .non [.list] = some false := rfl
@[simp] theorem isi_int_boolstr (i : Int) (h : Hc) : isiAny h (.int i) [.bool, .str] = some false := rfl
@[simp] theorem isi_bool_boolstr (b : Bool) (h : Hc) : isiAny h (.bl b) [.bool, .str] = some true := rfl
@[simp] theorem isi_str_boolstr (x : List Nat) (h : Hc) : isiAny h (.str x) [.bool, .str] = some true := rfl
@[simp] theorem isi_tup_boolstr (ds : List D) (h : Hc) : isiAny h (.tup ds) [.bool, .str] = some false := rfl
@[simp] theorem isi_lst_boolstr (ds : List D) (h : Hc) : isiAny h (.lst ds) [.bool, .str] = some false := rfl
@[simp] theorem isi_non_boolstr (h : Hc) : isiAny h .non [.bool, .str] = some false := rfl
end Lad
set_option Elab.async false
set_option linter.all false
set_option maxRecDepth 100000
set_option maxHeartbeats 4000000
/-! The clean program's functions: the ladder. -/
namespace Lad
def shL (x : Int) : Int := if x = 0 then -1 else if x = 2 then -1 else if x % 2 = 1 then x / 2 else x / 2 - 2
def shM (x : Int) : Bool := if x = 0 then false else if x = 2 then true else if x % 2 = 1 then false else true
@[simp] theorem shape_s (l : Nat) (x : Int) (h : Hc) : callN prog (l + 1) f_ladder_shape [.int x] h = .ok (.tup [.int (shL x), .bl (shM x)]) h := by
  simp only [callN, prog]
  unfold shL shM
  by_cases h0 : x = 0
  · subst h0
    simp [b_ladder_shape, run_eq, startE, leave_same, D.pure, D.pures]
  · by_cases h2 : x = 2
    · subst h2
      simp [b_ladder_shape, run_eq, startE, leave_same, D.pure, D.pures]
    · by_cases h3 : x % 2 = 1
      · simp [b_ladder_shape, run_eq, startE, leave_same, D.pure, D.pures, h0, h2, h3, small]
      · simp [b_ladder_shape, run_eq, startE, leave_same, D.pure, D.pures, h0, h2, h3, small]
def posI (last : Int) (more : Bool) : Int := if more then 2 * last + 4 else if 0 ≤ last then 2 * last + 1 else 0
@[simp] theorem pos_s (l : Nat) (x : Int) (b : Bool) (h : Hc) : callN prog (l + 1) f_ladder_place_of_shape [.int x, .bl b] h = .ok (.int (posI x b)) h := by
  simp only [callN, prog]
  unfold posI
  cases b with
  | true => simp [b_ladder_place_of_shape, run_eq, startE, small]
  | false => by_cases h0 : 0 ≤ x <;> simp [b_ladder_place_of_shape, run_eq, startE, small, h0]
def hasI (place point : Int) : Bool := place == -1 || (decide (point ≤ shL place) || (shM place && point == shL place + 2))
@[simp] theorem has_s (l : Nat) (x y : Int) (h : Hc) : callN prog (l + 2) f_ladder_has [.int x, .int y] h = .ok (.bl (hasI x y)) h := by
  have s := shape_s l x h
  rw [callN]
  simp only [prog]
  unfold hasI
  by_cases h0 : x = -1
  · simp [b_ladder_has, run_eq, startE, k_ladder_ALL, h0]
  · by_cases h1 : y ≤ shL x
    · simp [b_ladder_has, run_eq, startE, k_ladder_ALL, s, h0, h1]
    · cases h2 : shM x <;> simp [b_ladder_has, run_eq, startE, k_ladder_ALL, s, h0, h1, h2]
def nearI (a b : Int) : Bool := pairLe (shL a) (shM a) (shL b) (shM b)
def bothI (a b : Int) : Int := if a = -1 ∨ b = -1 then (if b > a then b else a) else
  if nearI a b then posI (shL a) (shM a && hasI b (shL a + 2)) else posI (shL b) (shM b && hasI a (shL b + 2))
@[simp] theorem both_s (l : Nat) (x y : Int) (h : Hc) : callN prog (l + 3) f_ladder_both_in [.int x, .int y] h = .ok (.int (bothI x y)) h := by
  rw [callN]
  simp only [prog]
  unfold bothI
  by_cases h0 : x = -1
  · simp [b_ladder_both_in, run_eq, startE, k_ladder_ALL, h0]
  · by_cases h1 : y = -1
    · simp [b_ladder_both_in, run_eq, startE, k_ladder_ALL, h0, h1]
    · by_cases h2 : pairLe (shL x) (shM x) (shL y) (shM y) = true
      · cases h3 : shM x <;> rw [h3] at h2 <;> simp [b_ladder_both_in, run_eq, startE, k_ladder_ALL, nearI, h0, h1, h2, h3]
      · cases h3 : shM y <;> rw [h3] at h2 <;> simp [b_ladder_both_in, run_eq, startE, k_ladder_ALL, nearI, h0, h1, h2, h3]
def stepI (a b m : Int) : Bool := hasI a (m + 1) || hasI b (m + 1)
def goI (a b m : Int) : Int := if stepI a b m then (if stepI a b (m + 1) then m + 2 else m + 1) else m
def maxI (i j : Int) : Int := if j > i then j else i
def eitherI (a b : Int) : Int := if a = -1 ∨ b = -1 then -1 else
  posI (goI a b (maxI (shL a) (shL b))) (hasI a (goI a b (maxI (shL a) (shL b)) + 2) || hasI b (goI a b (maxI (shL a) (shL b)) + 2))
theorem no_more {a b : Int} (ha : a ≠ -1) (hb : b ≠ -1) : stepI a b (maxI (shL a) (shL b)) = true → stepI a b (maxI (shL a) (shL b) + 1) = true → stepI a b (maxI (shL a) (shL b) + 2) = false := by
  unfold stepI hasI maxI
  have e1 : (a == -1) = false := beq_eq_false_iff_ne.mpr ha
  have e2 : (b == -1) = false := beq_eq_false_iff_ne.mpr hb
  simp only [e1, e2, Bool.false_or]
  generalize shL a = p
  generalize shL b = q
  generalize shM a = c
  generalize shM b = d
  cases c <;> cases d <;> simp <;> split <;> omega
theorem whl_stop {t : Env → Hc → Rs Bool} {b : Env → Hc → Fl} {n : Nat} {env : Env} {h : Hc} (e : t env h = .ok false h) : whlGo t b (n + 1) env h = .next env h := by
  simp [whlGo, e]
theorem whl_go {t : Env → Hc → Rs Bool} {b : Env → Hc → Fl} {n : Nat} {env env2 : Env} {h h2 : Hc} (e : t env h = .ok true h) (e2 : b env h = .next env2 h2) : whlGo t b (n + 1) env h = whlGo t b n env2 h2 := by
  simp [whlGo, e, e2]
theorem or_bl (h : Hc) (a b : Bool) : (match some a with | some true => Rs.ok (D.bl a) h | some false => Rs.ok (D.bl b) h | none => Rs.fail) = Rs.ok (D.bl (a || b)) h := by cases a <;> rfl
@[simp] theorem either_s (l : Nat) (x y : Int) (h : Hc) : callN prog (l + 3) f_ladder_either_in [.int x, .int y] h = .ok (.int (eitherI x y)) h := by
  rw [callN]
  simp only [prog]
  unfold eitherI
  by_cases h0 : x = -1
  · simp [b_ladder_either_in, run_eq, startE, k_ladder_ALL, h0]
  · by_cases h1 : y = -1
    · simp [b_ladder_either_in, run_eq, startE, k_ladder_ALL, h0, h1]
    · have T : ∀ m : Int, evT (callN prog (l + 2)) (.or [.e (.call f_ladder_has [.var 0, .bin .add (.var 2) (.c (.int 1))]), .e (.call f_ladder_has [.var 1, .bin .add (.var 2) (.c (.int 1))])]) [some (.int x), some (.int y), some (.int m)] h = .ok (stepI x y m) h := fun m => by
        unfold stepI
        cases e : hasI x (m + 1) <;> cases e2 : hasI y (m + 1) <;> simp [e, e2]
      have B : ∀ m : Int, exSs (callN prog (l + 2)) [.aug 2 .add (.c (.int 1))] [some (.int x), some (.int y), some (.int m)] h = .next [some (.int x), some (.int y), some (.int (m + 1))] h := fun m => by simp
      have W : whlGo (evT (callN prog (l + 2)) (.or [.e (.call f_ladder_has [.var 0, .bin .add (.var 2) (.c (.int 1))]), .e (.call f_ladder_has [.var 1, .bin .add (.var 2) (.c (.int 1))])])) (exSs (callN prog (l + 2)) [.aug 2 .add (.c (.int 1))]) lapsMax [some (.int x), some (.int y), some (.int (maxI (shL x) (shL y)))] h = .next [some (.int x), some (.int y), some (.int (goI x y (maxI (shL x) (shL y))))] h := by
        have lm : lapsMax = 999997 + 1 + 1 + 1 := rfl
        rw [lm]
        unfold goI
        cases s0 : stepI x y (maxI (shL x) (shL y)) with
        | false => rw [whl_stop (by rw [T, s0])]; simp
        | true =>
          rw [whl_go (by rw [T, s0]) (B _)]
          cases s1 : stepI x y (maxI (shL x) (shL y) + 1) with
          | false => rw [whl_stop (by rw [T, s1])]; simp
          | true =>
            rw [whl_go (by rw [T, s1]) (B _)]
            have s2 := no_more h0 h1 s0 s1
            have e3 : maxI (shL x) (shL y) + 1 + 1 = maxI (shL x) (shL y) + 2 := by omega
            rw [e3, whl_stop (by rw [T, s2])]
            simp
      have M : (if shL y > shL x then shL y else shL x) = maxI (shL x) (shL y) := rfl
      cases e : hasI x (goI x y (maxI (shL x) (shL y)) + 2) <;> simp [b_ladder_either_in, run_eq, startE, k_ladder_ALL, h0, h1, getI_0, M, W, e]
def firstI (a b : Int) : Int := if b = -1 then -1 else if shL b < shL a then shL b + 1 else if shM a && !hasI b (shL a + 2) then shL a + 2 else -1
@[simp] theorem first_s (l : Nat) (x y : Int) (h : Hc) : callN prog (l + 3) f_ladder_first_beyond [.int x, .int y] h = .ok (.int (firstI x y)) h := by
  rw [callN]
  simp only [prog]
  unfold firstI
  by_cases h1 : y = -1
  · simp [b_ladder_first_beyond, run_eq, startE, k_ladder_ALL, h1]
  · by_cases h2 : shL y < shL x
    · simp [b_ladder_first_beyond, run_eq, startE, k_ladder_ALL, h1, h2, getI_0]
    · cases h3 : shM x <;> cases h4 : hasI y (shL x + 2) <;> simp [b_ladder_first_beyond, run_eq, startE, k_ladder_ALL, h1, h2, h3, h4, getI_0]
def belowI (a b : Int) : Bool := b == -1 || (!(a == -1) && decide (firstI a b < 0))
@[simp] theorem below_s (l : Nat) (x y : Int) (h : Hc) : callN prog (l + 4) f_ladder_is_below_in [.int x, .int y] h = .ok (.bl (belowI x y)) h := by
  rw [callN]
  simp only [prog]
  unfold belowI
  by_cases h1 : y = -1
  · simp [b_ladder_is_below_in, run_eq, startE, k_ladder_ALL, h1]
  · by_cases h2 : x = -1
    · simp [b_ladder_is_below_in, run_eq, startE, k_ladder_ALL, h1, h2]
    · have e : (x == -1) = false := beq_eq_false_iff_ne.mpr h2
      simp [b_ladder_is_below_in, run_eq, startE, k_ladder_ALL, h1, e]
def leadsI (a b : Int) : Int := if belowI a b then -1 else if a = -1 then b else posI (firstI a b - 1) (!hasI a (firstI a b + 1) || hasI b (firstI a b + 1))
@[simp] theorem leads_s (l : Nat) (x y : Int) (h : Hc) : callN prog (l + 5) f_ladder_leads_in [.int x, .int y] h = .ok (.int (leadsI x y)) h := by
  rw [callN]
  simp only [prog]
  unfold leadsI
  cases h1 : belowI x y with
  | true => simp [b_ladder_leads_in, run_eq, startE, k_ladder_ALL, h1]
  | false =>
    by_cases h2 : x = -1
    · subst h2
      simp [b_ladder_leads_in, run_eq, startE, k_ladder_ALL, h1]
    · cases h3 : hasI x (firstI x y + 1) <;> simp [b_ladder_leads_in, run_eq, startE, k_ladder_ALL, h1, h2, h3]
/-! ### sayings -/
inductive Jn where | and | or | to
deriving DecidableEq
inductive Fm where | p | no | jn (j : Jn) (a b : Fm)
deriving DecidableEq
def jnW : Jn → List Nat
  | .and => [97,110,100]
  | .or => [111,114]
  | .to => [116,111]
def Fm.enc : Fm → D
  | .p => .tup [.str [112]]
  | .no => .tup [.str [110,111]]
  | .jn j a b => .tup [.str (jnW j), a.enc, b.enc]
def Fm.dep : Fm → Nat
  | .jn _ a b => 1 + max a.dep b.dep
  | _ => 1
def jnI : Jn → Int → Int → Int
  | .and => bothI
  | .or => eitherI
  | .to => leadsI
def Fm.pl : Fm → Int → Int
  | .p, x => x
  | .no, _ => 0
  | .jn j a b, x => jnI j (a.pl x) (b.pl x)
theorem data_enc : ∀ f : Fm, f.enc.data = true
  | .p => by simp [Fm.enc, D.data, D.datas]
  | .no => by simp [Fm.enc, D.data, D.datas]
  | .jn j a b => by simp [Fm.enc, D.data, D.datas, data_enc a, data_enc b]; cases j <;> simp [jnW]
theorem eq_P (f : Fm) (h : Hc) : cmpD .eq f.enc k_sayings_P h = some (.bl (decide (f = .p))) := by
  have d := data_enc f
  cases f with
  | p => simp [cmpD, Fm.enc, k_sayings_P, eqOk, D.data, D.datas, D.eqv, D.eqvs, D.depth, D.depths]
  | no => simp [cmpD, Fm.enc, k_sayings_P, eqOk, D.data, D.datas, D.eqv, D.eqvs, D.depth, D.depths]
  | jn j a b =>
    simp only [Fm.enc] at d ⊢
    simp [cmpD, k_sayings_P, eqOk, d, D.eqv, D.eqvs, D.depth, D.depths, D.data, D.datas]
theorem eq_NO (f : Fm) (h : Hc) : cmpD .eq f.enc k_sayings_NO h = some (.bl (decide (f = .no))) := by
  have d := data_enc f
  cases f with
  | p => simp [cmpD, Fm.enc, k_sayings_NO, eqOk, D.data, D.datas, D.eqv, D.eqvs, D.depth, D.depths]
  | no => simp [cmpD, Fm.enc, k_sayings_NO, eqOk, D.data, D.datas, D.eqv, D.eqvs, D.depth, D.depths]
  | jn j a b =>
    simp only [Fm.enc] at d ⊢
    simp [cmpD, k_sayings_NO, eqOk, d, D.eqv, D.eqvs, D.depth, D.depths, D.data, D.datas]
theorem ix_enc0 (j : Jn) (a b : Fm) : getI [D.str (jnW j), a.enc, b.enc] 0 = some (.str (jnW j)) := getI_0 _ _
theorem ix_enc1 (j : Jn) (a b : Fm) : getI [D.str (jnW j), a.enc, b.enc] 1 = some a.enc := getI_1 _ _ _
theorem ix_enc2 (j : Jn) (a b : Fm) : getI [D.str (jnW j), a.enc, b.enc] 2 = some b.enc := getI_2 _ _ _ _
theorem eq_str (x y : List Nat) (h : Hc) (hx : (x.all fun c => decide (c < 1114112)) = true) (hy : (y.all fun c => decide (c < 1114112)) = true) : cmpD .eq (.str x) (.str y) h = some (.bl (x == y)) := by
  simp only [cmpD, deref_str, eqOk, D.data, hx, hy, D.depth]
  rfl
theorem place_s : ∀ (f : Fm) (l : Nat) (x : Int) (h : Hc), callN prog (l + f.dep + 5) f_ladder_place_in [f.enc, .int x] h = .ok (.int (f.pl x)) h
  | .p, l, x, h => by
    rw [callN]
    simp only [prog]
    have e := eq_P .p h
    simp [b_ladder_place_in, run_eq, startE, e, Fm.pl]
  | .no, l, x, h => by
    rw [callN]
    simp only [prog]
    have e := eq_P .no h
    have e2 := eq_NO .no h
    simp [b_ladder_place_in, run_eq, startE, e, e2, Fm.pl]
  | .jn j a b, l, x, h => by
    have e := eq_P (.jn j a b) h
    have e2 := eq_NO (.jn j a b) h
    have la : l + (Fm.jn j a b).dep + 5 = (l + max a.dep b.dep + 5) + 1 := by simp only [Fm.dep]; omega
    rw [la, callN]
    simp only [prog]
    have ra := place_s a (l + max a.dep b.dep - a.dep) x h
    have rb := place_s b (l + max a.dep b.dep - b.dep) x h
    have e3 : l + max a.dep b.dep - a.dep + a.dep + 5 = l + max a.dep b.dep + 5 := by omega
    have e4 : l + max a.dep b.dep - b.dep + b.dep + 5 = l + max a.dep b.dep + 5 := by omega
    rw [e3] at ra
    rw [e4] at rb
    have s0 := eq_str (jnW j) [97,110,100] h (by cases j <;> rfl) rfl
    have s1 := eq_str (jnW j) [111,114] h (by cases j <;> rfl) rfl
    have lb : l + max a.dep b.dep + 5 = (l + max a.dep b.dep) + 5 := rfl
    simp only [Fm.enc] at e e2
    cases j <;> simp only [jnW] at e e2 s0 s1 <;> simp [b_ladder_place_in, run_eq, startE, e, e2, Fm.enc, Fm.pl, getI_0, getI_1, getI_2, ra, rb, jnI, s0, s1, jnW]
end Lad
set_option Elab.async false
set_option linter.all false
set_option maxRecDepth 100000
set_option maxHeartbeats 4000000
/-! The clean program's functions: sayings. -/
namespace Lad
theorem tup_str (l : Nat) (x : List Nat) (h : Hc) : callN prog (l + 1) f_base_tupled [.str x] h = .ok (.str x) h := by
  rw [callN]
  simp only [prog]
  simp [b_base_tupled, run_eq, startE, leave_same, D.pure]
theorem pure_enc : ∀ f : Fm, f.enc.pure = true
  | .p => by simp [Fm.enc, D.pure, D.pures]
  | .no => by simp [Fm.enc, D.pure, D.pures]
  | .jn j a b => by simp [Fm.enc, D.pure, D.pures, pure_enc a, pure_enc b]
theorem tup_go (l : Nat) (ds : List D) (h : Hc) (hp : D.pures ds = true) (hz : ds.length ≤ sizeMax) (hd : ∀ d ∈ ds, callN prog l f_base_tupled [d] h = .ok d h) : callN prog (l + 1) f_base_tupled [.tup ds] h = .ok (.tup ds) h := by
  rw [callN]
  simp only [prog]
  have L := lcGo_map (st := still h []) (F := lcM (callN prog l) [1] [1] false [] (.call f_base_tupled [.var 1]) [some (.tup ds), none]) (φ := id) (h := h) rfl (xs := ds) (fun x hx => by
    simp [lcM, wipeD, hd x hx])
  rw [List.map_id] at L
  simp [b_base_tupled, run_eq, startE, e_lc, L, Rs.nox, hz, leave_same, D.pure, hp]
theorem tupled_s : ∀ (f : Fm) (l : Nat) (h : Hc), callN prog (l + f.dep + 1) f_base_tupled [f.enc] h = .ok f.enc h
  | .p, l, h => tup_go _ _ _ (by simp [D.pures, D.pure]) (by simp [sizeMax]) fun d hd => by
    rw [List.mem_singleton.mp hd]; exact tup_str l _ h
  | .no, l, h => tup_go _ _ _ (by simp [D.pures, D.pure]) (by simp [sizeMax]) fun d hd => by
    rw [List.mem_singleton.mp hd]; exact tup_str l _ h
  | .jn j a b, l, h => by
    have la : l + (Fm.jn j a b).dep + 1 = (l + max a.dep b.dep + 1) + 1 := by simp only [Fm.dep]; omega
    rw [la]
    refine tup_go _ _ _ (by simp [D.pures, D.pure, pure_enc a, pure_enc b]) (by simp [sizeMax]) fun d hd => ?_
    simp only [List.mem_cons, List.not_mem_nil, or_false] at hd
    rcases hd with rfl | rfl | rfl
    · exact tup_str _ _ h
    · have ra := tupled_s a (l + max a.dep b.dep - a.dep) h
      have e3 : l + max a.dep b.dep - a.dep + a.dep + 1 = l + max a.dep b.dep + 1 := by omega
      rwa [e3] at ra
    · have rb := tupled_s b (l + max a.dep b.dep - b.dep) h
      have e3 : l + max a.dep b.dep - b.dep + b.dep + 1 = l + max a.dep b.dep + 1 := by omega
      rwa [e3] at rb
/-! ### is_saying_in -/
def Fm.par : Fm → Nat
  | .jn _ a b => 1 + a.par + b.par
  | _ => 1
def stD (p : Fm × Nat) : D := .tup [p.1.enc, .int p.2]
def items (st : List (Fm × Nat)) : List D := (st.map stD).reverse
def stPar : List (Fm × Nat) → Nat
  | [] => 0
  | p :: r => p.1.par + stPar r
theorem datas_st : ∀ st : List (Fm × Nat), D.datas (st.map stD) = true
  | [] => rfl
  | p :: r => by simp [D.datas, stD, D.data, data_enc, datas_st r]
theorem datas_app : ∀ (a b : List D), D.datas (a ++ b) = (D.datas a && D.datas b)
  | [], b => rfl
  | x :: a, b => by simp [D.datas, datas_app a b, Bool.and_assoc]
theorem datas_rev : ∀ a : List D, D.datas a.reverse = D.datas a
  | [] => rfl
  | x :: a => by simp [datas_app, datas_rev a, D.datas, Bool.and_comm]
theorem ne_nil (h : Hc) (st : List (Fm × Nat)) : cmpD .ne (.ref h.length) (.lst []) (h ++ [.lst (items st)]) = some (.bl (!st.isEmpty)) := by
  have e : deref (h ++ [MO.lst (items st)]) (.ref h.length) = .lst (items st) := by
    show (match (h ++ [MO.lst (items st)])[h.length]? with | some (.lst ds) => D.lst ds | _ => _) = _
    rw [getA]
  have d : D.datas (items st) = true := by unfold items; rw [datas_rev]; exact datas_st st
  simp only [cmpD, e, deref_lst]
  have ok : eqOk (.lst (items st)) (.lst []) = true := by
    simp [eqOk, D.data, d, D.datas, D.depth, D.depths]
  rw [if_pos ok]
  cases st with
  | nil => simp [items, D.eqv, D.eqvs]
  | cons p r =>
    have : items (p :: r) ≠ [] := by simp [items]
    cases hi : items (p :: r) with
    | nil => exact absurd hi this
    | cons x xs => simp [D.eqv, D.eqvs]
theorem pop_st (h : Hc) (p : Fm × Nat) (st : List (Fm × Nat)) : methD .pop (.ref h.length) [] (h ++ [.lst (items (p :: st))]) = some (stD p, h ++ [.lst (items st)]) := by
  have e : (match (h ++ [MO.lst (items (p :: st))])[h.length]? with
    | some (.lst xs) => (match xs.getLast? with
      | some y => some (y, ((h ++ [MO.lst (items (p :: st))]).set h.length (.lst xs.dropLast)))
      | none => none)
    | _ => none) = some (stD p, h ++ [.lst (items st)]) := by
    rw [getA]
    simp [items]
  exact e
theorem ext_st (h : Hc) (p q : Fm × Nat) (st : List (Fm × Nat)) : methD .extend (.ref h.length) [.lst [stD p, stD q]] (h ++ [.lst (items st)]) = if st.length + 2 ≤ sizeMax then some (.non, h ++ [.lst (items (q :: p :: st))]) else none := by
  have e : (match (h ++ [MO.lst (items st)])[h.length]? with
    | some (.lst xs) => (extD xs (.lst [stD p, stD q])).map fun l => (D.non, (h ++ [MO.lst (items st)]).set h.length (.lst l))
    | _ => none) = if st.length + 2 ≤ sizeMax then some (.non, h ++ [.lst (items (q :: p :: st))]) else none := by
    rw [getA]
    simp [items, extD]
  exact e
theorem recv_ref2 (h : Hc) (ds : List D) (m : Mt) (hm : (m == .append || m == .extend || m == .pop || m == .popAt || m == .index) = true) : recvOk m (h ++ [.lst ds]) (.ref h.length) = true := by
  show (match (h ++ [MO.lst ds])[h.length]? with
    | some (.lst _) => m == .append || m == .extend || m == .pop || m == .popAt || m == .index
    | some (.dct _) => m == .dget || m == .dget2 || m == .dpop2 || m == .dupdate
    | _ => false) = true
  rw [getA]
  exact hm
@[simp] theorem par_pos (f : Fm) : 1 ≤ f.par := by cases f <;> simp [Fm.par] <;> omega
/-- what stands in the loop -/
def bodyS : List S := match b_sayings_is_saying_in.body with
  | [_, .whl _ b, _] => b
  | _ => []
def envS (d0 : D) (n : Nat) (m : Int) (o1 o2 : Option D) : Env := [some d0, some (.ref n), some (.int m), o1, o2]
theorem memJ (j : Jn) (h : Hc) : cmpD .mem (.str (jnW j)) k_sayings_JOINS h = some (.bl true) := by cases j <;> rfl
theorem memL0 (h : Hc) : cmpD .mem (.str [112]) k_sayings_JOINS h = some (.bl false) := rfl
theorem memL1 (h : Hc) : cmpD .mem (.str [110,111]) k_sayings_JOINS h = some (.bl false) := rfl
theorem leafP (h : Hc) : cmpD .nmem (Fm.p).enc (.tup [k_sayings_P, k_sayings_NO]) h = some (.bl false) := rfl
theorem leafN (h : Hc) : cmpD .nmem (Fm.no).enc (.tup [k_sayings_P, k_sayings_NO]) h = some (.bl false) := rfl
theorem eqEmp (f : Fm) (h : Hc) : cmpD .eq f.enc (.tup []) h = some (.bl false) := by
  have d := data_enc f
  have ok : eqOk f.enc (.tup []) = true := by
    simp [eqOk, d, D.data, D.datas, D.depth, D.depths]
    omega
  cases f <;> simp only [Fm.enc] at ok ⊢ <;> simp [cmpD, ok, D.eqv, D.eqvs]
theorem step_leaf (C : CallT) (f : Fm) (hf : f = .p ∨ f = .no) (d : Nat) (st : List (Fm × Nat)) (d0 : D) (m : Nat) (o1 o2 : Option D) (h : Hc) (hm : m + 1 ≤ 300) (hd : d ≤ 60) :
    exSs C bodyS (envS d0 h.length m o1 o2) (h ++ [.lst (items ((f, d) :: st))]) = .next (envS d0 h.length (m + 1 : Nat) (some f.enc) (some (.int d))) (h ++ [.lst (items st)]) := by
  have r1 := recv_ref2 h (items ((f, d) :: st)) .pop rfl
  have p1 := pop_st h (f, d) st
  have e1 := eqEmp f (h ++ [.lst (items st)])
  have n1 : ¬ (300 : Int) < (m : Int) + 1 := by omega
  have n2 : ¬ (60 : Int) < (d : Int) := by omega
  rcases hf with rfl | rfl
  · have e2 := leafP (h ++ [.lst (items st)])
    simp only [Fm.enc] at e1 e2
    simp [bodyS, b_sayings_is_saying_in, envS, r1, p1, stD, Fm.enc, k_sayings_MOST_PARTS, k_sayings_MOST_DEEP, n1, n2, e1, getI_0, memL0, e2]
  · have e2 := leafN (h ++ [.lst (items st)])
    simp only [Fm.enc] at e1 e2
    simp [bodyS, b_sayings_is_saying_in, envS, r1, p1, stD, Fm.enc, k_sayings_MOST_PARTS, k_sayings_MOST_DEEP, n1, n2, e1, getI_0, memL1, e2]
theorem step_join (C : CallT) (j : Jn) (a b : Fm) (d : Nat) (st : List (Fm × Nat)) (d0 : D) (m : Nat) (o1 o2 : Option D) (h : Hc) (hm : m + 1 ≤ 300) (hd : d ≤ 60) (hs : st.length + 2 ≤ sizeMax) :
    exSs C bodyS (envS d0 h.length m o1 o2) (h ++ [.lst (items ((.jn j a b, d) :: st))]) = .next (envS d0 h.length (m + 1 : Nat) (some (Fm.jn j a b).enc) (some (.int d))) (h ++ [.lst (items ((b, d + 1) :: (a, d + 1) :: st))]) := by
  have r1 := recv_ref2 h (items ((.jn j a b, d) :: st)) .pop rfl
  have r2 := recv_ref2 h (items st) .extend rfl
  have p1 := pop_st h (.jn j a b, d) st
  have e1 := eqEmp (.jn j a b) (h ++ [.lst (items st)])
  have e2 := memJ j (h ++ [.lst (items st)])
  have x1 := ext_st h (a, d + 1) (b, d + 1) st
  rw [if_pos hs] at x1
  have n1 : ¬ (300 : Int) < (m : Int) + 1 := by omega
  have n2 : ¬ (60 : Int) < (d : Int) := by omega
  simp only [Fm.enc] at e1
  have c1 : ((d + 1 : Nat) : Int) = (d : Int) + 1 := by omega
  simp only [stD, c1] at x1
  simp [bodyS, b_sayings_is_saying_in, envS, r1, r2, p1, stD, Fm.enc, k_sayings_MOST_PARTS, k_sayings_MOST_DEEP, n1, n2, e1, getI_0, getI_1, getI_2, e2, x1]
theorem say_loop (C : CallT) (d0 : D) (h : Hc) : ∀ (n : Nat) (st : List (Fm × Nat)) (m : Nat) (o1 o2 : Option D) (fuel : Nat), stPar st = n → m + n ≤ 300 → (∀ p ∈ st, p.2 + p.1.dep ≤ 61) → st.length ≤ n → n < fuel →
    ∃ o1' o2', whlGo (evT C (.e (.cmp .ne (.var 1) (.lst [])))) (exSs C bodyS) fuel (envS d0 h.length m o1 o2) (h ++ [.lst (items st)]) = .next (envS d0 h.length (m + n : Nat) o1' o2') (h ++ [.lst []])
  | n, [], m, o1, o2, fuel, hn, hm, hd, hs, hf => by
    simp only [stPar] at hn
    subst hn
    obtain ⟨k, rfl⟩ : ∃ k, fuel = k + 1 := ⟨fuel - 1, by omega⟩
    have e := ne_nil h []
    exact ⟨o1, o2, by rw [whl_stop (by simp [envS, e])]; simp [items]⟩
  | n, (f, d) :: st, m, o1, o2, fuel, hn, hm, hd, hs, hf => by
    obtain ⟨k, rfl⟩ : ∃ k, fuel = k + 1 := ⟨fuel - 1, by omega⟩
    have e := ne_nil h ((f, d) :: st)
    have pp := par_pos f
    simp only [stPar] at hn
    have hd0 := hd (f, d) List.mem_cons_self
    have dp : 1 ≤ f.dep := by cases f <;> simp [Fm.dep] <;> omega
    simp only at hd0
    have E : evT C (.e (.cmp .ne (.var 1) (.lst []))) (envS d0 h.length m o1 o2) (h ++ [.lst (items ((f, d) :: st))]) = .ok true (h ++ [.lst (items ((f, d) :: st))]) := by simp [envS, e]
    have lenp : ∀ st : List (Fm × Nat), st.length ≤ stPar st := fun st => by
      induction st with
      | nil => simp [stPar]
      | cons p r ih => have := par_pos p.1; simp only [stPar, List.length_cons]; omega
    cases f with
    | p =>
      rw [whl_go E (step_leaf C .p (.inl rfl) d st d0 m o1 o2 h (by omega) (by omega))]
      obtain ⟨a1, a2, r⟩ := say_loop C d0 h (n - 1) st (m + 1) (some Fm.p.enc) (some (.int d)) k (by simp only [Fm.par] at hn; omega) (by omega) (fun p hp => hd p (List.mem_cons_of_mem _ hp)) (by have := lenp st; simp only [Fm.par] at hn; omega) (by omega)
      have e1 : m + 1 + (n - 1) = m + n := by omega
      rw [e1] at r
      exact ⟨a1, a2, r⟩
    | no =>
      rw [whl_go E (step_leaf C .no (.inr rfl) d st d0 m o1 o2 h (by omega) (by omega))]
      obtain ⟨a1, a2, r⟩ := say_loop C d0 h (n - 1) st (m + 1) (some Fm.no.enc) (some (.int d)) k (by simp only [Fm.par] at hn; omega) (by omega) (fun p hp => hd p (List.mem_cons_of_mem _ hp)) (by have := lenp st; simp only [Fm.par] at hn; omega) (by omega)
      have e1 : m + 1 + (n - 1) = m + n := by omega
      rw [e1] at r
      exact ⟨a1, a2, r⟩
    | jn j a b =>
      have ls := lenp st
      have sm : (1000000 : Nat) = sizeMax := rfl
      simp only [Fm.par] at hn pp
      simp only [Fm.dep] at hd0
      rw [whl_go E (step_join C j a b d st d0 m o1 o2 h (by omega) (by omega) (by rw [← sm]; omega))]
      obtain ⟨a1, a2, r⟩ := say_loop C d0 h (n - 1) ((b, d + 1) :: (a, d + 1) :: st) (m + 1) (some (Fm.jn j a b).enc) (some (.int d)) k (by simp only [stPar]; omega) (by omega) (fun p hp => by
        simp only [List.mem_cons] at hp
        rcases hp with rfl | rfl | hp
        · simp only; omega
        · simp only; omega
        · exact hd p (List.mem_cons_of_mem _ hp)) (by have := par_pos a; have := par_pos b; simp only [List.length_cons]; omega) (by omega)
      have e1 : m + 1 + (n - 1) = m + n := by omega
      rw [e1] at r
      exact ⟨a1, a2, r⟩
theorem say_s (f : Fm) (l : Nat) (h : Hc) (hp : f.par ≤ 300) (hd : f.dep ≤ 60) : callN prog (l + 1) f_sayings_is_saying_in [f.enc] h = .ok (.bl true) h := by
  rw [callN]
  simp only [prog]
  obtain ⟨a1, a2, r⟩ := say_loop (callN prog l) f.enc h f.par [(f, 1)] 0 none none lapsMax (by simp [stPar]) (by omega) (fun p hp => by
    rw [List.mem_singleton.mp hp]; simp only; omega) (by simp) (by simp only [lapsMax]; omega)
  have i1 : items [(f, 1)] = [.tup [f.enc, .int 1]] := rfl
  rw [i1] at r
  have r' : whlGo (evT (callN prog l) (.e (.cmp .ne (.var 1) (.lst [])))) (exSs (callN prog l) bodyS) lapsMax [some f.enc, some (.ref h.length), some (.int 0), none, none] (h ++ [.lst [.tup [f.enc, .int 1]]]) = .next (envS f.enc h.length (0 + f.par : Nat) a1 a2) (h ++ [.lst []]) := r
  simp only [bodyS, b_sayings_is_saying_in] at r'
  simp [b_sayings_is_saying_in, run_eq, startE, r']
  exact leave_app (by simp [D.pure])
theorem leave_enc {fz : Bool} {h : Hc} (f : Fm) : leave fz h f.enc h = .ok f.enc h := leave_same (pure_enc f)
theorem sure_s (f : Fm) (l : Nat) (h : Hc) (hp : f.par ≤ 300) (hd : f.dep ≤ 60) : callN prog (l + f.dep + 2) f_sayings_sure_saying [f.enc] h = .ok f.enc h := by
  have a := tupled_s f l h
  have b := say_s f (l + f.dep) h hp hd
  rw [callN]
  simp only [prog]
  simp [b_sayings_sure_saying, run_eq, startE, a, b, leave_enc]
theorem dep_pos (f : Fm) : 1 ≤ f.dep := by cases f <;> simp [Fm.dep] <;> omega
theorem lower (a b l : Nat) (h : a ≤ b) (k : Nat) : l + b - a + a + k = l + b + k := by omega
theorem parts_s : ∀ (f : Fm) (l : Nat) (h : Hc), callN prog (l + f.dep) f_sayings_parts_in [f.enc] h = .ok (.int f.par) h
  | .p, l, h => by
    show callN prog (l + 1) _ _ _ = _
    rw [callN]
    simp only [prog]
    simp [b_sayings_parts_in, run_eq, startE, Fm.enc, Fm.par]
  | .no, l, h => by
    show callN prog (l + 1) _ _ _ = _
    rw [callN]
    simp only [prog]
    simp [b_sayings_parts_in, run_eq, startE, Fm.enc, Fm.par]
  | .jn j a b, l, h => by
    have la : l + (Fm.jn j a b).dep = (l + max a.dep b.dep) + 1 := by simp only [Fm.dep]; omega
    rw [la, callN]
    simp only [prog]
    have ra := parts_s a (l + max a.dep b.dep - a.dep) h
    have rb := parts_s b (l + max a.dep b.dep - b.dep) h
    have e3 : l + max a.dep b.dep - a.dep + a.dep = l + max a.dep b.dep := by omega
    have e4 : l + max a.dep b.dep - b.dep + b.dep = l + max a.dep b.dep := by omega
    rw [e3] at ra
    rw [e4] at rb
    simp [b_sayings_parts_in, run_eq, startE, Fm.enc, Fm.par, getI_1, getI_2, ra, rb]
theorem depth_s : ∀ (f : Fm) (l : Nat) (h : Hc), callN prog (l + f.dep) f_sayings_depth_in [f.enc] h = .ok (.int f.dep) h
  | .p, l, h => by
    show callN prog (l + 1) _ _ _ = _
    rw [callN]
    simp only [prog]
    simp [b_sayings_depth_in, run_eq, startE, Fm.enc, Fm.dep]
  | .no, l, h => by
    show callN prog (l + 1) _ _ _ = _
    rw [callN]
    simp only [prog]
    simp [b_sayings_depth_in, run_eq, startE, Fm.enc, Fm.dep]
  | .jn j a b, l, h => by
    have la : l + (Fm.jn j a b).dep = (l + max a.dep b.dep) + 1 := by simp only [Fm.dep]; omega
    rw [la, callN]
    simp only [prog]
    have ra := depth_s a (l + max a.dep b.dep - a.dep) h
    have rb := depth_s b (l + max a.dep b.dep - b.dep) h
    have e3 : l + max a.dep b.dep - a.dep + a.dep = l + max a.dep b.dep := by omega
    have e4 : l + max a.dep b.dep - b.dep + b.dep = l + max a.dep b.dep := by omega
    rw [e3] at ra
    rw [e4] at rb
    simp [b_sayings_depth_in, run_eq, startE, Fm.enc, getI_1, getI_2, ra, rb]
    simp only [Fm.dep]
    split <;> omega
def Fm.put : Fm → Fm → Fm
  | .p, g => g
  | .no, _ => .no
  | .jn j a b, g => .jn j (a.put g) (b.put g)
theorem put_in_s : ∀ (f g : Fm) (l : Nat) (h : Hc), callN prog (l + f.dep) f_sayings_put_in [f.enc, g.enc] h = .ok (f.put g).enc h
  | .p, g, l, h => by
    show callN prog (l + 1) _ _ _ = _
    rw [callN]
    simp only [prog]
    have e := eq_P .p h
    simp [b_sayings_put_in, run_eq, startE, e, Fm.put, leave_enc]
  | .no, g, l, h => by
    show callN prog (l + 1) _ _ _ = _
    rw [callN]
    simp only [prog]
    have e := eq_P .no h
    have e2 := eq_NO .no h
    simp [b_sayings_put_in, run_eq, startE, e, e2, Fm.put, leave_enc]
  | .jn j a b, g, l, h => by
    have la : l + (Fm.jn j a b).dep = (l + max a.dep b.dep) + 1 := by simp only [Fm.dep]; omega
    rw [la, callN]
    simp only [prog]
    have ra := put_in_s a g (l + max a.dep b.dep - a.dep) h
    have rb := put_in_s b g (l + max a.dep b.dep - b.dep) h
    have e3 : l + max a.dep b.dep - a.dep + a.dep = l + max a.dep b.dep := by omega
    have e4 : l + max a.dep b.dep - b.dep + b.dep = l + max a.dep b.dep := by omega
    rw [e3] at ra
    rw [e4] at rb
    have e := eq_P (.jn j a b) h
    have e2 := eq_NO (.jn j a b) h
    have lv := leave_enc (fz := true) (h := h) ((Fm.jn j a b).put g)
    simp only [Fm.enc, Fm.put] at e e2 lv
    simp [b_sayings_put_in, run_eq, startE, e, e2, Fm.enc, Fm.put, getI_0, getI_1, getI_2, ra, rb, lv]
def Fm.oft : Fm → Nat
  | .p => 1
  | .no => 0
  | .jn _ a b => a.oft + b.oft
theorem oft_s : ∀ (f : Fm) (l : Nat) (h : Hc), callN prog (l + f.dep) f_sayings_how_often_p [f.enc] h = .ok (.int f.oft) h
  | .p, l, h => by
    show callN prog (l + 1) _ _ _ = _
    rw [callN]
    simp only [prog]
    have e := eq_P .p h
    simp only [Fm.enc] at e
    simp [b_sayings_how_often_p, run_eq, startE, Fm.enc, Fm.oft, e]
  | .no, l, h => by
    show callN prog (l + 1) _ _ _ = _
    rw [callN]
    simp only [prog]
    have e := eq_P .no h
    simp only [Fm.enc] at e
    simp [b_sayings_how_often_p, run_eq, startE, Fm.enc, Fm.oft, e]
  | .jn j a b, l, h => by
    have la : l + (Fm.jn j a b).dep = (l + max a.dep b.dep) + 1 := by simp only [Fm.dep]; omega
    rw [la, callN]
    simp only [prog]
    have ra := oft_s a (l + max a.dep b.dep - a.dep) h
    have rb := oft_s b (l + max a.dep b.dep - b.dep) h
    have e3 : l + max a.dep b.dep - a.dep + a.dep = l + max a.dep b.dep := by omega
    have e4 : l + max a.dep b.dep - b.dep + b.dep = l + max a.dep b.dep := by omega
    rw [e3] at ra
    rw [e4] at rb
    simp [b_sayings_how_often_p, run_eq, startE, Fm.enc, Fm.oft, getI_1, getI_2, ra, rb]
def jnB : Jn → Bool → Bool → Bool
  | .and => fun a b => a && b
  | .or => fun a b => a || b
  | .to => fun a b => !a || b
def Fm.tr : Fm → Bool → Bool
  | .p, t => t
  | .no, _ => false
  | .jn j a b, t => jnB j (a.tr t) (b.tr t)
theorem plain_s : ∀ (f : Fm) (t : Bool) (l : Nat) (h : Hc), callN prog (l + f.dep) f_sayings_plain_in [f.enc, .bl t] h = .ok (.bl (f.tr t)) h
  | .p, t, l, h => by
    show callN prog (l + 1) _ _ _ = _
    rw [callN]
    simp only [prog]
    have e := eq_P .p h
    simp only [Fm.enc] at e
    simp [b_sayings_plain_in, run_eq, startE, Fm.enc, Fm.tr, e]
  | .no, t, l, h => by
    show callN prog (l + 1) _ _ _ = _
    rw [callN]
    simp only [prog]
    have e := eq_P .no h
    simp only [Fm.enc] at e
    simp [b_sayings_plain_in, run_eq, startE, Fm.enc, Fm.tr, e]
  | .jn j a b, t, l, h => by
    have la : l + (Fm.jn j a b).dep = (l + max a.dep b.dep) + 1 := by simp only [Fm.dep]; omega
    rw [la, callN]
    simp only [prog]
    have ra := plain_s a t (l + max a.dep b.dep - a.dep) h
    have rb := plain_s b t (l + max a.dep b.dep - b.dep) h
    have e3 : l + max a.dep b.dep - a.dep + a.dep = l + max a.dep b.dep := by omega
    have e4 : l + max a.dep b.dep - b.dep + b.dep = l + max a.dep b.dep := by omega
    rw [e3] at ra
    rw [e4] at rb
    have s0 := eq_str (jnW j) [97,110,100] h (by cases j <;> rfl) rfl
    have s1 := eq_str (jnW j) [111,114] h (by cases j <;> rfl) rfl
    cases ta : a.tr t <;> cases tb : b.tr t <;> rw [ta] at ra <;> rw [tb] at rb <;> cases j <;> simp only [jnW] at s0 s1 <;> simp [b_sayings_plain_in, run_eq, startE, Fm.enc, Fm.tr, getI_0, getI_1, getI_2, ra, rb, jnB, s0, s1, jnW, ta, tb]
theorem checked_s (f : Fm) (l : Nat) (h : Hc) (hp : f.par ≤ 300) (hd : f.dep ≤ 60) : callN prog (l + f.dep + 1) f_sayings_checked [f.enc] h = .ok f.enc h := by
  have a := parts_s f l h
  have b := depth_s f l h
  have n1 : ¬ (300 : Int) < f.par := by omega
  have n2 : ¬ (60 : Int) < f.dep := by omega
  rw [callN]
  simp only [prog]
  simp [b_sayings_checked, run_eq, startE, a, b, k_sayings_MOST_PARTS, k_sayings_MOST_DEEP, n1, n2, leave_enc]
theorem put_par : ∀ f g : Fm, (f.put g).par + f.oft = f.par + f.oft * g.par
  | .p, g => by simp [Fm.put, Fm.par, Fm.oft]; omega
  | .no, g => by simp [Fm.put, Fm.par, Fm.oft]
  | .jn j a b, g => by
    have := put_par a g
    have := put_par b g
    simp only [Fm.put, Fm.par, Fm.oft, Nat.add_mul]
    omega
theorem put_dep : ∀ f g : Fm, (f.put g).dep ≤ f.dep + g.dep
  | .p, g => by simp [Fm.put, Fm.dep]
  | .no, g => by simp [Fm.put, Fm.dep]
  | .jn j a b, g => by
    have := put_dep a g
    have := put_dep b g
    simp only [Fm.put, Fm.dep]
    omega
end Lad
set_option Elab.async false
set_option linter.all false
set_option maxRecDepth 100000
set_option maxHeartbeats 4000000
/-! The clean program's functions: doors. -/
namespace Lad
theorem num_s (l : Nat) (x : Int) (h : Hc) : callN prog (l + 1) f_base_is_number [.int x] h = .ok (.bl true) h := by
  rw [callN]
  simp only [prog]
  simp [b_base_is_number, run_eq, startE]
theorem isplace_s (l : Nat) (x : Int) (h : Hc) (h1 : -1 ≤ x) (h2 : x ≤ 1000000) : callN prog (l + 2) f_ladder_is_place_in [.int x] h = .ok (.bl true) h := by
  have a := num_s l x h
  rw [callN]
  simp only [prog]
  simp [b_ladder_is_place_in, run_eq, startE, a, k_ladder_ALL, k_ladder_MOST_PLACE, h1, h2]
def okP (x : Int) : Prop := -1 ≤ x ∧ x ≤ 1000000
theorem splace_s (l : Nat) (x : Int) (h : Hc) (hx : okP x) (hl : 3 ≤ l) : callN prog l f_ladder_sure_place [.int x] h = .ok (.int x) h := by
  obtain ⟨k, rfl⟩ : ∃ k, l = k + 3 := ⟨l - 3, by omega⟩
  have a := isplace_s k x h hx.1 hx.2
  rw [callN]
  simp only [prog]
  simp [b_ladder_sure_place, run_eq, startE, a]
/-- a saying that is not too big -/
def okF (f : Fm) : Prop := f.par ≤ 300 ∧ f.dep ≤ 60
theorem sure_l (f : Fm) (l : Nat) (h : Hc) (hf : okF f) (hl : 62 ≤ l) : callN prog l f_sayings_sure_saying [f.enc] h = .ok f.enc h := by
  have := sure_s f (l - f.dep - 2) h hf.1 hf.2
  have d := hf.2
  rwa [show l - f.dep - 2 + f.dep + 2 = l by omega] at this
theorem place_l (f : Fm) (x : Int) (l : Nat) (h : Hc) (hf : okF f) (hl : 65 ≤ l) : callN prog l f_ladder_place_in [f.enc, .int x] h = .ok (.int (f.pl x)) h := by
  have := place_s f (l - f.dep - 5) x h
  have d := hf.2
  rwa [show l - f.dep - 5 + f.dep + 5 = l by omega] at this
theorem pput_s (f : Fm) (x : Int) (l : Nat) (h : Hc) (hf : okF f) (hx : okP x) (hl : 66 ≤ l) : callN prog l f_again_put_place [f.enc, .int x] h = .ok (.int (f.pl x)) h := by
  obtain ⟨k, rfl⟩ : ∃ k, l = k + 1 := ⟨l - 1, by omega⟩
  have a := sure_l f k h hf (by omega)
  have b := splace_s k x h hx (by omega)
  have c := place_l f x k h hf (by omega)
  rw [callN]
  simp only [prog]
  simp [b_again_put_place, run_eq, startE, a, b, c]
theorem pof_s (f : Fm) (l : Nat) (h : Hc) (hf : okF f) (hl : 66 ≤ l) : callN prog l f_ladder_place_of [f.enc] h = .ok (.int (f.pl 1)) h := by
  obtain ⟨k, rfl⟩ : ∃ k, l = k + 1 := ⟨l - 1, by omega⟩
  have a := sure_l f k h hf (by omega)
  have c := place_l f 1 k h hf (by omega)
  rw [callN]
  simp only [prog]
  simp [b_ladder_place_of, run_eq, startE, a, c]
theorem both_d (x y : Int) (l : Nat) (h : Hc) (hx : okP x) (hy : okP y) (hl : 10 ≤ l) : callN prog l f_ladder_both [.int x, .int y] h = .ok (.int (bothI x y)) h := by
  obtain ⟨k, rfl⟩ : ∃ k, l = (k + 3) + 1 := ⟨l - 4, by omega⟩
  have a := splace_s (k + 3) x h hx (by omega)
  have b := splace_s (k + 3) y h hy (by omega)
  have c := both_s k x y h
  rw [callN]
  simp only [prog]
  simp [b_ladder_both, run_eq, startE, a, b]
theorem either_d (x y : Int) (l : Nat) (h : Hc) (hx : okP x) (hy : okP y) (hl : 10 ≤ l) : callN prog l f_ladder_either [.int x, .int y] h = .ok (.int (eitherI x y)) h := by
  obtain ⟨k, rfl⟩ : ∃ k, l = (k + 3) + 1 := ⟨l - 4, by omega⟩
  have a := splace_s (k + 3) x h hx (by omega)
  have b := splace_s (k + 3) y h hy (by omega)
  rw [callN]
  simp only [prog]
  simp [b_ladder_either, run_eq, startE, a, b]
theorem leads_d (x y : Int) (l : Nat) (h : Hc) (hx : okP x) (hy : okP y) (hl : 10 ≤ l) : callN prog l f_ladder_leads [.int x, .int y] h = .ok (.int (leadsI x y)) h := by
  obtain ⟨k, rfl⟩ : ∃ k, l = (k + 5) + 1 := ⟨l - 6, by omega⟩
  have a := splace_s (k + 5) x h hx (by omega)
  have b := splace_s (k + 5) y h hy (by omega)
  rw [callN]
  simp only [prog]
  simp [b_ladder_leads, run_eq, startE, a, b]
theorem below_d (x y : Int) (l : Nat) (h : Hc) (hx : okP x) (hy : okP y) (hl : 10 ≤ l) : callN prog l f_ladder_is_below [.int x, .int y] h = .ok (.bl (belowI x y)) h := by
  obtain ⟨k, rfl⟩ : ∃ k, l = (k + 4) + 1 := ⟨l - 5, by omega⟩
  have a := splace_s (k + 4) x h hx (by omega)
  have b := splace_s (k + 4) y h hy (by omega)
  rw [callN]
  simp only [prog]
  simp [b_ladder_is_below, run_eq, startE, a, b]
def schI (φ : Int → Int) : Int := bothI (bothI (bothI (bothI (bothI (bothI (-1) (φ 0)) (φ 1)) (φ 2)) (φ 3)) (φ 4)) (φ (-1))
theorem schin_s (f : Fm) (l : Nat) (h : Hc) (hf : okF f) (hl : 66 ≤ l) : callN prog l f_axioms_schema_in [f.enc] h = .ok (.int (schI f.pl)) h := by
  obtain ⟨k, rfl⟩ : ∃ k, l = (k + 3) + 1 := ⟨l - 4, by omega⟩
  have c := fun x => place_l f x (k + 3) h hf (by omega)
  rw [callN]
  simp only [prog]
  simp [b_axioms_schema_in, run_eq, startE, c, k_ladder_ALL, k_axioms_TRIED, forGo, schI]
theorem sch_s (f : Fm) (l : Nat) (h : Hc) (hf : okF f) (hl : 67 ≤ l) : callN prog l f_axioms_schema_place [f.enc] h = .ok (.int (schI f.pl)) h := by
  obtain ⟨k, rfl⟩ : ∃ k, l = k + 1 := ⟨l - 1, by omega⟩
  have a := sure_l f k h hf (by omega)
  have b := schin_s f k h hf (by omega)
  rw [callN]
  simp only [prog]
  simp [b_axioms_schema_place, run_eq, startE, a, b]
theorem can_s (f : Fm) (l : Nat) (h : Hc) (hf : okF f) (hl : 66 ≤ l) : callN prog l f_again_can_hold [f.enc] h = .ok (.bl (f.tr true || f.tr false)) h := by
  obtain ⟨k, rfl⟩ : ∃ k, l = k + 1 := ⟨l - 1, by omega⟩
  have a := sure_l f k h hf (by omega)
  have d := hf.2
  have b := fun t => plain_s f t (k - f.dep) h
  have e : k - f.dep + f.dep = k := by omega
  rw [e] at b
  have b1 := b true
  have b2 := b false
  rw [callN]
  simp only [prog]
  cases t1 : f.tr true <;> rw [t1] at b1 <;> simp [b_again_can_hold, run_eq, startE, a, b1, b2]
theorem holds_s (f : Fm) (x : Int) (l : Nat) (h : Hc) (hf : okF f) (hx : okP x) (hl : 66 ≤ l) : callN prog l f_again_makes_hold [f.enc, .int x] h = .ok (.bl (f.pl x == -1)) h := by
  obtain ⟨k, rfl⟩ : ∃ k, l = k + 1 := ⟨l - 1, by omega⟩
  have a := sure_l f k h hf (by omega)
  have b := splace_s k x h hx (by omega)
  have c := place_l f x k h hf (by omega)
  rw [callN]
  simp only [prog]
  simp [b_again_makes_hold, run_eq, startE, a, b, c, k_ladder_ALL]
/-- 0, or all, or none -/
def firstH (φ : Int → Int) : Option Int := if φ 0 = -1 then some 0 else if φ (-1) = -1 then some (-1) else none
theorem firsth_s (f : Fm) (l : Nat) (h : Hc) (hf : okF f) (hl : 66 ≤ l) : callN prog l f_again_first_that_holds [f.enc] h = match firstH f.pl with
    | some x => .ok (.int x) h
    | none => .ex ⟨0, none⟩ h := by
  obtain ⟨k, rfl⟩ : ∃ k, l = k + 1 := ⟨l - 1, by omega⟩
  have a := sure_l f k h hf (by omega)
  have c := fun x => place_l f x k h hf (by omega)
  rw [callN]
  simp only [prog]
  unfold firstH
  by_cases h0 : f.pl 0 = -1
  · simp [b_again_first_that_holds, run_eq, startE, a, c, k_ladder_ALL, forGo, h0]
  · by_cases h1 : f.pl (-1) = -1
    · simp [b_again_first_that_holds, run_eq, startE, a, c, k_ladder_ALL, forGo, h0, h1]
    · simp [b_again_first_that_holds, run_eq, startE, a, c, k_ladder_ALL, forGo, h0, h1, leaveX, gcOk_self]
theorem oft_le : ∀ f : Fm, f.oft ≤ f.par
  | .p => by simp [Fm.oft, Fm.par]
  | .no => by simp [Fm.oft, Fm.par]
  | .jn j a b => by
    have := oft_le a
    have := oft_le b
    simp only [Fm.oft, Fm.par]; omega
theorem putf_s (f g : Fm) (l : Nat) (h : Hc) (hf : okF f) (hg : okF g) (hp : okF (f.put g)) (hl : 66 ≤ l) : callN prog l f_sayings_put [f.enc, g.enc] h = .ok (f.put g).enc h := by
  obtain ⟨k, rfl⟩ : ∃ k, l = k + 1 := ⟨l - 1, by omega⟩
  have a := sure_l f k h hf (by omega)
  have b := sure_l g k h hg (by omega)
  have df := hf.2
  have dg := hg.2
  have dp := hp.2
  have o := oft_s f (k - f.dep) h
  rw [show k - f.dep + f.dep = k by omega] at o
  have p1 := parts_s f (k - f.dep) h
  rw [show k - f.dep + f.dep = k by omega] at p1
  have p2 := parts_s g (k - g.dep) h
  rw [show k - g.dep + g.dep = k by omega] at p2
  have pi := put_in_s f g (k - f.dep) h
  rw [show k - f.dep + f.dep = k by omega] at pi
  have ch := checked_s (f.put g) (k - (f.put g).dep - 1) h hp.1 hp.2
  rw [show k - (f.put g).dep - 1 + (f.put g).dep + 1 = k by omega] at ch
  have pp := put_par f g
  have hp1 := hp.1
  have fo := oft_le f
  have hf1 := hf.1
  have sm : small (f.oft : Int) = true := sm_nat _ (by omega)
  have n1 : ¬ (300 : Int) < (f.par : Int) + (f.oft : Int) * ((g.par : Int) - 1) := by
    have e : (f.oft : Int) * ((g.par : Int) - 1) = ((f.oft * g.par : Nat) : Int) - f.oft := by
      rw [Int.mul_sub, Int.mul_one, Int.natCast_mul]
    rw [e]
    omega
  rw [callN]
  simp only [prog]
  simp [b_sayings_put, run_eq, startE, a, b, o, p1, p2, sm, n1, pi, ch, k_sayings_MOST_PARTS, leave_enc]
/-- put on: the places put on -/
theorem pl_put : ∀ (f g : Fm) (x : Int), (f.put g).pl x = f.pl (g.pl x)
  | .p, _, _ => rfl
  | .no, _, _ => rfl
  | .jn j a b, g, x => by simp only [Fm.put, Fm.pl, pl_put a g x, pl_put b g x]
end Lad
set_option Elab.async false
set_option linter.all false
set_option maxRecDepth 100000
set_option maxHeartbeats 4000000
/-! The clean program's functions: again and again. -/
namespace Lad
def IL (xs : List Int) : List D := xs.map D.int
theorem IL_app (xs ys : List Int) : IL (xs ++ ys) = IL xs ++ IL ys := List.map_append
@[simp] theorem IL_len (xs : List Int) : (IL xs).length = xs.length := by simp [IL]
@[simp] theorem IL_data : ∀ xs : List Int, D.datas (IL xs) = true
  | [] => rfl
  | x :: xs => by
    have := IL_data xs
    simp only [IL, List.map_cons, D.datas, D.data, Bool.true_and] at *
    exact this
@[simp] theorem IL_pure : ∀ xs : List Int, D.pures (IL xs) = true
  | [] => rfl
  | x :: xs => by
    have := IL_pure xs
    simp only [IL, List.map_cons, D.pures, D.pure, Bool.true_and] at *
    exact this
@[simp] theorem IL_depths : ∀ xs : List Int, D.depths (IL xs) = 0
  | [] => rfl
  | x :: xs => by
    have := IL_depths xs
    simp only [IL, List.map_cons, D.depths, D.depth] at *
    omega
theorem IL_get (xs : List Int) (k : Nat) (hk : k < xs.length) : getI (IL xs) (k : Int) = some (.int (xs.getD k 0)) := by
  apply getI_nat
  simp [IL, List.getElem?_map, hk]
theorem IL_last (xs : List Int) (x : Int) : getI (IL (xs ++ [x])) (-1) = some (.int x) := by
  unfold getI ixOf
  rw [if_neg (by omega), if_pos (by simp; omega)]
  show (IL (xs ++ [x]))[(-1 + ((IL (xs ++ [x])).length : Int)).toNat]? = _
  have : (-1 + ((IL (xs ++ [x])).length : Int)).toNat = xs.length := by
    rw [IL_len]
    simp
    omega
  rw [this]
  simp [IL]
theorem IL_in (x : Int) (xs : List Int) : inD (.int x) (IL xs) = some (decide (x ∈ xs)) := by
  unfold inD
  rw [if_pos (by simp [D.data, D.depth])]
  congr 1
  induction xs with
  | nil => rfl
  | cons y ys ih =>
    simp only [IL, List.map_cons, List.any_cons, eqv_int] at *
    rw [ih]
    by_cases e : y = x
    · simp [e]
    · have e2 : ¬ x = y := fun q => e q.symm
      simp [e, e2]
theorem IL_fst (x : Int) : ∀ xs : List Int, x ∈ xs → firstIx (.int x) (IL xs) = some (xs.idxOf x)
  | [], hx => by simp at hx
  | y :: ys, hx => by
    simp only [IL, List.map_cons, firstIx, eqv_int]
    by_cases e : y = x
    · simp [e]
    · have hy : x ∈ ys := by
        rcases List.mem_cons.mp hx with q | q
        · exact absurd q.symm e
        · exact q
      have ih := IL_fst x ys hy
      simp only [IL] at ih
      have e3 : (y == x) = false := by simp [e]
      simp [e, ih, List.idxOf_cons, e3]
def wk (φ : Int → Int) : Nat → List Int → Int → List Int
  | 0, xs, x => xs ++ [x]
  | n + 1, xs, x => if x ∈ xs then xs ++ [x] else wk φ n (xs ++ [x]) (φ x)
def wkS (φ : Int → Int) : Nat → List Int → Int → Bool
  | 0, xs, x => decide (x ∈ xs)
  | n + 1, xs, x => decide (x ∈ xs) || wkS φ n (xs ++ [x]) (φ x)
theorem app_ref (h : Hc) (ds : List D) (v : D) : methD .append (.ref h.length) [v] (h ++ [.lst ds]) = if ds.length < sizeMax then some (.non, h ++ [.lst (ds ++ [v])]) else none := by
  have e : (match (h ++ [MO.lst ds])[h.length]? with
    | some (.lst xs) => (if xs.length < sizeMax then some (D.non, (h ++ [MO.lst ds]).set h.length (.lst (xs ++ [v]))) else none)
    | _ => none) = if ds.length < sizeMax then some (.non, h ++ [.lst (ds ++ [v])]) else none := by
    rw [getA]
    simp
  exact e
theorem sl_init (h : Hc) (xs : List Int) (x : Int) : slD (.ref h.length) .non (.int (-1)) (h ++ [.lst (IL (xs ++ [x]))]) = some (.lst (IL xs)) := by
  have e : (match (h ++ [MO.lst (IL (xs ++ [x]))])[h.length]? with
    | some (.lst ds) => (match slIx ds.length 0 .non, slIx ds.length ds.length (.int (-1)) with
      | some i, some j => some (D.lst (cut ds i j))
      | _, _ => none)
    | _ => none) = some (.lst (IL xs)) := by
    rw [getA]
    simp only [slIx]
    congr 2
    rw [if_neg (by omega)]
    have : (-1 + ((IL (xs ++ [x])).length : Int)).toNat = xs.length := by
      rw [IL_len]
      simp
      omega
    rw [this]
    simp [cut, IL, List.take_append]
  exact e
theorem mem_L (h : Hc) (x : Int) (xs : List Int) : cmpD .mem (.int x) (.lst (IL xs)) h = some (.bl (decide (x ∈ xs))) := by
  show (match inD (.int x) (IL xs) with | some t => some (D.bl t) | none => none) = _
  rw [IL_in]
theorem nmem_L (h : Hc) (x : Int) (xs : List Int) : cmpD .nmem (.int x) (.lst (IL xs)) h = some (.bl (!decide (x ∈ xs))) := by
  show (match inD (.int x) (IL xs) with | some t => some (D.bl (!t)) | none => none) = _
  rw [IL_in]
theorem len_ref (h : Hc) (ds : List D) : biD .len [.ref h.length] (h ++ [.lst ds]) = some (.int ds.length, h ++ [.lst ds]) := by
  have e : keep (h ++ [MO.lst ds]) ((match (h ++ [MO.lst ds])[h.length]? with
    | some (.lst ds) => some ds.length
    | some (.dct kvs) => some kvs.length
    | _ => none).map fun (n : Nat) => D.int n) = some (.int ds.length, h ++ [.lst ds]) := by
    rw [getA]
    rfl
  exact e
theorem leave_ref (h : Hc) (ds : List D) (hp : D.pures ds = true) : leave true h (.ref h.length) (h ++ [.lst ds]) = .ok (.lst ds) h := by
  unfold leave
  simp [D.pure, hp, gcOk_app]
theorem walk_loop (C : CallT) (φ : Int → Int) (d : D) (h : Hc)
    (hc : ∀ x h, C f_ladder_place_in [d, .int x] h = .ok (.int (φ x)) h) :
    ∀ (n : Nat) (xs : List Int) (x : Int) (fuel : Nat), wkS φ n xs x = true → n < fuel → xs.length + n < 1000 →
      whlGo (evT C (.e (.cmp .nmem (.ix (.var 1) (.neg (.c (.int 1)))) (.sl (.var 1) (.c .non) (.neg (.c (.int 1)))))))
        (exSs C [.ex (.meth .append (.var 1) [.call f_ladder_place_in [.var 0, .ix (.var 1) (.neg (.c (.int 1)))]])]) fuel [some d, some (.ref h.length)] (h ++ [.lst (IL (xs ++ [x]))])
      = .next [some d, some (.ref h.length)] (h ++ [.lst (IL (wk φ n xs x))]) := by
  have T : ∀ (xs : List Int) (x : Int), evT C (.e (.cmp .nmem (.ix (.var 1) (.neg (.c (.int 1)))) (.sl (.var 1) (.c .non) (.neg (.c (.int 1)))))) [some d, some (.ref h.length)] (h ++ [.lst (IL (xs ++ [x]))]) = .ok (!decide (x ∈ xs)) (h ++ [.lst (IL (xs ++ [x]))]) := by
    intro xs x
    have i1 := ix_ref (y := .non) (getA h (.lst (IL (xs ++ [x])))) (j := -1)
    simp [i1, IL_last, isP, noneE, isI, sl_init, nmem_L]
  intro n
  induction n with
  | zero =>
    intro xs x fuel hs hf _
    obtain ⟨k, rfl⟩ : ∃ k, fuel = k + 1 := ⟨fuel - 1, by omega⟩
    simp only [wkS, decide_eq_true_eq] at hs
    rw [whl_stop (by rw [T]; simp [hs])]
    rfl
  | succ n ih =>
    intro xs x fuel hs hf hl
    obtain ⟨k, rfl⟩ : ∃ k, fuel = k + 1 := ⟨fuel - 1, by omega⟩
    by_cases e : x ∈ xs
    · rw [whl_stop (by rw [T]; simp [e])]
      simp [wk, e]
    · have i1 := ix_ref (y := .non) (getA h (.lst (IL (xs ++ [x])))) (j := -1)
      have r1 := recv_ref2 h (IL (xs ++ [x])) .append rfl
      have a1 := app_ref h (IL (xs ++ [x])) (.int (φ x))
      rw [if_pos (by rw [IL_len]; simp [sizeMax]; omega)] at a1
      rw [whl_go (h2 := h ++ [.lst (IL ((xs ++ [x]) ++ [φ x]))]) (env2 := [some d, some (.ref h.length)]) (by rw [T]; simp [e]) (by
        simp [i1, IL_last, r1, hc, a1]
        simp [IL])]
      simp only [wkS, e, decide_false, Bool.false_or] at hs
      rw [ih (xs ++ [x]) (φ x) k hs (by omega) (by simp; omega)]
      simp [wk, e]
theorem walk_s (f : Fm) (n l : Nat) (h : Hc) (hf : okF f) (hl : 66 ≤ l) (hn : n < 1000) (hs : wkS f.pl n [] 1 = true) :
    callN prog l f_again_walk [f.enc] h = .ok (.lst (IL (wk f.pl n [] 1))) h := by
  obtain ⟨k, rfl⟩ : ∃ k, l = k + 1 := ⟨l - 1, by omega⟩
  have c : ∀ x h, callN prog k f_ladder_place_in [f.enc, .int x] h = .ok (.int (f.pl x)) h := fun x h => place_l f x k h hf (by omega)
  have W := walk_loop (callN prog k) f.pl f.enc h c n [] 1 lapsMax hs (by simp [lapsMax]; omega) (by simp; omega)
  simp only [List.nil_append] at W
  rw [callN]
  simp only [prog]
  rw [run_eq, if_pos (show [f.enc].length = b_again_walk.arity from rfl)]
  simp only [b_again_walk]
  rw [xs_cons]
  have s1 : exS (callN prog k) (.asg (.nm 1) (.nw (.lst [.c (.int 1)]))) (startE 2 [f.enc]) h = .next [some f.enc, some (.ref h.length)] (h ++ [.lst (IL [1])]) := by
    simp [startE, IL]
  rw [s1]
  simp only
  rw [xs_cons, x_whl, W]
  simp [leave_ref]
end Lad
set_option Elab.async false
set_option linter.all false
set_option maxRecDepth 100000
set_option maxHeartbeats 4000000
/-! The clean program's functions: rounds and far places. -/
namespace Lad
theorem swithin_s (x lo hi : Int) (l : Nat) (h : Hc) (h1 : lo ≤ x) (h2 : x ≤ hi) (hl : 3 ≤ l) : callN prog l f_base_sure_within [.int x, .int lo, .int hi] h = .ok (.int x) h := by
  obtain ⟨k, rfl⟩ : ∃ k, l = k + 3 := ⟨l - 3, by omega⟩
  have a := num_s k x h
  have b : callN prog (k + 2) f_base_is_within [.int x, .int lo, .int hi] h = .ok (.bl true) h := by
    rw [callN]
    simp only [prog]
    simp [b_base_is_within, run_eq, startE, a, h1, h2]
  rw [callN]
  simp only [prog]
  simp [b_base_sure_within, run_eq, startE, b]
theorem index_L (h : Hc) (x : Int) (xs : List Int) (hx : x ∈ xs) : methD .index (.lst (IL xs)) [.int x] h = some (.int (xs.idxOf x), h) := by
  have e : (match items? h (.lst (IL xs)) with
    | some xs => if (D.int x).data && D.datas xs && decide ((D.int x).depth ≤ 60) && decide (D.depths xs ≤ 60) then (match firstIx (.int x) xs with
      | some k => some (D.int k, h)
      | none => none) else none
    | none => none) = some (.int (xs.idxOf x), h) := by
    simp [D.data, D.depth, IL_fst x xs hx]
  exact e
/-- a walk: its last is in it before -/
structure Wlk (w : List Int) (b : Nat) (e : Int) : Prop where
  last : w.getLast? = some e
  at_ : w.idxOf e = b
  turn : b + 1 < w.length
  short : w.length < 1000
theorem Wlk.split {w : List Int} {b : Nat} {e : Int} (hw : Wlk w b e) : ∃ xs, w = xs ++ [e] := by
  obtain ⟨ys, hy⟩ := List.getLast?_eq_some_iff.mp hw.last
  exact ⟨ys, hy⟩
theorem Wlk.mem {w : List Int} {b : Nat} {e : Int} (hw : Wlk w b e) : e ∈ w := by
  obtain ⟨xs, rfl⟩ := hw.split
  simp
theorem Wlk.get {w : List Int} {b : Nat} {e : Int} (hw : Wlk w b e) : getI (IL w) (-1) = some (.int e) := by
  obtain ⟨xs, rfl⟩ := hw.split
  exact IL_last xs e
section
variable (f : Fm) (n l : Nat) (h : Hc) (hf : okF f) (hn : n < 1000) (hs : wkS f.pl n [] 1 = true) {b : Nat} {e : Int} (hw : Wlk (wk f.pl n [] 1) b e)
include hf hn hs in
theorem again_s (hl : 67 ≤ l) : callN prog l f_again_places [f.enc] h = .ok (.lst (IL (wk f.pl n [] 1))) h := by
  obtain ⟨k, rfl⟩ : ∃ k, l = k + 1 := ⟨l - 1, by omega⟩
  have a := sure_l f k h hf (by omega)
  have c := walk_s f n k h hf (by omega) hn hs
  rw [callN]
  simp only [prog]
  simp [b_again_places, run_eq, startE, a, c, leave_same, D.pure]
include hf hn hs hw in
theorem round_s (hl : 67 ≤ l) : callN prog l f_again_round_of [f.enc] h = .ok (.tup [.int b, .int ((wk f.pl n [] 1).length - 1 - b)]) h := by
  obtain ⟨k, rfl⟩ : ∃ k, l = k + 1 := ⟨l - 1, by omega⟩
  have a := sure_l f k h hf (by omega)
  have c := walk_s f n k h hf (by omega) hn hs
  have i := index_L h e _ hw.mem
  have g := hw.get
  rw [hw.at_] at i
  rw [callN]
  simp only [prog]
  simp [b_again_round_of, run_eq, startE, a, c, g, recvOk, i, leave_same, D.pure, D.pures]
/-- the place after so many times -/
def farI (w : List Int) (b : Nat) (t : Int) : Int := if t < w.length then w.getD t.toNat 0 else w.getD (b + (t - b) % (w.length - 1 - b)).toNat 0
include hf hn hs hw in
theorem far_s (t : Int) (h1 : 0 ≤ t) (h2 : t ≤ 1000000000000000000000000000000000000000000000000000000000000) (hl : 67 ≤ l) : callN prog l f_again_place_far [f.enc, .int t] h = .ok (.int (farI (wk f.pl n [] 1) b t)) h := by
  obtain ⟨k, rfl⟩ : ∃ k, l = k + 1 := ⟨l - 1, by omega⟩
  have a := sure_l f k h hf (by omega)
  have c := walk_s f n k h hf (by omega) hn hs
  have i := index_L h e _ hw.mem
  have g := hw.get
  rw [hw.at_] at i
  have s := swithin_s t 0 1000000000000000000000000000000000000000000000000000000000000 k h h1 h2 (by omega)
  have p : binD .pow (.int 10) (.int 60) = some (.int 1000000000000000000000000000000000000000000000000000000000000) := rfl
  have tr := hw.turn
  generalize wk f.pl n [] 1 = w at *
  unfold farI
  rw [callN]
  simp only [prog]
  by_cases q : t < w.length
  · have e1 := IL_get w t.toNat (by omega)
    rw [Int.toNat_of_nonneg h1] at e1
    rw [if_pos q]
    simp [b_again_place_far, run_eq, startE, a, c, g, recvOk, i, p, s, q, e1]
  · rw [if_neg q]
    have m : (0 : Int) < (w.length : Int) - 1 - b := by omega
    have m0 := Int.emod_nonneg (t - b) (show ((w.length : Int) - 1 - b) ≠ 0 by omega)
    have m1 := Int.emod_lt_of_pos (t - b) m
    have e1 := IL_get w (b + (t - b) % (w.length - 1 - b)).toNat (by omega)
    rw [Int.toNat_of_nonneg (by omega)] at e1
    have mm := b_modI (t - b) ((w.length : Int) - 1 - b) m
    simp [b_again_place_far, run_eq, startE, a, c, g, recvOk, i, p, s, q, e1, mm]
end
end Lad
set_option Elab.async false
set_option linter.all false
set_option maxRecDepth 100000
set_option maxHeartbeats 4000000
/-! The clean program's functions: rungs. -/
namespace Lad
def rungF : Nat → Fm
  | 0 => .no
  | 1 => .p
  | 2 => .jn .to .p .no
  | n + 3 => if (n + 3) % 2 = 1 then .jn .or (rungF (n + 1)) (rungF (n + 2)) else .jn .to (rungF (n + 2)) (rungF n)
/-- a row of things -/
def GL (G : Nat → D) (n : Nat) : List D := (List.range n).map G
@[simp] theorem GL_len (G : Nat → D) (n : Nat) : (GL G n).length = n := by simp [GL]
theorem GL_succ (G : Nat → D) (n : Nat) : GL G n ++ [G n] = GL G (n + 1) := by simp [GL, List.range_succ]
theorem GL_get (G : Nat → D) (n k : Nat) (hk : k < n) (i : Int) (hi : i = k) : getI (GL G n) i = some (G k) := by
  subst hi
  apply getI_nat
  simp [GL, hk]
def rT : T := .e (.cmp .le (.bi .len [.var 1]) (.var 0))
def rB : List S := match b_rungs_rung_in.body with
  | [_, _, .whl _ b, _] => b
  | _ => []
def pB : List S := match b_rungs_rung_parts_in.body with
  | [_, _, .whl _ b, _] => b
  | _ => []
theorem rT_ev (C : CallT) (k : Int) (h : Hc) (ds : List D) (o : Option D) : evT C rT [some (.int k), some (.ref h.length), o] (h ++ [.lst ds]) = .ok (decide ((ds.length : Int) ≤ k)) (h ++ [.lst ds]) := by
  simp [rT, len_ref]
theorem row_loop (C : CallT) (B : List S) (G : Nat → D) (k : Nat) (h : Hc)
    (hb : ∀ n o, 3 ≤ n → n ≤ k → ∃ o', exSs C B [some (.int k), some (.ref h.length), o] (h ++ [.lst (GL G n)]) = .next [some (.int k), some (.ref h.length), o'] (h ++ [.lst (GL G (n + 1))])) :
    ∀ (m n fuel : Nat) (o : Option D), 3 ≤ n → n + m = max 3 (k + 1) → m < fuel →
      ∃ o', whlGo (evT C rT) (exSs C B) fuel [some (.int k), some (.ref h.length), o] (h ++ [.lst (GL G n)]) = .next [some (.int k), some (.ref h.length), o'] (h ++ [.lst (GL G (max 3 (k + 1)))]) := by
  intro m
  induction m with
  | zero =>
    intro n fuel o h3 e hf
    obtain ⟨q, rfl⟩ : ∃ q, fuel = q + 1 := ⟨fuel - 1, by omega⟩
    refine ⟨o, ?_⟩
    rw [whl_stop (by rw [rT_ev, decide_eq_false (by simp; omega)])]
    rw [← e]
    rfl
  | succ m ih =>
    intro n fuel o h3 e hf
    obtain ⟨q, rfl⟩ : ∃ q, fuel = q + 1 := ⟨fuel - 1, by omega⟩
    obtain ⟨o1, b1⟩ := hb n o h3 (by omega)
    obtain ⟨o2, b2⟩ := ih (n + 1) q o1 (by omega) (by omega) (by omega)
    refine ⟨o2, ?_⟩
    rw [whl_go (by rw [rT_ev, decide_eq_true (by simp; omega)]) b1]
    exact b2
def rG (n : Nat) : D := (rungF n).enc
def partsI : Nat → Int
  | 0 => 1
  | 1 => 1
  | 2 => 3
  | n + 3 => if (n + 3) % 2 = 1 then 1 + partsI (n + 2) + partsI (n + 1) else 1 + partsI (n + 2) + partsI n
def pG (n : Nat) : D := .int (partsI n)
theorem rung_step (C : CallT) (k : Nat) (hk : k ≤ 100) (h : Hc) : ∀ n o, 3 ≤ n → n ≤ k → ∃ o', exSs C rB [some (.int k), some (.ref h.length), o] (h ++ [.lst (GL rG n)]) = .next [some (.int k), some (.ref h.length), o'] (h ++ [.lst (GL rG (n + 1))]) := by
  intro n o h3 hn
  obtain ⟨q, rfl⟩ : ∃ q, n = q + 3 := ⟨n - 3, by omega⟩
  refine ⟨some (.int (q + 3 : Nat)), ?_⟩
  have r1 := recv_ref2 h (GL rG (q + 3)) .append rfl
  have i1 := fun j => ix_ref (y := .non) (getA h (.lst (GL rG (q + 3)))) (j := j)
  have g1 := GL_get rG (q + 3) (q + 2) (by omega) ((q + 3 : Nat) - 1) (by omega)
  have g2 := GL_get rG (q + 3) (q + 1) (by omega) ((q + 3 : Nat) - 2) (by omega)
  have g3 := GL_get rG (q + 3) q (by omega) ((q + 3 : Nat) - 3) (by omega)
  have a1 := app_ref h (GL rG (q + 3)) (rG (q + 3))
  rw [if_pos (by rw [GL_len]; simp [sizeMax]; omega), GL_succ] at a1
  have l1 := len_ref h (GL rG (q + 3))
  rw [GL_len] at l1
  have m1 := b_modI ((q + 3 : Nat) : Int) 2 (by omega)
  by_cases e : (q + 3) % 2 = 1
  · have e2 : ((q + 3 : Nat) : Int) % 2 = 1 := by omega
    have rr : rG (q + 3) = .tup [.str [111, 114], rG (q + 1), rG (q + 2)] := by
      simp only [rG, rungF]
      rw [if_pos e]
      simp [Fm.enc, jnW]
    rw [rr] at a1
    simp only [rB, b_rungs_rung_in]
    generalize ((q + 3 : Nat) : Int) = z at *
    simp [l1, m1, e2, r1, i1, g1, g2, a1]
  · have e2 : ¬ ((q + 3 : Nat) : Int) % 2 = 1 := by omega
    have rr : rG (q + 3) = .tup [.str [116, 111], rG (q + 2), rG q] := by
      simp only [rG, rungF]
      rw [if_neg e]
      simp [Fm.enc, jnW]
    rw [rr] at a1
    simp only [rB, b_rungs_rung_in]
    generalize ((q + 3 : Nat) : Int) = z at *
    simp [l1, m1, e2, r1, i1, g1, g3, a1]
theorem parts_step (C : CallT) (k : Nat) (hk : k ≤ 100) (h : Hc) : ∀ n o, 3 ≤ n → n ≤ k → ∃ o', exSs C pB [some (.int k), some (.ref h.length), o] (h ++ [.lst (GL pG n)]) = .next [some (.int k), some (.ref h.length), o'] (h ++ [.lst (GL pG (n + 1))]) := by
  intro n o h3 hn
  obtain ⟨q, rfl⟩ : ∃ q, n = q + 3 := ⟨n - 3, by omega⟩
  refine ⟨some (.int (q + 3 : Nat)), ?_⟩
  have r1 := recv_ref2 h (GL pG (q + 3)) .append rfl
  have i1 := fun j => ix_ref (y := .non) (getA h (.lst (GL pG (q + 3)))) (j := j)
  have g1 := GL_get pG (q + 3) (q + 2) (by omega) ((q + 3 : Nat) - 1) (by omega)
  have g2 := GL_get pG (q + 3) (q + 1) (by omega) ((q + 3 : Nat) - 2) (by omega)
  have g3 := GL_get pG (q + 3) q (by omega) ((q + 3 : Nat) - 3) (by omega)
  have a1 := app_ref h (GL pG (q + 3)) (pG (q + 3))
  rw [if_pos (by rw [GL_len]; simp [sizeMax]; omega), GL_succ] at a1
  have l1 := len_ref h (GL pG (q + 3))
  rw [GL_len] at l1
  have m1 := b_modI ((q + 3 : Nat) : Int) 2 (by omega)
  by_cases e : (q + 3) % 2 = 1
  · have e2 : ((q + 3 : Nat) : Int) % 2 = 1 := by omega
    have rr : pG (q + 3) = .int (1 + partsI (q + 2) + partsI (q + 1)) := by
      simp only [pG, partsI]
      rw [if_pos e]
    rw [rr] at a1
    simp only [pB, b_rungs_rung_parts_in]
    generalize ((q + 3 : Nat) : Int) = z at *
    simp [l1, m1, e2, r1, i1, g1, g2, a1, pG]
  · have e2 : ¬ ((q + 3 : Nat) : Int) % 2 = 1 := by omega
    have rr : pG (q + 3) = .int (1 + partsI (q + 2) + partsI q) := by
      simp only [pG, partsI]
      rw [if_neg e]
    rw [rr] at a1
    simp only [pB, b_rungs_rung_parts_in]
    generalize ((q + 3 : Nat) : Int) = z at *
    simp [l1, m1, e2, r1, i1, g1, g3, a1, pG]
/-- the rung of a place from −1 on -/
def rungZ (k : Int) : Fm := if k = -1 then .jn .to .no .no else rungF k.toNat
theorem GL3r : GL rG 3 = [k_sayings_NO, k_sayings_P, .tup [.str [116,111], k_sayings_P, k_sayings_NO]] := rfl
theorem GL3p : GL pG 3 = [.int 1, .int 1, .int 3] := rfl
theorem rungin_s (k : Int) (h1 : -1 ≤ k) (h2 : k ≤ 12) (l : Nat) (h : Hc) (hl : 1 ≤ l) : callN prog l f_rungs_rung_in [.int k] h = .ok (rungZ k).enc h := by
  obtain ⟨q, rfl⟩ : ∃ q, l = q + 1 := ⟨l - 1, by omega⟩
  by_cases e : k = -1
  · subst e
    rw [callN]
    simp only [prog]
    simp [b_rungs_rung_in, run_eq, startE, k_ladder_ALL, k_rungs_YES, leave_same, D.pure, D.pures, k_sayings_NO, rungZ, Fm.enc, jnW]
  · obtain ⟨n, rfl⟩ : ∃ n : Nat, k = n := ⟨k.toNat, by omega⟩
    obtain ⟨o', L⟩ := row_loop (callN prog q) rB rG n h (rung_step _ n (by omega) h) (max 3 (n + 1) - 3) 3 lapsMax none (by omega) (by omega) (by simp [lapsMax]; omega)
    have g := GL_get rG (max 3 (n + 1)) n (by omega) n rfl
    have i1 := ix_ref (y := .non) (getA h (.lst (GL rG (max 3 (n + 1))))) (j := n)
    rw [g] at i1
    have zz : (rungZ (n : Int)).enc = rG n := by simp [rungZ, e, rG]
    rw [zz]
    have e0 : ((n : Int) == -1) = false := by simp [e]
    rw [callN]
    simp only [prog]
    rw [run_eq, if_pos (show [D.int (n : Int)].length = b_rungs_rung_in.arity from rfl)]
    have B0 : b_rungs_rung_in.body = [.ifs (.e (.cmp .eq (.var 0) (.gl g_ladder_ALL k_ladder_ALL))) [.ret (.gl g_rungs_YES k_rungs_YES)] [],
      .asg (.nm 1) (.nw (.lst [.gl g_sayings_NO k_sayings_NO, .gl g_sayings_P k_sayings_P, .tup [.c (.str [116,111]), .gl g_sayings_P k_sayings_P, .gl g_sayings_NO k_sayings_NO]])),
      .whl rT rB, .ret (.ix (.var 1) (.var 0))] := rfl
    rw [B0]
    simp only [xs_cons, x_whl]
    have s1 : exS (callN prog q) (.ifs (.e (.cmp .eq (.var 0) (.gl g_ladder_ALL k_ladder_ALL))) [.ret (.gl g_rungs_YES k_rungs_YES)] []) (startE b_rungs_rung_in.slots [.int (n : Int)]) h = .next [some (.int (n : Int)), none, none] h := by
      simp [startE, b_rungs_rung_in, k_ladder_ALL, e0]
    rw [s1]
    simp only
    have s2 : exS (callN prog q) (.asg (.nm 1) (.nw (.lst [.gl g_sayings_NO k_sayings_NO, .gl g_sayings_P k_sayings_P, .tup [.c (.str [116,111]), .gl g_sayings_P k_sayings_P, .gl g_sayings_NO k_sayings_NO]]))) [some (.int (n : Int)), none, none] h = .next [some (.int (n : Int)), some (.ref h.length), none] (h ++ [.lst (GL rG 3)]) := by
      simp [GL3r]
    rw [s2]
    simp only
    rw [L]
    simp [i1]
    have pu : D.pure (rG n) = true := by
      simp only [rG]
      exact pure_enc _
    exact leave_app pu
theorem partsin_s (k : Int) (h1 : -1 ≤ k) (h2 : k ≤ 12) (l : Nat) (h : Hc) (hl : 1 ≤ l) : ∃ v, v ≤ 300 ∧ callN prog l f_rungs_rung_parts_in [.int k] h = .ok (.int v) h := by
  obtain ⟨q, rfl⟩ : ∃ q, l = q + 1 := ⟨l - 1, by omega⟩
  by_cases e : k = -1
  · subst e
    refine ⟨3, by omega, ?_⟩
    rw [callN]
    simp only [prog]
    simp [b_rungs_rung_parts_in, run_eq, startE, k_ladder_ALL]
  · obtain ⟨n, rfl⟩ : ∃ n : Nat, k = n := ⟨k.toNat, by omega⟩
    obtain ⟨o', L⟩ := row_loop (callN prog q) pB pG n h (parts_step _ n (by omega) h) (max 3 (n + 1) - 3) 3 lapsMax none (by omega) (by omega) (by simp [lapsMax]; omega)
    have g := GL_get pG (max 3 (n + 1)) n (by omega) n rfl
    have i1 := ix_ref (y := .non) (getA h (.lst (GL pG (max 3 (n + 1))))) (j := n)
    rw [g] at i1
    have pb : ∀ n : Nat, n < 13 → partsI n ≤ 300 := by decide
    refine ⟨partsI n, pb n (by omega), ?_⟩
    have e0 : ((n : Int) == -1) = false := by simp [e]
    rw [callN]
    simp only [prog]
    rw [run_eq, if_pos (show [D.int (n : Int)].length = b_rungs_rung_parts_in.arity from rfl)]
    have B0 : b_rungs_rung_parts_in.body = [.ifs (.e (.cmp .eq (.var 0) (.gl g_ladder_ALL k_ladder_ALL))) [.ret (.c (.int 3))] [],
      .asg (.nm 1) (.nw (.lst [.c (.int 1), .c (.int 1), .c (.int 3)])),
      .whl rT pB, .ret (.ix (.var 1) (.var 0))] := rfl
    rw [B0]
    simp only [xs_cons, x_whl]
    have s1 : exS (callN prog q) (.ifs (.e (.cmp .eq (.var 0) (.gl g_ladder_ALL k_ladder_ALL))) [.ret (.c (.int 3))] []) (startE b_rungs_rung_parts_in.slots [.int (n : Int)]) h = .next [some (.int (n : Int)), none, none] h := by
      simp [startE, b_rungs_rung_parts_in, k_ladder_ALL, e0]
    rw [s1]
    simp only
    have s2 : exS (callN prog q) (.asg (.nm 1) (.nw (.lst [.c (.int 1), .c (.int 1), .c (.int 3)]))) [some (.int (n : Int)), none, none] h = .next [some (.int (n : Int)), some (.ref h.length), none] (h ++ [.lst (GL pG 3)]) := by
      simp [GL3p]
    rw [s2]
    simp only
    rw [L]
    simp [i1, pG]
    exact leave_app rfl
theorem rung_s (k : Int) (h1 : -1 ≤ k) (h2 : k ≤ 12) (l : Nat) (h : Hc) (hl : 10 ≤ l) : callN prog l f_rungs_rung [.int k] h = .ok (rungZ k).enc h := by
  obtain ⟨q, rfl⟩ : ∃ q, l = q + 2 := ⟨l - 2, by omega⟩
  obtain ⟨v, hv, p⟩ := partsin_s k h1 h2 q h (by omega)
  have a := splace_s (q + 1) k h ⟨h1, by omega⟩ (by omega)
  have b := rungin_s k h1 h2 (q + 1) h (by omega)
  have n1 : ¬ (16 : Int) < k := by omega
  have n2 : ¬ (300 : Int) < v := by omega
  have s : callN prog (q + 1) f_rungs_sure_rung [.int k] h = .ok (.int k) h := by
    rw [callN]
    simp only [prog]
    simp [b_rungs_sure_rung, run_eq, startE, k_rungs_MOST_RUNG, n1, p, n2, k_sayings_MOST_PARTS]
  rw [callN]
  simp only [prog]
  simp [b_rungs_rung, run_eq, startE, a, s, b]
  exact leave_same (pure_enc _)
end Lad
set_option Elab.async false
set_option linter.all false
set_option maxRecDepth 100000
set_option maxHeartbeats 4000000
/-! The law's own helpers. -/
namespace Lad
/-- a row of places -/
def wG (x : Int) (n : Nat) : D := .int ((rungF n).pl x)
def lB : List S := match b_law_law_rung.body with
  | [_, .forS _ _ _ b, _] => b
  | _ => []
theorem lr_step (l : Nat) (hl : 10 ≤ l) (x : Int) (hx : ∀ n, n < 16 → okP ((rungF n).pl x)) (k : Int) (n : Nat) (h3 : 3 ≤ n) (hn : n < 16) (h : Hc) (o1 o2 : Option D) (i : Int) :
    exSs (callN prog l) lB [some (.int k), some (.int x), some (.ref h.length), some (.int i), o2] (h ++ [.lst (GL (wG x) n)]) = .next [some (.int k), some (.int x), some (.ref h.length), some (.int i), some (.int n)] (h ++ [.lst (GL (wG x) (n + 1))]) := by
  obtain ⟨q, rfl⟩ : ∃ q, n = q + 3 := ⟨n - 3, by omega⟩
  have r1 := recv_ref2 h (GL (wG x) (q + 3)) .append rfl
  have i1 := fun j => ix_ref (y := .non) (getA h (.lst (GL (wG x) (q + 3)))) (j := j)
  have g1 := GL_get (wG x) (q + 3) (q + 2) (by omega) ((q + 3 : Nat) - 1) (by omega)
  have g2 := GL_get (wG x) (q + 3) (q + 1) (by omega) ((q + 3 : Nat) - 2) (by omega)
  have g3 := GL_get (wG x) (q + 3) q (by omega) ((q + 3 : Nat) - 3) (by omega)
  have a1 := app_ref h (GL (wG x) (q + 3)) (wG x (q + 3))
  rw [if_pos (by rw [GL_len]; simp [sizeMax]; omega), GL_succ] at a1
  have l1 := len_ref h (GL (wG x) (q + 3))
  rw [GL_len] at l1
  have m1 := b_modI ((q + 3 : Nat) : Int) 2 (by omega)
  have x0 := hx q (by omega)
  have x1 := hx (q + 1) (by omega)
  have x2 := hx (q + 2) (by omega)
  have E1 := either_d ((rungF (q + 1)).pl x) ((rungF (q + 2)).pl x) l (h ++ [.lst (GL (wG x) (q + 3))]) x1 x2 hl
  have E2 := leads_d ((rungF (q + 2)).pl x) ((rungF q).pl x) l (h ++ [.lst (GL (wG x) (q + 3))]) x2 x0 hl
  by_cases e : (q + 3) % 2 = 1
  · have e2 : ((q + 3 : Nat) : Int) % 2 = 1 := by omega
    have rr : wG x (q + 3) = .int (eitherI ((rungF (q + 1)).pl x) ((rungF (q + 2)).pl x)) := by
      simp only [wG, rungF]
      rw [if_pos e]
      simp [Fm.pl, jnI]
    rw [rr] at a1
    simp only [lB, b_law_law_rung]
    generalize ((q + 3 : Nat) : Int) = z at *
    simp [l1, m1, e2, r1, i1, g1, g2, a1, wG, E1]
  · have e2 : ¬ ((q + 3 : Nat) : Int) % 2 = 1 := by omega
    have rr : wG x (q + 3) = .int (leadsI ((rungF (q + 2)).pl x) ((rungF q).pl x)) := by
      simp only [wG, rungF]
      rw [if_neg e]
      simp [Fm.pl, jnI]
    rw [rr] at a1
    simp only [lB, b_law_law_rung]
    generalize ((q + 3 : Nat) : Int) = z at *
    simp [l1, m1, e2, r1, i1, g1, g3, a1, wG, E2]
theorem lr_loop (l : Nat) (hl : 10 ≤ l) (x : Int) (hx : ∀ n, n < 16 → okP ((rungF n).pl x)) (k : Int) (h : Hc) :
    ∀ (m : Nat) (n : Nat) (i0 : Int) (o1 o2 : Option D), 3 ≤ n → n + m ≤ 16 →
      ∃ o1' o2', forGo (fun _ => true) [3] false (exSs (callN prog l) lB) (rangeD i0 m) [some (.int k), some (.int x), some (.ref h.length), o1, o2] (h ++ [.lst (GL (wG x) n)])
        = .next [some (.int k), some (.int x), some (.ref h.length), o1', o2'] (h ++ [.lst (GL (wG x) (n + m))]) := by
  intro m
  induction m with
  | zero => intro n i0 o1 o2 h3 hn; exact ⟨o1, o2, rfl⟩
  | succ m ih =>
    intro n i0 o1 o2 h3 hn
    obtain ⟨p1, p2, e⟩ := ih (n + 1) (i0 + 1) (some (.int i0)) (some (.int n)) (by omega) (by omega)
    refine ⟨p1, p2, ?_⟩
    have s := lr_step l hl x hx k n h3 (by omega) h o1 o2 i0
    simp only [rangeD, forGo, bg_one, List.set_cons_succ, List.set_cons_zero]
    rw [s]
    simp only [if_true]
    rw [e]
    rw [show n + 1 + m = n + (m + 1) by omega]
theorem lawrung_s (k x : Int) (h1 : -1 ≤ k) (h2 : k ≤ 12) (hx0 : okP x) (hx : ∀ n, n < 16 → okP ((rungF n).pl x)) (l : Nat) (h : Hc) (hl : 11 ≤ l) :
    callN prog l f_law_law_rung [.int k, .int x] h = .ok (.int ((rungZ k).pl x)) h := by
  obtain ⟨q, rfl⟩ : ∃ q, l = q + 1 := ⟨l - 1, by omega⟩
  have a := leads_d x 0 q h hx0 ⟨by omega, by omega⟩ (by omega)
  obtain ⟨p1, p2, L⟩ := lr_loop q (by omega) x hx k h k.toNat 3 0 none none (by omega) (by omega)
  have G3 : GL (wG x) 3 = [.int 0, .int x, .int (leadsI x 0)] := rfl
  have ir : inRange k = true := by
    simp [inRange]
    omega
  rw [callN]
  simp only [prog]
  rw [run_eq, if_pos (show [D.int k, D.int x].length = b_law_law_rung.arity from rfl)]
  have B0 : b_law_law_rung.body = [.asg (.nm 2) (.nw (.lst [.c (.int 0), .var 1, .call f_ladder_leads [.var 1, .c (.int 0)]])),
    .forS [3] false (.rng1 (.var 0)) lB, .ret (.ife (.e (.cmp .eq (.var 0) (.neg (.c (.int 1))))) (.neg (.c (.int 1))) (.ix (.var 2) (.var 0)))] := rfl
  rw [B0]
  simp only [xs_cons, x_for]
  have s1 : exS (callN prog q) (.asg (.nm 2) (.nw (.lst [.c (.int 0), .var 1, .call f_ladder_leads [.var 1, .c (.int 0)]]))) (startE b_law_law_rung.slots [.int k, .int x]) h = .next [some (.int k), some (.int x), some (.ref h.length), none, none] (h ++ [.lst (GL (wG x) 3)]) := by
    simp [startE, b_law_law_rung, a, G3]
  rw [s1]
  simp only
  have s2 : evIt (callN prog q) (.rng1 (.var 0)) [some (.int k), some (.int x), some (.ref h.length), none, none] (h ++ [.lst (GL (wG x) 3)]) = .ok (rangeD 0 k.toNat, []) (h ++ [.lst (GL (wG x) 3)]) := by
    rw [evIt]
    simp [ir]
  rw [s2]
  simp only [Rs.toFl]
  rw [show still (h ++ [MO.lst (GL (wG x) 3)]) [] = fun _ => true from rfl, L]
  simp only
  by_cases e : k = -1
  · subst e
    simp
    exact leave_app rfl
  · have e0 : (k == -1) = false := by simp [e]
    have g := GL_get (wG x) (3 + k.toNat) k.toNat (by omega) k (by omega)
    have i1 := ix_ref (y := .non) (getA h (.lst (GL (wG x) (3 + k.toNat)))) (j := k)
    rw [g] at i1
    simp [e0, i1, wG, rungZ, e]
    exact leave_app rfl
/-- the draw's cells -/
def Hh (a b c : Int) : Hc := [.lst [.int a, .int b, .int c]]
theorem take_s (a b c m : Int) (hm : 0 < m) (hm2 : m < 9223372036854775808) (hc : 0 ≤ c) (hc2 : c < 1000000) (l : Nat) (hl : 1 ≤ l) :
    ∃ v a' c', 0 ≤ v ∧ v < m ∧ c ≤ c' ∧ c' ≤ c + 1 ∧ callN prog l f_law_law_take [.ref 0, .int m] (Hh a b c) = .ok (.int v) (Hh a' b c') := by
  obtain ⟨q, rfl⟩ : ∃ q, l = q + 1 := ⟨l - 1, by omega⟩
  have sm : small m = true := by simp [small]; omega
  have i0 : ∀ a b c : Int, ixD (.ref 0) (.int 0) (Hh a b c) = some (.int a) := fun a b c => rfl
  have i1 : ∀ a b c : Int, ixD (.ref 0) (.int 1) (Hh a b c) = some (.int b) := fun a b c => rfl
  have i2 : ∀ a b c : Int, ixD (.ref 0) (.int 2) (Hh a b c) = some (.int c) := fun a b c => rfl
  have s0 : ∀ a b c v : Int, setD (.ref 0) (.int 0) (.int v) (Hh a b c) = some (Hh v b c) := fun a b c v => rfl
  have s2 : ∀ a b c v : Int, setD (.ref 0) (.int 2) (.int v) (Hh a b c) = some (Hh a b v) := fun a b c v => rfl
  have lv : ∀ (v a b c a' c' : Int), leave true (Hh a b c) (.int v) (Hh a' b c') = .ok (.int v) (Hh a' b c') := by
    intro v a b c a' c'
    simp [leave, Hh, gcOk, D.pure, MO.pure, D.pures]
  have fi : ∀ (i : Int) h, biD .int [.int i] h = some (.int i, h) := fun _ _ => rfl
  rw [callN]
  simp only [prog]
  by_cases p : 0 < a
  · refine ⟨a % m, a / m, c, Int.emod_nonneg a (by omega), Int.emod_lt_of_pos a hm, by omega, by omega, ?_⟩
    have m1 := b_modI a m hm
    have m2 := b_fdivI a m hm sm
    simp [b_law_law_take, run_eq, startE, i0, p, fi, m1, m2, s0, lv]
  · obtain ⟨once, ho⟩ : ∃ o : Int, o = (b + 48271 * (c + 1)) * (39373 + (c + 1)) % 2147483647 := ⟨_, rfl⟩
    obtain ⟨ow, how⟩ : ∃ o : Int, o = once % 40009 := ⟨_, rfl⟩
    obtain ⟨bb, hbb⟩ : ∃ o : Int, o = b / 1000003 := ⟨_, rfl⟩
    obtain ⟨twice, ht⟩ : ∃ o : Int, o = (once + (c + 1) + bb) * (ow + 7) % 2147483629 := ⟨_, rfl⟩
    obtain ⟨y, hy⟩ : ∃ o : Int, o = (twice * 48271 + once) % 2147483587 := ⟨_, rfl⟩
    obtain ⟨z, hz⟩ : ∃ o : Int, o = y / 64 := ⟨_, rfl⟩
    refine ⟨z % m, a, c + 1, Int.emod_nonneg _ (by omega), Int.emod_lt_of_pos _ hm, by omega, by omega, ?_⟩
    have m1 := b_mulI 48271 (c + 1) (by simp [small])
    have m2 := b_mulI (b + 48271 * (c + 1)) (39373 + (c + 1)) (by simp [small]; omega)
    have m3 := b_modI ((b + 48271 * (c + 1)) * (39373 + (c + 1))) 2147483647 (by omega)
    rw [← ho] at m3
    have m4 := b_modI once 40009 (by omega)
    have w1 := Int.emod_nonneg once (show (40009 : Int) ≠ 0 by omega)
    have w2 := Int.emod_lt_of_pos once (show (0 : Int) < 40009 by omega)
    rw [← how] at m4 w1 w2
    have m5 := b_fdivI b 1000003 (by omega) (by simp [small])
    rw [← hbb] at m5
    have m6 := b_mulI (once + (c + 1) + bb) (ow + 7) (by
      have : small (ow + 7) = true := by
        simp only [small, decide_eq_true_eq]
        omega
      simp [this])
    have m7 := b_modI ((once + (c + 1) + bb) * (ow + 7)) 2147483629 (by omega)
    rw [← ht] at m7
    have m8 := b_mulI twice 48271 (by simp [small])
    have m9 := b_modI (twice * 48271 + once) 2147483587 (by omega)
    rw [← hy] at m9
    have m10 := b_fdivI y 64 (by omega) (by simp [small])
    rw [← hz] at m10
    have m11 := b_modI z m hm
    simp [b_law_law_take, run_eq, startE, i0, i1, i2, p, fi, s2, m1, m2, m3, m4, m5, m6, m7, m8, m9, m10, m11, lv]
end Lad
set_option Elab.async false
set_option linter.all false
set_option maxRecDepth 100000
set_option maxHeartbeats 4000000
/-! The law's own helpers: drawn sayings, sameness. -/
namespace Lad
theorem lv_H {fz : Bool} (d : D) (hp : d.pure = true) (a b c a' c' : Int) : leave fz (Hh a b c) d (Hh a' b c') = .ok d (Hh a' b c') := by
  cases fz <;> cases d <;> first | (simp [D.pure] at hp; done) | simp [leave, Hh, gcOk, hp, MO.pure, D.pures, D.pure]
theorem pures_mem : ∀ (ds : List D), D.pures ds = true → ∀ d ∈ ds, d.pure = true
  | [], _, d, hd => by simp at hd
  | x :: xs, hp, d, hd => by
    simp only [D.pures, Bool.and_eq_true] at hp
    rcases List.mem_cons.mp hd with q | q
    · rw [q]; exact hp.1
    · exact pures_mem xs hp.2 d q
theorem of_s (a b c : Int) (ds : List D) (hp : D.pures ds = true) (h0 : 0 < ds.length) (h1 : ds.length < 1000) (hc : 0 ≤ c) (hc2 : c < 1000000) (l : Nat) (hl : 2 ≤ l) :
    ∃ d a' c', d ∈ ds ∧ c ≤ c' ∧ c' ≤ c + 1 ∧ callN prog l f_law_law_of [.ref 0, .lst ds] (Hh a b c) = .ok d (Hh a' b c') := by
  obtain ⟨q, rfl⟩ : ∃ q, l = q + 1 := ⟨l - 1, by omega⟩
  obtain ⟨v, a', c', v0, v1, c0, c1, e⟩ := take_s a b c ds.length (by omega) (by omega) hc hc2 q (by omega)
  have g := getI_nat ds v.toNat (ds[v.toNat]'(by omega)) (by simp)
  rw [Int.toNat_of_nonneg v0] at g
  have hm : ds[v.toNat]'(by omega) ∈ ds := List.getElem_mem _
  generalize ds[v.toNat]'(by omega) = d at g hm
  refine ⟨d, a', c', hm, c0, c1, ?_⟩
  have pd : d.pure = true := pures_mem _ hp d hm
  rw [callN]
  simp only [prog]
  simp [b_law_law_of, run_eq, startE, e, g, lv_H _ pd]
def leafF (f : Fm) : Prop := f = .p ∨ f = .no ∨ f = .jn .to .p .no
def Sy : Nat → Fm → Prop
  | 0, f => leafF f
  | d + 1, f => leafF f ∨ ∃ j a b, f = .jn j a b ∧ Sy d a ∧ Sy d b
theorem Sy_leaf (d : Nat) (f : Fm) (h : leafF f) : Sy d f := by cases d with | zero => exact h | succ d => exact Or.inl h
theorem saying_s : ∀ (d : Nat), d ≤ 3 → ∀ (a b c : Int) (l : Nat), 0 ≤ c → c + 8 * 2 ^ d < 1000000 → d + 3 ≤ l →
    ∃ f a' c', Sy d f ∧ c ≤ c' ∧ c' + 2 ≤ c + 4 * 2 ^ d ∧ callN prog l f_law_law_saying [.ref 0, .int d] (Hh a b c) = .ok f.enc (Hh a' b c') := by
  have leaf : ∀ (a b c : Int) (l : Nat), 0 ≤ c → c < 1000000 → 2 ≤ l → ∃ f a' c', leafF f ∧ c ≤ c' ∧ c' ≤ c + 1 ∧ callN prog l f_law_law_of [.ref 0, .lst [.tup [.str [112]], .tup [.str [112]], .tup [.str [110,111]], .tup [.str [116,111], .tup [.str [112]], .tup [.str [110,111]]]]] (Hh a b c) = .ok f.enc (Hh a' b c') := by
    intro a b c l h0 h1 hl
    obtain ⟨d, a', c', dm, c0, c1, e⟩ := of_s a b c [.tup [.str [112]], .tup [.str [112]], .tup [.str [110,111]], .tup [.str [116,111], .tup [.str [112]], .tup [.str [110,111]]]] (by simp [D.pures, D.pure]) (by simp) (by simp) h0 h1 l hl
    simp only [List.mem_cons, List.not_mem_nil, or_false] at dm
    rcases dm with q | q | q | q
    · exact ⟨.p, a', c', Or.inl rfl, c0, c1, by rw [e, q]; simp [Fm.enc]⟩
    · exact ⟨.p, a', c', Or.inl rfl, c0, c1, by rw [e, q]; simp [Fm.enc]⟩
    · exact ⟨.no, a', c', Or.inr (Or.inl rfl), c0, c1, by rw [e, q]; simp [Fm.enc]⟩
    · exact ⟨.jn .to .p .no, a', c', Or.inr (Or.inr rfl), c0, c1, by rw [e, q]; simp [Fm.enc, jnW]⟩
  have word : ∀ (a b c : Int) (l : Nat), 0 ≤ c → c < 1000000 → 2 ≤ l → ∃ j a' c', c ≤ c' ∧ c' ≤ c + 1 ∧ callN prog l f_law_law_of [.ref 0, .lst [.str [97,110,100], .str [111,114], .str [116,111], .str [116,111], .str [116,111]]] (Hh a b c) = .ok (.str (jnW j)) (Hh a' b c') := by
    intro a b c l h0 h1 hl
    obtain ⟨d, a', c', dm, c0, c1, e⟩ := of_s a b c [.str [97,110,100], .str [111,114], .str [116,111], .str [116,111], .str [116,111]] (by simp [D.pures, D.pure]) (by simp) (by simp) h0 h1 l hl
    simp only [List.mem_cons, List.not_mem_nil, or_false] at dm
    rcases dm with q | q | q | q | q
    · exact ⟨.and, a', c', c0, c1, by rw [e, q]; simp [jnW]⟩
    · exact ⟨.or, a', c', c0, c1, by rw [e, q]; simp [jnW]⟩
    · exact ⟨.to, a', c', c0, c1, by rw [e, q]; simp [jnW]⟩
    · exact ⟨.to, a', c', c0, c1, by rw [e, q]; simp [jnW]⟩
    · exact ⟨.to, a', c', c0, c1, by rw [e, q]; simp [jnW]⟩
  intro d
  induction d with
  | zero =>
    intro _ a b c l h0 h1 hl
    obtain ⟨q, rfl⟩ : ∃ q, l = q + 1 := ⟨l - 1, by omega⟩
    obtain ⟨f, a', c', lf, c0, c1, e⟩ := leaf a b c q h0 (by omega) (by omega)
    refine ⟨f, a', c', lf, c0, by omega, ?_⟩
    rw [callN]
    simp only [prog]
    simp [b_law_law_saying, run_eq, startE, e, lv_H _ (pure_enc f)]
  | succ d ih =>
    intro hd a b c l h0 h1 hl
    obtain ⟨q, rfl⟩ : ∃ q, l = q + 1 := ⟨l - 1, by omega⟩
    have two : (2 : Int) ^ (d + 1) = 2 * 2 ^ d := by rw [Int.pow_succ]; omega
    have pd : (1 : Int) ≤ 2 ^ d ∧ (2 : Int) ^ d ≤ 4 := by
      have : d = 0 ∨ d = 1 ∨ d = 2 := by omega
      rcases this with r | r | r <;> subst r <;> decide
    have nz : (((d + 1 : Nat) : Int) == 0) = false := by simp; omega
    obtain ⟨v, a1, c1, v0, v1, k0, k1, e1⟩ := take_s a b c 5 (by omega) (by omega) h0 (by omega) q (by omega)
    by_cases z : v = 0
    · subst z
      obtain ⟨f, a', c', lf, k2, k3, e⟩ := leaf a1 b c1 q (by omega) (by omega) (by omega)
      refine ⟨f, a', c', Or.inl lf, by omega, by omega, ?_⟩
      rw [callN]
      simp only [prog]
      generalize ((d + 1 : Nat) : Int) = dd at *
      simp [b_law_law_saying, run_eq, startE, e, e1, nz, lv_H _ (pure_enc f)]
    · obtain ⟨j, a2, c2, k2, k3, e2⟩ := word a1 b c1 q (by omega) (by omega) (by omega)
      obtain ⟨f, a3, c3, sf, k4, k5, e3⟩ := ih (by omega) a2 b c2 q (by omega) (by omega) (by omega)
      obtain ⟨g, a4, c4, sg, k6, k7, e4⟩ := ih (by omega) a3 b c3 q (by omega) (by omega) (by omega)
      refine ⟨.jn j f g, a4, c4, Or.inr ⟨j, f, g, rfl, sf, sg⟩, by omega, by omega, ?_⟩
      have sub : ((d + 1 : Nat) : Int) - 1 = (d : Int) := by omega
      have zb : (v == 0) = false := by simp [z]
      have pp := pure_enc (.jn j f g)
      simp only [Fm.enc] at pp
      rw [callN]
      simp only [prog]
      generalize ((d + 1 : Nat) : Int) = dd at *
      simp [b_law_law_saying, run_eq, startE, e1, nz, zb, z, e2, sub, e3, e4, lv_H _ pp, Fm.enc]
end Lad
set_option Elab.async false
set_option linter.all false
set_option maxRecDepth 100000
set_option maxHeartbeats 4000000
/-! The law's own helpers: sameness, refusals, the draw's start. -/
namespace Lad
theorem x_try {C : CallT} {b : List S} {hs : List H} {env : Env} {h : Hc} : exS C (.tryS b hs) env h = match exSs C b env h with
    | .ex x env1 h1 => if x.cls < 3 && x.arg.isNone then exHs C hs x env1 h1 else .fail
    | r => r := by first | (rw [exS]; done) | (rw [exS]; cases exSs C b env h <;> rfl)
theorem xh_s {C : CallT} {cs : List Nat} {i : Nat} {b : List S} {hs : List H} {x : Xn} {env : Env} {h : Hc} : exHs C (.mk cs (some i) b :: hs) x env h = if cs.contains x.cls then ((exSs C b (env.set i (some (.exc x.cls x.arg))) h).nox).drop i else exHs C hs x env h := by rw [exHs] <;> rfl
def atomD (d : D) : Prop := (∃ i, d = .int i) ∨ ∃ b, d = .bl b
theorem same_a (d : D) (hd : atomD d) (l : Nat) (hl : 1 ≤ l) (h : Hc) : callN prog l f_law_law_same [d, d] h = .ok (.bl true) h := by
  obtain ⟨q, rfl⟩ : ∃ q, l = q + 1 := ⟨l - 1, by omega⟩
  have n1 : ∀ i : Int, cmpD .is (.int i) .non h = some (.bl false) := fun _ => rfl
  have n2 : ∀ b : Bool, cmpD .is (.bl b) .non h = some (.bl false) := fun _ => rfl
  have e1 : ∀ b c : Bool, cmpD .eq (.bl b) (.bl c) h = some (.bl (b == c)) := by
    intro b c
    simp [cmpD, eqOk, D.data, D.depth, D.eqv]
  rw [callN]
  simp only [prog]
  rcases hd with ⟨i, rfl⟩ | ⟨b, rfl⟩
  · simp [b_law_law_same, run_eq, startE, n1]
  · simp [b_law_law_same, run_eq, startE, n2, e1]
theorem zip_mem : ∀ (ds : List D) (x : D), x ∈ zipD ds ds → ∃ d ∈ ds, x = .tup [d, d]
  | [], x, hx => by simp [zipD] at hx
  | d :: ds, x, hx => by
    simp only [zipD, List.mem_cons] at hx
    rcases hx with q | q
    · exact ⟨d, List.mem_cons_self, q⟩
    · obtain ⟨e, he, hq⟩ := zip_mem ds x q
      exact ⟨e, List.mem_cons_of_mem _ he, hq⟩
theorem zip_len : ∀ (ds : List D), (zipD ds ds).length = ds.length
  | [] => rfl
  | d :: ds => by simp [zipD, zip_len ds]
theorem all_true : ∀ (h : Hc) (n : Nat), allTruth h (List.replicate n (.bl true)) = some true
  | _, 0 => rfl
  | h, n + 1 => by simp [List.replicate_succ, allTruth, all_true h n]
theorem same_l (ds : List D) (hd : ∀ d ∈ ds, atomD d) (hn : ds.length < 1000) (l : Nat) (hl : 2 ≤ l) (h : Hc) : callN prog l f_law_law_same [.lst ds, .lst ds] h = .ok (.bl true) h := by
  obtain ⟨q, rfl⟩ : ∃ q, l = q + 1 := ⟨l - 1, by omega⟩
  have e1 : ∀ b c : Bool, cmpD .ne (.bl b) (.bl c) h = some (.bl (!(b == c))) := by
    intro b c
    simp [cmpD, eqOk, D.data, D.depth, D.eqv]
  have M : ∀ x ∈ zipD ds ds, lcM (callN prog q) [2, 3] [2, 3] true [] (.call f_law_law_same [.var 2, .var 3]) [some (.lst ds), some (.lst ds), none, none] x h = .ok (some ((fun _ => D.bl true) x)) h := by
    intro x hx
    obtain ⟨d, dm, rfl⟩ := zip_mem ds x hx
    have s := same_a d (hd d dm) q (by omega) h
    simp [lcM, wipeD, s]
  have Z := lcGo_map (st := fun _ => true) (F := lcM (callN prog q) [2, 3] [2, 3] true [] (.call f_law_law_same [.var 2, .var 3]) [some (.lst ds), some (.lst ds), none, none]) (h := h) rfl M
  have mc : (zipD ds ds).map (fun _ => D.bl true) = List.replicate ds.length (.bl true) := by
    rw [List.map_const', zip_len]
  rw [mc] at Z
  have lc : ev (callN prog q) (.lc [2, 3] [2, 3] true (.zip (.var 0) (.var 1)) [] (.call f_law_law_same [.var 2, .var 3])) [some (.lst ds), some (.lst ds), none, none] h = .ok (.lst (List.replicate ds.length (.bl true))) h := by
    rw [e_lc, evIt]
    simp only [e_var, List.getElem?_cons_zero, List.getElem?_cons_succ, Rs.bind, isTup, beq_self_eq_true, if_true, itemsL, refsL, List.append_nil]
    rw [show still h [] = fun _ => true from rfl, Z]
    simp [Rs.nox, sizeMax]
    omega
  have al : biD .all [.lst (List.replicate ds.length (.bl true))] h = some (.bl true, h) := by
    show keep h (((listOf? h (.lst (List.replicate ds.length (.bl true)))).bind (allTruth h)).map .bl) = _
    simp [listOf?, all_true, keep]
  rw [callN]
  simp only [prog]
  simp [b_law_law_same, run_eq, startE, e1, lc, al]
theorem refused_s (f : Fm) (hf : okF f) (hn : firstH f.pl = none) (l : Nat) (hl : 68 ≤ l) (h : Hc) : callN prog l f_law_law_refused [.fn f_again_first_that_holds, .tup [f.enc], .str [99,97,110,110,111,116]] h = .ok (.bl true) h := by
  obtain ⟨q, rfl⟩ : ∃ q, l = q + 2 := ⟨l - 2, by omega⟩
  have a := firsth_s f q h hf (by omega)
  rw [hn] at a
  have lx : ∀ x, leaveX h x h = .ex x h := by
    intro x
    simp [leaveX, gcOk_self]
  have c2 : callN prog (q + 1) f_law_law_call2 [.fn f_again_first_that_holds, .tup [f.enc]] h = .ex ⟨0, none⟩ h := by
    rw [callN]
    simp only [prog]
    simp [b_law_law_call2, run_eq, startE, getI_0, a, lx]
  have ii : isiAny h (.exc 0 none) [.valueError] = some true := rfl
  have n1 : cmpD .is .non .non h = some (.bl true) := rfl
  have n2 : cmpD .eq (.str [99,97,110,110,111,116]) (.str [99,97,110,110,111,116]) h = some (.bl true) := by
    simp [cmpD, eqOk, D.data, D.depth, D.eqv]
  rw [callN]
  simp only [prog]
  simp [b_law_law_refused, run_eq, startE, c2, ii, n1, n2, x_try, xh_s, Fl.nox, Fl.drop]
def cB : List S := match b_law_law_cells.body with
  | [_, .forS _ _ _ b, _] => b
  | _ => []
theorem ref_get (h : Hc) (r : Nat) (v : Int) (hr : h[r]? = some (.lst [.int v])) : ixD (.ref r) (.int 0) h = some (.int v) := by
  rw [ix_ref (y := .non) hr]
  rfl
theorem ref_set (h : Hc) (r : Nat) (v w : Int) (hr : h[r]? = some (.lst [.int v])) : setD (.ref r) (.int 0) (.int w) h = some (h.set r (.lst [.int w])) := by
  have e : (match h[r]? with
    | some (.lst xs) => (match ixOf xs.length 0 with
        | some k => some (h.set r (.lst (xs.set k (.int w))))
        | none => none)
    | some (.dct kvs) => match keyOf (.int 0) with
      | some q => if kvs.length < sizeMax then some (h.set r (.dct (kvPut kvs q (.int w)))) else none
      | none => none
    | _ => none) = some (h.set r (.lst [.int w])) := by
    rw [hr]
    rfl
  exact e
theorem cells_go (C : CallT) (d : D) (r : Nat) : ∀ (xs : List Int) (k : Int) (v : Int) (h : Hc) (o1 o2 o3 : Option D), 0 ≤ k → k + xs.length ≤ 1000 → h[r]? = some (.lst [.int v]) →
    ∃ w o1' o2' o3', forGo (fun _ => true) [3, 4] true (exSs C cB) (enumD k (IL xs)) [some d, some (.int 1), some (.ref r), o1, o2, o3] h = .next [some d, some (.int 1), some (.ref r), o1', o2', o3'] (h.set r (.lst [.int w]))
  | [], k, v, h, o1, o2, o3, hk, hl, hr => by
    refine ⟨v, o1, o2, o3, ?_⟩
    simp only [IL, List.map_nil, enumD, forGo]
    congr 1
    obtain ⟨hlt, he⟩ := List.getElem?_eq_some_iff.mp hr
    rw [← he]
    simp
  | x :: xs, k, v, h, o1, o2, o3, hk, hl, hr => by
    have rg := ref_get h r v hr
    have m1 := b_modI k 1 (by omega)
    have m2 := b_mulI x (k + 2) (by simp [small]; simp at hl; omega)
    have rs := ref_set h r v (v + x * (k + 2)) hr
    obtain ⟨hlt, he⟩ := List.getElem?_eq_some_iff.mp hr
    have hr2 : (h.set r (.lst [.int (v + x * (k + 2))]))[r]? = some (.lst [.int (v + x * (k + 2))]) := by simp [hlt]
    obtain ⟨w, p1, p2, p3, ih⟩ := cells_go C d r xs (k + 1) (v + x * (k + 2)) (h.set r (.lst [.int (v + x * (k + 2))])) (some (.int k)) (some (.int x)) (some (.int 0)) (by omega) (by simp at hl; omega) hr2
    refine ⟨w, p1, p2, p3, ?_⟩
    have st : exSs C cB [some d, some (.int 1), some (.ref r), some (.int k), some (.int x), o3] h = .next [some d, some (.int 1), some (.ref r), some (.int k), some (.int x), some (.int 0)] (h.set r (.lst [.int (v + x * (k + 2))])) := by
      have fi : biD .int [.int k] h = some (.int k, h) := rfl
      have m0 : k % 1 = 0 := by omega
      rw [m0] at m1
      simp [cB, b_law_law_cells, fi, m1, rg, m2, rs]
    simp only [IL, List.map_cons, enumD, forGo, bg_tup, sa_cons, sa_nil, List.set_cons_succ, List.set_cons_zero]
    rw [st]
    simp only [if_true]
    simp only [IL] at ih
    rw [ih]
    simp
end Lad
set_option Elab.async false
set_option linter.all false
set_option maxRecDepth 100000
set_option maxHeartbeats 4000000
/-! The law's own helpers: the draw's start. -/
namespace Lad
theorem sl_scr (ns : List Int) (lo hi : D) (i j : Nat) (h : Hc) (hi1 : slIx ns.length 0 lo = some i) (hi2 : slIx ns.length ns.length hi = some j) : slD (.scr ns) lo hi h = some (.lst (IL (cut ns i j))) := by
  have e : (match slIx ns.length 0 lo, slIx ns.length ns.length hi with
    | some i, some j => some (D.lst ((cut ns i j).map D.int))
    | _, _ => none) = some (.lst (IL (cut ns i j))) := by
    rw [hi1, hi2]
    rfl
  exact e
theorem cells_s (ns : List Int) (hn : ns.length ≤ 63) (l : Nat) (hl : 1 ≤ l) : ∃ w, callN prog l f_law_law_cells [.scr ns, .int 1] [] = .ok (.lst [.int w]) [] := by
  obtain ⟨q, rfl⟩ : ∃ q, l = q + 1 := ⟨l - 1, by omega⟩
  have B0 : b_law_law_cells.body = [.asg (.nm 2) (.orE [.nw (.bi .list [.sl (.var 0) (.c .non) (.var 1)]), .nw (.lst [.c (.int 0)])]),
    .forS [3, 4] true (.enum (.sl (.var 0) (.var 1) (.c (.int 63)))) cB, .ret (.var 2)] := rfl
  have tl : ∀ (xs : List D) (h : Hc), biD .list [.lst xs] h = some (.lst xs, h) := fun _ _ => rfl
  have it : ∀ (env : Env) (h : Hc) (xs : List Int), ev (callN prog q) (.sl (.var 0) (.var 1) (.c (.int 63))) env h = .ok (.lst (IL xs)) h → evIt (callN prog q) (.enum (.sl (.var 0) (.var 1) (.c (.int 63)))) env h = .ok (enumD 0 (IL xs), []) h := by
    intro env h xs e
    rw [evIt, e]
    simp [isTup]
  cases ns with
  | nil =>
    obtain ⟨w, p1, p2, p3, L⟩ := cells_go (callN prog q) (.scr []) 1 [] 0 0 [.lst [], .lst [.int 0]] none none none (by omega) (by simp) rfl
    refine ⟨w, ?_⟩
    have s1 : exS (callN prog q) (.asg (.nm 2) (.orE [.nw (.bi .list [.sl (.var 0) (.c .non) (.var 1)]), .nw (.lst [.c (.int 0)])])) (startE b_law_law_cells.slots [.scr [], .int 1]) [] = .next [some (.scr []), some (.int 1), some (.ref 1), none, none, none] [.lst [], .lst [.int 0]] := by
      have sl := sl_scr [] .non (.int 1) 0 0 [] rfl rfl
      have tr : truthD [MO.lst []] (.ref 0) = some false := rfl
      simp [startE, b_law_law_cells, isP, noneE, isI, sl, cut, IL, tl, tr]
    have s2 := it [some (.scr []), some (.int 1), some (.ref 1), none, none, none] [.lst [], .lst [.int 0]] [] (by
      have sl := sl_scr [] (.int 1) (.int 63) 0 0 [.lst [], .lst [.int 0]] rfl rfl
      simp [isP, noneE, isI, sl, cut, IL])
    rw [callN]
    simp only [prog]
    rw [run_eq, if_pos (show [D.scr [], D.int 1].length = b_law_law_cells.arity from rfl), B0]
    simp only [xs_cons, x_for]
    rw [s1]
    simp only
    rw [s2]
    simp only [Rs.toFl]
    rw [show still [MO.lst [], .lst [.int 0]] [] = fun _ => true from rfl, L]
    simp [b_law_law_cells, leave, D.pure, D.pures, gcOk]
  | cons x xs =>
    obtain ⟨w, p1, p2, p3, L⟩ := cells_go (callN prog q) (.scr (x :: xs)) 0 xs 0 x [.lst [.int x]] none none none (by omega) (by simp at hn ⊢; omega) rfl
    refine ⟨w, ?_⟩
    have s1 : exS (callN prog q) (.asg (.nm 2) (.orE [.nw (.bi .list [.sl (.var 0) (.c .non) (.var 1)]), .nw (.lst [.c (.int 0)])])) (startE b_law_law_cells.slots [.scr (x :: xs), .int 1]) [] = .next [some (.scr (x :: xs)), some (.int 1), some (.ref 0), none, none, none] [.lst [.int x]] := by
      have sl := sl_scr (x :: xs) .non (.int 1) 0 1 [] rfl (by simp [slIx])
      have tr : truthD [MO.lst [.int x]] (.ref 0) = some true := rfl
      simp [startE, b_law_law_cells, isP, noneE, isI, sl, cut, IL, tl, tr]
    have s2 := it [some (.scr (x :: xs)), some (.int 1), some (.ref 0), none, none, none] [.lst [.int x]] xs (by
      have sl := sl_scr (x :: xs) (.int 1) (.int 63) 1 (xs.length + 1) [.lst [.int x]] (by simp [slIx]) (by simp [slIx]; simp at hn; omega)
      have cc : cut (x :: xs) 1 (xs.length + 1) = xs := by simp [cut]
      rw [cc] at sl
      simp [isP, noneE, isI, sl])
    rw [callN]
    simp only [prog]
    rw [run_eq, if_pos (show [D.scr (x :: xs), D.int 1].length = b_law_law_cells.arity from rfl), B0]
    simp only [xs_cons, x_for]
    rw [s1]
    simp only
    rw [s2]
    simp only [Rs.toFl]
    rw [show still [MO.lst [.int x]] [] = fun _ => true from rfl, L]
    simp [b_law_law_cells, leave, D.pure, D.pures, gcOk]
theorem box_s (v : Int) (l : Nat) (hl : 1 ≤ l) : ∃ a b, callN prog l f_law_law_box [.lst [.int v], .int 0] [] = .ok (.ref 0) (Hh a b 0) := by
  obtain ⟨q, rfl⟩ : ∃ q, l = q + 1 := ⟨l - 1, by omega⟩
  have ab : ∀ (i : Int) h, biD .abs [.int i] h = some (.int i.natAbs, h) := fun _ _ => rfl
  have fb : ∀ (b : Bool) h, biD .int [.bl b] h = some (.int (b2i b), h) := fun _ _ => rfl
  have fi : ∀ (i : Int) h, biD .int [.int i] h = some (.int i, h) := fun _ _ => rfl
  have pw : binD .pow (.int 10) (.int 18) = some (.int 1000000000000000000) := rfl
  have sm : ∀ b, small (b2i b) = true := by decide
  have m1 := fun b => b_mulI (v.natAbs : Int) (b2i b) (by simp [sm])
  have m2 := b_modI v 2305843009213693951 (by omega)
  have m3 := b_mulI 39373 0 (by decide)
  have lv : ∀ xs, leave false [] (.ref 0) [.lst xs] = .ok (.ref 0) [.lst xs] := fun _ => rfl
  refine ⟨(v.natAbs : Int) * b2i (decide (1000000000000000000 ≤ (v.natAbs : Int))), v % 2305843009213693951 + 39373 * 0 + 262980, ?_⟩
  rw [callN]
  simp only [prog]
  simp [b_law_law_box, run_eq, startE, getI_0, ab, fb, fi, pw, m1, m2, m3, lv, Hh]
end Lad
set_option Elab.async false
set_option linter.all false
set_option maxRecDepth 100000
set_option maxHeartbeats 4000000
/-! The places of small sayings: ten tables. -/
namespace Lad
def dom : List Int := (List.range 42).map fun n : Nat => (n : Int) - 1
def tbl (f : Fm) : List Int × Bool × Bool := (dom.map f.pl, f.tr true, f.tr false)
def tabs : List (List Int × Bool × Bool) := [
  ([-1, -1, -1, -1, -1, -1, -1, -1, -1, -1, -1, -1, -1, -1, -1, -1, -1, -1, -1, -1, -1, -1, -1, -1, -1, -1, -1, -1, -1, -1, -1, -1, -1, -1, -1, -1, -1, -1, -1, -1, -1, -1], true, true),
  ([0, 0, 0, 0, 0, 0, 0, 0, 0, 0, 0, 0, 0, 0, 0, 0, 0, 0, 0, 0, 0, 0, 0, 0, 0, 0, 0, 0, 0, 0, 0, 0, 0, 0, 0, 0, 0, 0, 0, 0, 0, 0], false, false),
  ([-1, 0, 1, 2, 3, 4, 5, 6, 7, 8, 9, 10, 11, 12, 13, 14, 15, 16, 17, 18, 19, 20, 21, 22, 23, 24, 25, 26, 27, 28, 29, 30, 31, 32, 33, 34, 35, 36, 37, 38, 39, 40], true, false),
  ([0, -1, 2, 4, 0, 2, 0, 0, 0, 0, 0, 0, 0, 0, 0, 0, 0, 0, 0, 0, 0, 0, 0, 0, 0, 0, 0, 0, 0, 0, 0, 0, 0, 0, 0, 0, 0, 0, 0, 0, 0, 0], false, true),
  ([-1, -1, 3, 5, 3, 5, 5, 6, 7, 8, 9, 10, 11, 12, 13, 14, 15, 16, 17, 18, 19, 20, 21, 22, 23, 24, 25, 26, 27, 28, 29, 30, 31, 32, 33, 34, 35, 36, 37, 38, 39, 40], true, true),
  ([-1, 0, 4, 2, -1, 4, -1, -1, -1, -1, -1, -1, -1, -1, -1, -1, -1, -1, -1, -1, -1, -1, -1, -1, -1, -1, -1, -1, -1, -1, -1, -1, -1, -1, -1, -1, -1, -1, -1, -1, -1, -1], true, false),
  ([-1, -1, 5, 5, -1, 5, -1, -1, -1, -1, -1, -1, -1, -1, -1, -1, -1, -1, -1, -1, -1, -1, -1, -1, -1, -1, -1, -1, -1, -1, -1, -1, -1, -1, -1, -1, -1, -1, -1, -1, -1, -1], true, true),
  ([-1, -1, 6, -1, 3, -1, 5, 6, 7, 8, 9, 10, 11, 12, 13, 14, 15, 16, 17, 18, 19, 20, 21, 22, 23, 24, 25, 26, 27, 28, 29, 30, 31, 32, 33, 34, 35, 36, 37, 38, 39, 40], true, true),
  ([-1, -1, 7, -1, -1, -1, -1, -1, -1, -1, -1, -1, -1, -1, -1, -1, -1, -1, -1, -1, -1, -1, -1, -1, -1, -1, -1, -1, -1, -1, -1, -1, -1, -1, -1, -1, -1, -1, -1, -1, -1, -1], true, true),
  ([-1, -1, 8, 5, -1, 5, -1, -1, -1, -1, -1, -1, -1, -1, -1, -1, -1, -1, -1, -1, -1, -1, -1, -1, -1, -1, -1, -1, -1, -1, -1, -1, -1, -1, -1, -1, -1, -1, -1, -1, -1, -1], true, true)]
def trI : Jn → Bool → Bool → Bool
  | .and, a, b => a && b
  | .or, a, b => a || b
  | .to, a, b => !a || b
def opT (j : Jn) (a b : List Int × Bool × Bool) : List Int × Bool × Bool := (List.zipWith (jnI j) a.1 b.1, trI j a.2.1 b.2.1, trI j a.2.2 b.2.2)
theorem zip_map (φ : Int → Int → Int) (f g : Int → Int) : ∀ xs : List Int, List.zipWith φ (xs.map f) (xs.map g) = xs.map fun y => φ (f y) (g y)
  | [] => rfl
  | x :: xs => by simp [zip_map φ f g xs]
theorem tbl_jn (j : Jn) (a b : Fm) : tbl (.jn j a b) = opT j (tbl a) (tbl b) := by
  simp only [tbl, opT, zip_map]
  cases j <;> rfl
theorem clo : ∀ n ∈ [4, 6, 8], ∀ j ∈ [Jn.and, .or, .to], ∀ a ∈ tabs.take n, ∀ b ∈ tabs.take n, opT j a b ∈ tabs.take (n + 2) := by decide +kernel
theorem tab0 : tbl .p ∈ tabs.take 4 ∧ tbl .no ∈ tabs.take 4 ∧ tbl (.jn .to .p .no) ∈ tabs.take 4 := by decide +kernel
theorem tab_up (n m : Nat) (h : n ≤ m) (t : List Int × Bool × Bool) (ht : t ∈ tabs.take n) : t ∈ tabs.take m := by
  have e : tabs.take n = (tabs.take m).take n := by rw [List.take_take, Nat.min_eq_left h]
  rw [e] at ht
  exact List.mem_of_mem_take ht
theorem Sy_tab : ∀ (d : Nat), d ≤ 3 → ∀ f, Sy d f → tbl f ∈ tabs.take (2 * d + 4)
  | 0, _, f, h => by
    rcases h with rfl | rfl | rfl
    · exact tab0.1
    · exact tab0.2.1
    · exact tab0.2.2
  | d + 1, hd, f, h => by
    rcases h with h | ⟨j, a, b, rfl, ha, hb⟩
    · have : tbl f ∈ tabs.take 4 := by
        rcases h with rfl | rfl | rfl
        · exact tab0.1
        · exact tab0.2.1
        · exact tab0.2.2
      exact tab_up 4 _ (by omega) _ this
    · rw [tbl_jn]
      have ia := Sy_tab d (by omega) a ha
      have ib := Sy_tab d (by omega) b hb
      have hj : j ∈ [Jn.and, .or, .to] := by cases j <;> simp
      have hn : 2 * d + 4 ∈ [4, 6, 8] := by
        have : d = 0 ∨ d = 1 ∨ d = 2 := by omega
        rcases this with r | r | r <;> subst r <;> simp
      exact clo _ hn j hj _ ia _ ib
def look (t : List Int) (y : Int) : Int := t.getD (y + 1).toNat 0
theorem look_f (f : Fm) (y : Int) (h1 : -1 ≤ y) (h2 : y ≤ 40) : f.pl y = look (tbl f).1 y := by
  simp only [look, tbl, dom, List.map_map]
  rw [List.getD_eq_getElem?_getD]
  have : (y + 1).toNat < 42 := by omega
  simp [this]
  congr 1
  omega
def inD' (y : Int) : Bool := decide (-1 ≤ y) && decide (y ≤ 40)
theorem wk_mem (ψ : Int → Int) : ∀ (n : Nat) (xs : List Int) (x : Int), x ∈ wk ψ n xs x ∧ ∀ y ∈ xs, y ∈ wk ψ n xs x
  | 0, xs, x => by simp [wk]; intro y hy; exact Or.inl hy
  | n + 1, xs, x => by
    unfold wk
    split
    · refine ⟨by simp, fun y hy => by simp [hy]⟩
    · have ih := wk_mem ψ n (xs ++ [x]) (ψ x)
      exact ⟨ih.2 x (by simp), fun y hy => ih.2 y (by simp [hy])⟩
theorem wk_congr (φ ψ : Int → Int) (he : ∀ y, -1 ≤ y → y ≤ 40 → φ y = ψ y) : ∀ (n : Nat) (xs : List Int) (x : Int), (∀ y ∈ wk ψ n xs x, inD' y = true) → wk φ n xs x = wk ψ n xs x ∧ wkS φ n xs x = wkS ψ n xs x
  | 0, xs, x, _ => ⟨rfl, rfl⟩
  | n + 1, xs, x, h => by
    by_cases e : x ∈ xs
    · simp [wk, wkS, e]
    · have hx := h x (wk_mem ψ (n + 1) xs x).1
      simp only [inD', Bool.and_eq_true, decide_eq_true_eq] at hx
      have ex := he x hx.1 hx.2
      simp only [wk, wkS, e, if_false, decide_false, Bool.false_or] at h ⊢
      rw [ex]
      exact wk_congr φ ψ he n (xs ++ [x]) (ψ x) h
/-- what the law asks of a table -/
def walkOf (t : List Int) : List Int := wk (look t) 10 [] 1
def endOf (t : List Int) : Int := (walkOf t).getLast?.getD 0
def befOf (t : List Int) : Nat := (walkOf t).idxOf (endOf t)
def goodOf (t : List Int) : List Int := ((List.range 31).map fun n : Nat => (n : Int) - 1).filter fun y => look t y == -1
def chkT (t : List Int × Bool × Bool) : Bool :=
  (t.1.all inD') && wkS (look t.1) 10 [] 1 && ((walkOf t.1).all inD') && ((walkOf t.1).getLast? == some (endOf t.1))
  && decide (befOf t.1 + 1 < (walkOf t.1).length) && decide ((walkOf t.1).length ≤ 11)
  && (decide ((walkOf t.1).length - 1 - befOf t.1 = 1) || decide ((walkOf t.1).length - 1 - befOf t.1 = 2))
  && ((List.range ((walkOf t.1).length - 1)).all fun i => (walkOf t.1).getD (i + 1) 0 == look t.1 ((walkOf t.1).getD i 0))
  && decide (look t.1 1 ≤ 12) && (dom.all fun y => decide (28 < y) || (rungZ (look t.1 1)).pl y == look t.1 y)
  && ((t.2.1 || t.2.2) == !(goodOf t.1).isEmpty)
  && ((goodOf t.1).isEmpty || (goodOf t.1).contains 0 || (goodOf t.1).contains (-1))
  && inD' (schI (look t.1)) && (dom.all fun y => belowI (schI (look t.1)) (look t.1 y))
theorem chk_tabs : ∀ t ∈ tabs, chkT t = true := by decide +kernel
end Lad
set_option Elab.async false
set_option linter.all false
set_option maxRecDepth 100000
set_option maxHeartbeats 4000000
/-! What the law asks of a drawn saying. -/
namespace Lad
def goodL (φ : Int → Int) : List Int := ((List.range 31).map fun n : Nat => (n : Int) - 1).filter fun y => φ y == -1
structure Good (f : Fm) (w : List Int) (b : Nat) : Prop where
  ws : wkS f.pl 10 [] 1 = true
  we : wk f.pl 10 [] 1 = w
  wl : ∃ e, Wlk w b e
  tn : w.length = b + 2 ∨ w.length = b + 3
  ln : w.length ≤ 11
  st : ∀ i, i + 1 < w.length → w.getD (i + 1) 0 = f.pl (w.getD i 0)
  w0 : w.getD 0 0 = 1
  wr : ∀ i, -1 ≤ w.getD i 0 ∧ w.getD i 0 ≤ 40
  pr : ∀ y, -1 ≤ y → y ≤ 40 → -1 ≤ f.pl y ∧ f.pl y ≤ 40
  k12 : f.pl 1 ≤ 12
  rg : ∀ y, -1 ≤ y → y ≤ 28 → (rungZ (f.pl 1)).pl y = f.pl y
  c1 : (f.tr true || f.tr false) = !(goodL f.pl).isEmpty
  c2 : goodL f.pl = [] ∨ 0 ∈ goodL f.pl ∨ -1 ∈ goodL f.pl
  sc : -1 ≤ schI f.pl ∧ schI f.pl ≤ 40
  sb : ∀ y, -1 ≤ y → y ≤ 40 → belowI (schI f.pl) (f.pl y) = true
theorem dom_in (y : Int) (h1 : -1 ≤ y) (h2 : y ≤ 40) : y ∈ dom := by
  simp only [dom, List.mem_map, List.mem_range]
  exact ⟨(y + 1).toNat, by omega, by omega⟩
theorem wk_head (φ : Int → Int) : ∀ (n : Nat) (xs : List Int) (x : Int), ∃ ys, wk φ n xs x = xs ++ x :: ys
  | 0, xs, x => ⟨[], rfl⟩
  | n + 1, xs, x => by
    unfold wk
    split
    · exact ⟨[], rfl⟩
    · obtain ⟨ys, e⟩ := wk_head φ n (xs ++ [x]) (φ x)
      exact ⟨φ x :: ys, by rw [e]; simp⟩
theorem inD_in (y : Int) (h : inD' y = true) : -1 ≤ y ∧ y ≤ 40 := by
  simpa only [inD', Bool.and_eq_true, decide_eq_true_eq] using h
theorem good_of (f : Fm) (hf : tbl f ∈ tabs) : ∃ w b, Good f w b := by
  have c := chk_tabs _ hf
  have L := fun y h1 h2 => look_f f y h1 h2
  have t2 : (tbl f).2.1 = f.tr true := rfl
  have t3 : (tbl f).2.2 = f.tr false := rfl
  have tm : ∀ y, -1 ≤ y → y ≤ 40 → f.pl y ∈ (tbl f).1 := fun y h1 h2 => List.mem_map_of_mem (dom_in y h1 h2)
  simp only [chkT, Bool.and_eq_true] at c
  obtain ⟨⟨⟨⟨⟨⟨⟨⟨⟨⟨⟨⟨⟨c1, c2⟩, c3⟩, c4⟩, c5⟩, c6⟩, c7⟩, c8⟩, c9⟩, c10⟩, c11⟩, c12⟩, c13⟩, c14⟩ := c
  rw [t2, t3] at c11
  generalize (tbl f).1 = t at *
  have ar := List.all_eq_true.mp c1
  have wr := List.all_eq_true.mp c3
  obtain ⟨e1, e2⟩ := wk_congr f.pl (look t) L 10 [] 1 wr
  have e0 : look t 1 = f.pl 1 := (L 1 (by omega) (by omega)).symm
  have gl : goodOf t = goodL f.pl := by
    unfold goodOf goodL
    apply List.filter_congr
    intro y hy
    obtain ⟨n, hn, rfl⟩ := List.mem_map.mp hy
    have := List.mem_range.mp hn
    rw [L _ (by omega) (by omega)]
  have sc : schI (look t) = schI f.pl := by
    unfold schI
    rw [L 0 (by omega) (by omega), L 1 (by omega) (by omega), L 2 (by omega) (by omega), L 3 (by omega) (by omega), L 4 (by omega) (by omega), L (-1) (by omega) (by omega)]
  rw [sc] at c13 c14
  rw [gl] at c11 c12
  rw [e0] at c9 c10
  have gw : ∀ i, -1 ≤ (walkOf t).getD i 0 ∧ (walkOf t).getD i 0 ≤ 40 := by
    intro i
    rw [List.getD_eq_getElem?_getD]
    cases h : (walkOf t)[i]? with
    | none => simp
    | some y => exact inD_in _ (wr y (List.mem_of_getElem? h))
  have c4' := eq_of_beq c4
  refine ⟨walkOf t, befOf t, ?_⟩
  constructor
  · rw [e2]; exact c2
  · exact e1
  · refine ⟨endOf t, c4', rfl, of_decide_eq_true c5, ?_⟩
    have := of_decide_eq_true c6
    omega
  · have := of_decide_eq_true c5
    rcases Bool.or_eq_true_iff.mp c7 with q | q
    · have := of_decide_eq_true q
      omega
    · have := of_decide_eq_true q
      omega
  · exact of_decide_eq_true c6
  · intro i hi
    have := List.all_eq_true.mp c8 i (List.mem_range.mpr (by omega))
    rw [eq_of_beq this]
    exact (L _ (gw i).1 (gw i).2).symm
  · obtain ⟨ys, e⟩ := wk_head (look t) 10 [] 1
    show (wk (look t) 10 [] 1).getD 0 0 = 1
    rw [e]
    rfl
  · exact gw
  · intro y h1 h2
    exact inD_in _ (ar _ (tm y h1 h2))
  · exact of_decide_eq_true c9
  · intro y h1 h2
    have := List.all_eq_true.mp c10 y (dom_in y h1 (by omega))
    rcases Bool.or_eq_true_iff.mp this with q | q
    · have := of_decide_eq_true q
      omega
    · rw [eq_of_beq q]
      exact (L y h1 (by omega)).symm
  · exact eq_of_beq c11
  · rcases Bool.or_eq_true_iff.mp c12 with q | q
    · rcases Bool.or_eq_true_iff.mp q with q | q
      · left
        exact List.isEmpty_iff.mp q
      · right; left
        exact List.contains_iff_mem.mp q
    · right; right
      exact List.contains_iff_mem.mp q
  · exact inD_in _ c13
  · intro y h1 h2
    have := List.all_eq_true.mp c14 y (dom_in y h1 h2)
    rw [← L y h1 h2] at this
    exact this
theorem Sy_size : ∀ (d : Nat) (f : Fm), Sy d f → f.par + 1 ≤ 4 * 2 ^ d ∧ f.oft ≤ 2 ^ d ∧ f.dep ≤ d + 2
  | 0, f, h => by rcases h with rfl | rfl | rfl <;> simp [Fm.par, Fm.oft, Fm.dep]
  | d + 1, f, h => by
    have p : 1 ≤ 2 ^ d := Nat.one_le_two_pow
    have e : 2 ^ (d + 1) = 2 * 2 ^ d := by rw [Nat.pow_succ]; omega
    rcases h with h | ⟨j, a, b, rfl, ha, hb⟩
    · have : f.par ≤ 3 ∧ f.oft ≤ 1 ∧ f.dep ≤ 2 := by
        rcases h with rfl | rfl | rfl <;> simp [Fm.par, Fm.oft, Fm.dep]
      omega
    · have ia := Sy_size d a ha
      have ib := Sy_size d b hb
      simp only [Fm.par, Fm.oft, Fm.dep]
      omega
end Lad
set_option Elab.async false
set_option linter.all false
set_option maxRecDepth 100000
set_option maxHeartbeats 4000000
/-! Far places; sizes. -/
namespace Lad
section
variable {f : Fm} {w : List Int} {b : Nat} (G : Good f w b)
include G
theorem Good.back : w.getD (w.length - 1) 0 = w.getD b 0 := by
  obtain ⟨e, hw⟩ := G.wl
  obtain ⟨xs, rfl⟩ := hw.split
  have hb := hw.at_
  have lt := hw.turn
  have mem : e ∈ xs ++ [e] := by simp
  have i := List.getElem_idxOf (List.idxOf_lt_length_of_mem mem)
  have lt2 : b < (xs ++ [e]).length := by omega
  have i2 : (xs ++ [e])[b]'lt2 = e := by
    subst hb
    exact i
  rw [List.getD_eq_getElem?_getD, List.getD_eq_getElem?_getD, List.getElem?_eq_getElem lt2, i2]
  simp
theorem Good.far_i (i : Nat) (hi : i < w.length) : farI w b (i : Int) = w.getD i 0 := by
  unfold farI
  rw [if_pos (by omega), Int.toNat_natCast]
theorem Good.far_mem (t : Int) : ∃ i, farI w b t = w.getD i 0 := by
  unfold farI
  split
  · exact ⟨_, rfl⟩
  · exact ⟨_, rfl⟩
theorem Good.far_ok (t : Int) : -1 ≤ farI w b t ∧ farI w b t ≤ 40 := by
  obtain ⟨i, e⟩ := G.far_mem t
  rw [e]
  exact G.wr i
theorem Good.far_next (t : Int) (ht : 0 ≤ t) : farI w b (t + 1) = f.pl (farI w b t) := by
  have st := G.st
  have bk := G.back
  have tn := G.tn
  unfold farI
  by_cases h1 : t + 1 < w.length
  · rw [if_pos h1, if_pos (by omega), ← st t.toNat (by omega)]
    congr 1
    omega
  · rw [if_neg h1]
    by_cases h2 : t < w.length
    · rw [if_pos h2]
      have e1 : t.toNat = w.length - 1 := by omega
      rw [e1, bk, ← st b (by omega)]
      rcases tn with q | q
      · have e2 : (b + (t + 1 - b) % ((w.length : Int) - 1 - b)).toNat = b := by
          rw [show (w.length : Int) - 1 - b = 1 by omega]
          omega
        rw [e2, ← bk]
        congr 1
        omega
      · have e2 : (b + (t + 1 - b) % ((w.length : Int) - 1 - b)).toNat = b + 1 := by
          rw [show (w.length : Int) - 1 - b = 2 by omega]
          omega
        rw [e2]
    · rw [if_neg h2]
      rcases tn with q | q
      · have m : (w.length : Int) - 1 - b = 1 := by omega
        rw [m]
        have e2 : (b + (t + 1 - b) % (1 : Int)).toNat = b := by omega
        have e3 : (b + (t - b) % (1 : Int)).toNat = b := by omega
        rw [e2, e3, ← st b (by omega), ← bk]
        congr 1
        omega
      · have m : (w.length : Int) - 1 - b = 2 := by omega
        rw [m]
        have hm := Int.emod_two_eq (t - b)
        rcases hm with z | z
        · have e2 : (b + (t + 1 - b) % (2 : Int)).toNat = b + 1 := by omega
          have e3 : (b + (t - b) % (2 : Int)).toNat = b := by omega
          rw [e2, e3, ← st b (by omega)]
        · have e2 : (b + (t + 1 - b) % (2 : Int)).toNat = b := by omega
          have e3 : (b + (t - b) % (2 : Int)).toNat = b + 1 := by omega
          rw [e2, e3, ← st (b + 1) (by omega), ← bk]
          congr 1
          omega
theorem Good.far_turn (T : Int) (hT : 0 ≤ T) : farI w b (b + T * ((w.length : Int) - 1 - b)) = w.getD b 0 := by
  have bk := G.back
  have tn := G.tn
  unfold farI
  rcases tn with q | q
  · rw [show (w.length : Int) - 1 - b = 1 by omega, Int.mul_one]
    split
    · have : T = 0 ∨ T = 1 := by omega
      rcases this with z | z
      · subst z; (congr 1 <;> omega)
      · subst z; rw [← bk]; congr 1; omega
    · congr 1; omega
  · rw [show (w.length : Int) - 1 - b = 2 by omega]
    split
    · have : T = 0 ∨ T = 1 := by omega
      rcases this with z | z
      · subst z; (congr 1 <;> omega)
      · subst z; rw [← bk]; congr 1; omega
    · congr 1; omega
end
theorem okF3 (f : Fm) (h : Sy 3 f) : okF f := by
  have := Sy_size 3 f h
  unfold okF
  omega
theorem okF2 (f : Fm) (h : Sy 2 f) : okF f := by
  have := Sy_size 2 f h
  unfold okF
  omega
theorem okFput (f g : Fm) (hf : Sy 3 f) (hg : Sy 2 g) : okF (f.put g) := by
  have s1 := Sy_size 3 f hf
  have s2 := Sy_size 2 g hg
  have p := put_par f g
  have d := put_dep f g
  have m : f.oft * g.par ≤ 8 * 15 := Nat.mul_le_mul (by omega) (by omega)
  unfold okF
  omega
theorem okFjn (j : Jn) (f g : Fm) (hf : Sy 3 f) (hg : Sy 2 g) : okF (.jn j f g) := by
  have s1 := Sy_size 3 f hf
  have s2 := Sy_size 2 g hg
  unfold okF
  simp only [Fm.par, Fm.dep]
  omega
theorem okFrung : ∀ k : Nat, k < 13 → (rungF k).par ≤ 300 ∧ (rungF k).dep ≤ 60 := by decide +kernel
theorem okFrungZ (k : Int) (h1 : -1 ≤ k) (h2 : k ≤ 12) : okF (rungZ k) := by
  unfold rungZ
  split
  · simp [okF, Fm.par, Fm.dep]
  · exact okFrung k.toNat (by omega)
theorem rows_ok : ∀ n : Nat, n < 16 → ∀ m : Nat, m < 30 → -1 ≤ (rungF n).pl ((m : Int) - 1) ∧ (rungF n).pl ((m : Int) - 1) ≤ 1000000 := by decide +kernel
theorem rows_okP (x : Int) (h1 : -1 ≤ x) (h2 : x ≤ 28) (n : Nat) (hn : n < 16) : okP ((rungF n).pl x) := by
  have := rows_ok n hn (x + 1).toNat (by omega)
  rw [show (((x + 1).toNat : Nat) : Int) - 1 = x by omega] at this
  exact this
end Lad
set_option Elab.async false
set_option linter.all false
set_option maxRecDepth 100000
set_option maxHeartbeats 4000000
/-! The law's lap. -/
namespace Lad
theorem atI (i : Int) : atomD (.int i) := Or.inl ⟨i, rfl⟩
theorem atB (b : Bool) : atomD (.bl b) := Or.inr ⟨b, rfl⟩
theorem at2 (x y : D) (hx : atomD x) (hy : atomD y) : ∀ d ∈ [x, y], atomD d := by
  intro d hd
  simp only [List.mem_cons, List.not_mem_nil, or_false] at hd
  rcases hd with q | q <;> rw [q] <;> assumption
theorem at3 (x y z : D) (hx : atomD x) (hy : atomD y) (hz : atomD z) : ∀ d ∈ [x, y, z], atomD d := by
  intro d hd
  simp only [List.mem_cons, List.not_mem_nil, or_false] at hd
  rcases hd with q | q | q <;> rw [q] <;> assumption
theorem at5 (x y z u v : D) (hx : atomD x) (hy : atomD y) (hz : atomD z) (hu : atomD u) (hv : atomD v) : ∀ d ∈ [x, y, z, u, v], atomD d := by
  intro d hd
  simp only [List.mem_cons, List.not_mem_nil, or_false] at hd
  rcases hd with q | q | q | q | q <;> rw [q] <;> assumption
def lapB : List S := match b_law_k38.body with
  | [_, .forS _ _ _ b, _] => b
  | _ => []
def lapS (i : Nat) : S := lapB.getD i .pass
structure Drawn (f g : Fm) (x : Int) (w : List Int) (b : Nat) : Prop where
  f3 : Sy 3 f
  g2 : Sy 2 g
  x1 : -1 ≤ x
  x2 : x ≤ 28
  G : Good f w b
  gp : ∀ y, -1 ≤ y → y ≤ 40 → -1 ≤ g.pl y ∧ g.pl y ≤ 40
section
variable (q : Nat) (hq : 100 ≤ q) (f g : Fm) (x : Int) (w : List Int) (b : Nat) (R : Drawn f g x w b) (h : Hc)
variable (e0 e1 e2 : Option D) (o6 o7 o8 o9 o10 o11 o12 o13 o14 o15 o16 : Option D)
include hq R in
theorem l1 : exS (callN prog q) (lapS 1) [e0, e1, e2, some f.enc, some g.enc, some (.int x), o6, o7, o8, o9, o10, o11, o12, o13, o14, o15, o16] h = .next [e0, e1, e2, some f.enc, some g.enc, some (.int x), o6, o7, o8, o9, o10, o11, o12, o13, o14, o15, o16] h := by
  have x1 := R.x1
  have x2 := R.x2
  have hf := okF3 f R.f3
  have hg := okF2 g R.g2
  have hp := okFput f g R.f3 R.g2
  have px : okP x := ⟨by omega, by omega⟩
  have gx := R.gp x x1 (by omega)
  have pg : okP (g.pl x) := ⟨by omega, by omega⟩
  have c1 := putf_s f g q h hf hg hp (by omega)
  have c2 := pput_s (f.put g) x q h hp px (by omega)
  have c3 := pput_s f 1 q h hf ⟨by omega, by omega⟩ (by omega)
  have c4 : callN prog q f_again_put_place [.tup [.str [112]], .int x] h = .ok (.int x) h := pput_s .p x q h ⟨by simp [Fm.par], by simp [Fm.dep]⟩ px (by omega)
  have c5 := pput_s g x q h hg px (by omega)
  have c6 := pput_s f (g.pl x) q h hf pg (by omega)
  have c7 := pof_s f q h hf (by omega)
  have sm := same_l [.int (f.pl (g.pl x)), .int (f.pl 1), .int x] (at3 _ _ _ (atI _) (atI _) (atI _)) (by simp) q (by omega) h
  rw [pl_put] at c2
  simp [lapS, lapB, b_law_k38, c1, c2, c3, c4, c5, c6, c7, sm]
include hq R in
theorem l2 : ∃ o6' o7', exS (callN prog q) (lapS 2) [e0, e1, e2, some f.enc, some g.enc, some (.int x), o6, o7, o8, o9, o10, o11, o12, o13, o14, o15, o16] h = .next [e0, e1, e2, some f.enc, some g.enc, some (.int x), o6', o7', o8, o9, o10, o11, o12, o13, o14, o15, o16] h := by
  have x1 := R.x1
  have x2 := R.x2
  have hf := okF3 f R.f3
  have hg := okF2 g R.g2
  have px : okP x := ⟨by omega, by omega⟩
  have gx := R.gp x x1 (by omega)
  have fx := R.G.pr x x1 (by omega)
  have pg : okP (g.pl x) := ⟨by omega, by omega⟩
  have pf : okP (f.pl x) := ⟨by omega, by omega⟩
  have c1 := pput_s (.jn .and f g) x q h (okFjn _ f g R.f3 R.g2) px (by omega)
  have c2 := pput_s (.jn .or f g) x q h (okFjn _ f g R.f3 R.g2) px (by omega)
  have c3 := pput_s (.jn .to f g) x q h (okFjn _ f g R.f3 R.g2) px (by omega)
  have c4 := pput_s f x q h hf px (by omega)
  have c5 := pput_s g x q h hg px (by omega)
  have d1 := both_d (f.pl x) (g.pl x) q h pf pg (by omega)
  have d2 := either_d (f.pl x) (g.pl x) q h pf pg (by omega)
  have d3 := leads_d (f.pl x) (g.pl x) q h pf pg (by omega)
  have sm := fun i => same_a (.int i) (atI i) q (by omega) h
  simp only [Fm.enc, jnW, Fm.pl, jnI] at c1 c2 c3
  refine ⟨some (.str [116, 111]), some (.fn f_ladder_leads), ?_⟩
  simp [lapS, lapB, b_law_k38, forGo, c1, c2, c3, c4, c5, d1, d2, d3, sm]
include hq R in
theorem l3 : exS (callN prog q) (lapS 3) [e0, e1, e2, some f.enc, some g.enc, some (.int x), o6, o7, o8, o9, o10, o11, o12, o13, o14, o15, o16] h = .next [e0, e1, e2, some f.enc, some g.enc, some (.int x), o6, o7, some (.int (f.pl 1)), o9, o10, o11, o12, o13, o14, o15, o16] h := by
  have hf := okF3 f R.f3
  have c7 := pof_s f q h hf (by omega)
  simp [lapS, lapB, b_law_k38, c7]
include hq R in
theorem l4 : exS (callN prog q) (lapS 4) [e0, e1, e2, some f.enc, some g.enc, some (.int x), o6, o7, some (.int (f.pl 1)), o9, o10, o11, o12, o13, o14, o15, o16] h = .next [e0, e1, e2, some f.enc, some g.enc, some (.int x), o6, o7, some (.int (f.pl 1)), o9, o10, o11, o12, o13, o14, o15, o16] h := by
  have x1 := R.x1
  have x2 := R.x2
  have hf := okF3 f R.f3
  have px : okP x := ⟨by omega, by omega⟩
  have k1 := (R.G.pr 1 (by omega) (by omega)).1
  have k2 := R.G.k12
  have rg := R.G.rg x x1 (by omega)
  have c1 := rung_s (f.pl 1) k1 k2 q h (by omega)
  have c2 := pput_s (rungZ (f.pl 1)) x q h (okFrungZ _ k1 k2) px (by omega)
  have c3 := pput_s f x q h hf px (by omega)
  have c4 := lawrung_s (f.pl 1) x k1 k2 px (fun n hn => rows_okP x x1 x2 n hn) q h (by omega)
  rw [rg] at c2 c4
  have mu : ∀ d : D, binD .mul (.lst [d]) (.int 2) = some (.lst [d, d]) := fun _ => rfl
  have sm := same_l [.int (f.pl x), .int (f.pl x)] (at2 _ _ (atI _) (atI _)) (by simp) q (by omega) h
  simp [lapS, lapB, b_law_k38, k2, c1, c2, c3, c4, mu, sm]
include hq R in
theorem l5 : exS (callN prog q) (lapS 5) [e0, e1, e2, some f.enc, some g.enc, some (.int x), o6, o7, o8, o9, o10, o11, o12, o13, o14, o15, o16] h = .next [e0, e1, e2, some f.enc, some g.enc, some (.int x), o6, o7, o8, some (.int b), some (.int ((w.length : Int) - 1 - b)), o11, o12, o13, o14, o15, o16] h := by
  have hf := okF3 f R.f3
  obtain ⟨e, hw⟩ := R.G.wl
  have we := R.G.we
  rw [← we] at hw
  have c := round_s f 10 q h hf (by omega) R.G.ws hw (by omega)
  rw [we] at c
  simp [lapS, lapB, b_law_k38, c]
include hq R in
theorem l6 : exS (callN prog q) (lapS 6) [e0, e1, e2, some f.enc, some g.enc, some (.int x), o6, o7, o8, o9, o10, o11, o12, o13, o14, o15, o16] h = .next [e0, e1, e2, some f.enc, some g.enc, some (.int x), o6, o7, o8, o9, o10, some (.lst (IL w)), some (.int 1), o13, o14, o15, o16] h := by
  have hf := okF3 f R.f3
  have c := again_s f 10 q h hf (by omega) R.G.ws (by omega)
  rw [R.G.we] at c
  simp [lapS, lapB, b_law_k38, c]
end
end Lad
set_option Elab.async false
set_option linter.all false
set_option maxRecDepth 100000
set_option maxHeartbeats 4000000
/-! The law's lap: the walk, the far places. -/
namespace Lad
section
variable (q : Nat) (hq : 100 ≤ q) (f g : Fm) (x : Int) (w : List Int) (b : Nat) (R : Drawn f g x w b) (h : Hc)
variable (e0 e1 e2 : Option D) (o6 o7 o8 o9 o10 o11 o12 o13 o14 o15 o16 : Option D)
include hq R in
theorem far_d (t : Int) (h1 : 0 ≤ t) (h2 : t ≤ 1000000000000000000000000000000000000000000000000000000000000) : callN prog q f_again_place_far [f.enc, .int t] h = .ok (.int (farI w b t)) h := by
  have hf := okF3 f R.f3
  obtain ⟨e, hw⟩ := R.G.wl
  have we := R.G.we
  rw [← we] at hw
  have c := far_s f 10 q h hf (by omega) R.G.ws hw t h1 h2 (by omega)
  rw [we] at c
  exact c
def wB : List S := match lapS 7 with
  | .forS _ _ _ b => b
  | _ => []
include hq R in
theorem l7_go : ∀ (m i : Nat) (o13 : Option D), i + m = w.length → ∃ o12' o13', forGo (fun _ => true) [13] false (exSs (callN prog q) wB) (rangeD i m) [e0, e1, e2, some f.enc, some g.enc, some (.int x), o6, o7, o8, o9, o10, some (.lst (IL w)), some (.int (w.getD i 0)), o13, o14, o15, o16] h = .next [e0, e1, e2, some f.enc, some g.enc, some (.int x), o6, o7, o8, o9, o10, some (.lst (IL w)), o12', o13', o14, o15, o16] h := by
  intro m
  induction m with
  | zero => intro i o13 _; exact ⟨_, _, rfl⟩
  | succ m ih =>
    intro i o13 e
    have hf := okF3 f R.f3
    have wr := R.G.wr i
    have gi := IL_get w i (by omega)
    have fi := R.G.far_i i (by omega)
    have ln := R.G.ln
    have fd := far_d q hq f g x w b R h (i : Int) (by omega) (by omega)
    rw [fi] at fd
    have pp := pput_s f (w.getD i 0) q h hf ⟨wr.1, by omega⟩ (by omega)
    have sm := same_l [.int (w.getD i 0), .int (w.getD i 0)] (at2 _ _ (atI _) (atI _)) (by simp) q (by omega) h
    have st : exSs (callN prog q) wB [e0, e1, e2, some f.enc, some g.enc, some (.int x), o6, o7, o8, o9, o10, some (.lst (IL w)), some (.int (w.getD i 0)), some (.int i), o14, o15, o16] h = .next [e0, e1, e2, some f.enc, some g.enc, some (.int x), o6, o7, o8, o9, o10, some (.lst (IL w)), some (.int (f.pl (w.getD i 0))), some (.int i), o14, o15, o16] h := by
      generalize w.getD i 0 = y at *
      generalize (i : Int) = z at *
      simp [wB, lapS, lapB, b_law_k38, gi, fd, pp, sm]
    simp only [rangeD, forGo, bg_one, List.set_cons_succ, List.set_cons_zero]
    rw [st]
    simp only [if_true]
    cases m with
    | zero => exact ⟨_, _, rfl⟩
    | succ m =>
      have nx := R.G.st i (by omega)
      rw [← nx]
      have := ih (i + 1) (some (.int i)) (by omega)
      rw [show ((i + 1 : Nat) : Int) = (i : Int) + 1 by omega] at this
      exact this
include hq R in
theorem l7 : ∃ o12' o13', exS (callN prog q) (lapS 7) [e0, e1, e2, some f.enc, some g.enc, some (.int x), o6, o7, o8, o9, o10, some (.lst (IL w)), some (.int 1), o13, o14, o15, o16] h = .next [e0, e1, e2, some f.enc, some g.enc, some (.int x), o6, o7, o8, o9, o10, some (.lst (IL w)), o12', o13', o14, o15, o16] h := by
  obtain ⟨p1, p2, L⟩ := l7_go q hq f g x w b R h e0 e1 e2 o6 o7 o8 o9 o10 o14 o15 o16 w.length 0 o13 (by omega)
  refine ⟨p1, p2, ?_⟩
  have B0 : lapS 7 = .forS [13] false (.rng1 (.bi .len [.var 11])) wB := rfl
  have ln := R.G.ln
  have ir : inRange (w.length : Int) = true := by
    simp [inRange]
    omega
  have s2 : evIt (callN prog q) (.rng1 (.bi .len [.var 11])) [e0, e1, e2, some f.enc, some g.enc, some (.int x), o6, o7, o8, o9, o10, some (.lst (IL w)), some (.int 1), o13, o14, o15, o16] h = .ok (rangeD 0 w.length, []) h := by
    rw [evIt]
    simp [ir]
  rw [R.G.w0] at L
  rw [B0, x_for, s2]
  simp only [Rs.toFl]
  rw [show still h [] = fun _ => true from rfl]
  exact L
include hq in
theorem l8 (a0 b0 c0 : Int) (hc : 0 ≤ c0) (hc2 : c0 < 1000000) : ∃ v a' c', 0 ≤ v ∧ v < 1000000000 ∧ c0 ≤ c' ∧ c' ≤ c0 + 1 ∧ exS (callN prog q) (lapS 8) [e0, some (.ref 0), e2, some f.enc, some g.enc, some (.int x), o6, o7, o8, o9, o10, o11, o12, o13, o14, o15, o16] (Hh a0 b0 c0) = .next [e0, some (.ref 0), e2, some f.enc, some g.enc, some (.int x), o6, o7, o8, o9, o10, o11, o12, o13, some (.int (v * 100000000000000000000)), o15, o16] (Hh a' b0 c') := by
  obtain ⟨v, a', c', v0, v1, k0, k1, e⟩ := take_s a0 b0 c0 1000000000 (by omega) (by omega) hc hc2 q (by omega)
  refine ⟨v, a', c', v0, v1, k0, k1, ?_⟩
  have p1 : binD .pow (.int 10) (.int 9) = some (.int 1000000000) := rfl
  have p2 : binD .pow (.int 10) (.int 20) = some (.int 100000000000000000000) := rfl
  have m := b_mulI v 100000000000000000000 (by simp [small]; omega)
  simp [lapS, lapB, b_law_k38, p1, p2, e, m]
include hq R in
theorem l9 (v : Int) (v0 : 0 ≤ v) (v1 : v < 1000000000) : exS (callN prog q) (lapS 9) [e0, e1, e2, some f.enc, some g.enc, some (.int x), o6, o7, o8, some (.int b), some (.int ((w.length : Int) - 1 - b)), some (.lst (IL w)), o12, o13, some (.int (v * 100000000000000000000)), o15, o16] h = .next [e0, e1, e2, some f.enc, some g.enc, some (.int x), o6, o7, o8, some (.int b), some (.int ((w.length : Int) - 1 - b)), some (.lst (IL w)), o12, o13, some (.int (v * 100000000000000000000)), o15, o16] h := by
  have hf := okF3 f R.f3
  obtain ⟨e, hw⟩ := R.G.wl
  have ln := R.G.ln
  have tn := R.G.tn
  obtain ⟨T, hT⟩ : ∃ T : Int, T = v * 100000000000000000000 := ⟨_, rfl⟩
  have T0 : 0 ≤ T := by omega
  have T1 : T ≤ 100000000000000000000000000000 := by omega
  rw [← hT]
  obtain ⟨tu, htu⟩ : ∃ tu : Int, tu = (w.length : Int) - 1 - b := ⟨_, rfl⟩
  have tu12 : tu = 1 ∨ tu = 2 := by omega
  have Tt : 0 ≤ T * tu ∧ T * tu ≤ 200000000000000000000000000000 := by
    rcases tu12 with r | r <;> rw [r] <;> omega
  have f1 := far_d q hq f g x w b R h (b + T * tu) (by omega) (by omega)
  have f2 := far_d q hq f g x w b R h (T + 1) (by omega) (by omega)
  have f3 := far_d q hq f g x w b R h T (by omega) (by omega)
  have fk := R.G.far_ok T
  have pp := pput_s f (farI w b T) q h hf ⟨fk.1, by omega⟩ (by omega)
  have E1 := R.G.far_turn T T0
  rw [htu] at f1
  rw [E1] at f1
  rw [← htu] at f1 ⊢
  rw [R.G.far_next T T0] at f2
  have gb := IL_get w b (by have := hw.turn; omega)
  have gl := hw.get
  have el : e = w.getD b 0 := by
    have q1 := R.G.back
    rw [← q1]
    have q2 := hw.last
    rw [List.getLast?_eq_getElem?] at q2
    rw [List.getD_eq_getElem?_getD, q2]
    rfl
  have M : cmpD .mem (.int tu) (.tup [.int 1, .int 2]) h = some (.bl true) := by
    have := mem_L h tu [1, 2]
    have e2 : cmpD .mem (.int tu) (.tup [.int 1, .int 2]) h = cmpD .mem (.int tu) (.lst (IL [1, 2])) h := rfl
    rw [e2, this]
    rcases tu12 with r | r <;> simp [r]
  have mu := b_mulI T tu (by rcases tu12 with r | r <;> rw [r] <;> simp [small])
  have sm := same_l [.bl true, .int (b + tu + 1), .int (w.getD b 0), .int (w.getD b 0), .int (f.pl (farI w b T))] (at5 _ _ _ _ _ (atB _) (atI _) (atI _) (atI _) (atI _)) (by simp) q (by omega) h
  have ll : (w.length : Int) = b + tu + 1 := by omega
  rw [el] at gl
  generalize w.getD b 0 = y at gb gl f1 sm
  simp [lapS, lapB, b_law_k38, M, ll, gl, gb, mu, f1, f2, f3, pp, sm]
end
end Lad
set_option Elab.async false
set_option linter.all false
set_option maxRecDepth 100000
set_option maxHeartbeats 4000000
/-! The law's lap: what holds, the schema. -/
namespace Lad
theorem eqv_nil (xs : List Int) : D.eqvs (IL xs) [] = xs.isEmpty := by
  cases xs <;> rfl
theorem eq_nil (xs : List Int) (h : Hc) : cmpD .eq (.lst (IL xs)) (.lst []) h = some (.bl xs.isEmpty) := by
  simp [cmpD, eqOk, D.data, D.datas, D.depth, D.depths, D.eqv, eqv_nil]
theorem neL_nil (xs : List Int) (h : Hc) : cmpD .ne (.lst (IL xs)) (.lst []) h = some (.bl (!xs.isEmpty)) := by
  simp [cmpD, eqOk, D.data, D.datas, D.depth, D.depths, D.eqv, eqv_nil]
theorem range_IL : ∀ (n : Nat) (lo : Int), rangeD lo n = ((List.range n).map fun k : Nat => D.int (lo + k))
  | 0, _ => rfl
  | n + 1, lo => by
    rw [rangeD, range_IL n (lo + 1), List.range_succ_eq_map]
    simp only [List.map_cons, List.map_map]
    congr 1
    · simp
    · apply List.map_congr_left
      intro k _
      simp
      omega
section
variable (q : Nat) (hq : 100 ≤ q) (f g : Fm) (x : Int) (w : List Int) (b : Nat) (R : Drawn f g x w b) (h : Hc)
variable (e0 e1 e2 : Option D) (o6 o7 o8 o9 o10 o11 o12 o13 o14 o15 o16 : Option D)
include hq R in
theorem l10 : exS (callN prog q) (lapS 10) [e0, e1, e2, some f.enc, some g.enc, some (.int x), o6, o7, o8, o9, o10, o11, o12, o13, o14, o15, o16] h = .next [e0, e1, e2, some f.enc, some g.enc, some (.int x), o6, o7, o8, o9, o10, o11, o12, o13, o14, some (.lst (IL (goodL f.pl))), o16] h := by
  have hf := okF3 f R.f3
  have B0 : lapS 10 = .asg (.nm 15) (.lc [16] [16] false (.rng2 (.neg (.c (.int 1))) (.c (.int 30))) [.e (.call f_again_makes_hold [.var 3, .var 16])] (.var 16)) := rfl
  have M : ∀ d ∈ rangeD (-1) 31, lcM (callN prog q) [16] [16] false [.e (.call f_again_makes_hold [.var 3, .var 16])] (.var 16) [e0, e1, e2, some f.enc, some g.enc, some (.int x), o6, o7, o8, o9, o10, o11, o12, o13, o14, o15, o16] d h = .ok ((fun d => match d with | .int j => if f.pl j == -1 then some (D.int j) else none | _ => none) d) h := by
    intro d hd
    rw [range_IL] at hd
    obtain ⟨k, hk, rfl⟩ := List.mem_map.mp hd
    have := List.mem_range.mp hk
    have c := holds_s f (-1 + (k : Int)) q h hf ⟨by omega, by omega⟩ (by omega)
    generalize -1 + (k : Int) = j at *
    cases e : (f.pl j == -1) <;> rw [e] at c <;> simp [lcM, wipeD, c, e, evAll]
  have Z := lcGo_filt (st := fun _ => true) rfl M
  have mc : (rangeD (-1) 31).filterMap (fun d => match d with | .int j => if f.pl j == -1 then some (D.int j) else none | _ => none) = IL (goodL f.pl) := by
    rw [range_IL]
    unfold goodL IL
    rw [List.filterMap_map]
    generalize List.range 31 = r
    induction r with
    | nil => rfl
    | cons k r ih =>
      simp only [List.map_cons, List.filter_cons, List.filterMap_cons, Function.comp]
      have e1 : (-1 + (k : Int)) = (k : Int) - 1 := by omega
      rw [e1]
      cases e : (f.pl ((k : Int) - 1) == -1)
      · simpa [Function.comp] using ih
      · simpa [Function.comp] using ih
  rw [mc] at Z
  have it : evIt (callN prog q) (.rng2 (.neg (.c (.int 1))) (.c (.int 30))) [e0, e1, e2, some f.enc, some g.enc, some (.int x), o6, o7, o8, o9, o10, o11, o12, o13, o14, o15, o16] h = .ok (rangeD (-1) 31, []) h := by
    rw [evIt]
    simp [inRange]
  have len : (IL (goodL f.pl)).length ≤ sizeMax := by
    rw [IL_len]
    have := List.length_filter_le (fun y => f.pl y == -1) ((List.range 31).map fun n : Nat => (n : Int) - 1)
    simp only [List.length_map, List.length_range] at this
    unfold goodL sizeMax
    omega
  have lc : ev (callN prog q) (.lc [16] [16] false (.rng2 (.neg (.c (.int 1))) (.c (.int 30))) [.e (.call f_again_makes_hold [.var 3, .var 16])] (.var 16)) [e0, e1, e2, some f.enc, some g.enc, some (.int x), o6, o7, o8, o9, o10, o11, o12, o13, o14, o15, o16] h = .ok (.lst (IL (goodL f.pl))) h := by
    rw [e_lc, it]
    simp only [Rs.bind]
    rw [show still h [] = fun _ => true from rfl, Z]
    simp only [Rs.nox, if_pos len]
  rw [B0]
  simp [lc]
include hq R in
theorem l11 : exS (callN prog q) (lapS 11) [e0, e1, e2, some f.enc, some g.enc, some (.int x), o6, o7, o8, o9, o10, o11, o12, o13, o14, some (.lst (IL (goodL f.pl))), o16] h = .next [e0, e1, e2, some f.enc, some g.enc, some (.int x), o6, o7, o8, o9, o10, o11, o12, o13, o14, some (.lst (IL (goodL f.pl))), o16] h := by
  have x1 := R.x1
  have x2 := R.x2
  have hf := okF3 f R.f3
  have px : okP x := ⟨by omega, by omega⟩
  have c1 := can_s f q h hf (by omega)
  rw [R.G.c1] at c1
  have c2 := holds_s f x q h hf px (by omega)
  have c3 := pput_s f x q h hf px (by omega)
  have gc := R.G.c2
  have m0 := mem_L h 0 (goodL f.pl)
  have m1 := mem_L h (-1) (goodL f.pl)
  have n0 := neL_nil (goodL f.pl) h
  generalize goodL f.pl = gl at *
  have sm := same_l [.bl (!gl.isEmpty), .bl (!gl.isEmpty), .bl (f.pl x == -1)] (at3 _ _ _ (atB _) (atB _) (atB _)) (by simp) q (by omega) h
  cases e : gl.isEmpty with
  | true =>
    rw [e] at c1 n0 sm
    simp [lapS, lapB, b_law_k38, c1, c2, c3, n0]
    simp at sm
    simp [sm]
  | false =>
    rw [e] at c1 n0 sm
    have ne : gl ≠ [] := by
      intro z
      rw [z] at e
      cases e
    by_cases z : 0 ∈ gl
    · have d0 : decide (0 ∈ gl) = true := by simp [z]
      rw [d0] at m0
      simp [lapS, lapB, b_law_k38, c1, c2, c3, n0, m0]
      simp at sm
      simp [sm]
    · have z1 : -1 ∈ gl := by
        rcases gc with r | r | r
        · exact absurd r ne
        · exact absurd r z
        · exact r
      have d0 : decide (0 ∈ gl) = false := by simp [z]
      have d1 : decide (-1 ∈ gl) = true := by simp [z1]
      rw [d0] at m0
      rw [d1] at m1
      simp [lapS, lapB, b_law_k38, c1, c2, c3, n0, m0, m1]
      simp at sm
      simp [sm]
theorem good_mem (φ : Int → Int) (y : Int) (h1 : -1 ≤ y) (h2 : y ≤ 29) : y ∈ goodL φ ↔ φ y = -1 := by
  unfold goodL
  rw [List.mem_filter]
  constructor
  · intro z
    exact eq_of_beq z.2
  · intro z
    refine ⟨List.mem_map.mpr ⟨(y + 1).toNat, List.mem_range.mpr (by omega), by omega⟩, by simp [z]⟩
include hq R in
theorem l12 : exS (callN prog q) (lapS 12) [e0, e1, e2, some f.enc, some g.enc, some (.int x), o6, o7, o8, o9, o10, o11, o12, o13, o14, some (.lst (IL (goodL f.pl))), o16] h = .next [e0, e1, e2, some f.enc, some g.enc, some (.int x), o6, o7, o8, o9, o10, o11, o12, o13, o14, some (.lst (IL (goodL f.pl))), o16] h := by
  have hf := okF3 f R.f3
  have gc := R.G.c2
  have m0 := mem_L h 0 (goodL f.pl)
  have n0 := eq_nil (goodL f.pl) h
  have g0 := good_mem f.pl 0 (by omega) (by omega)
  have g1 := good_mem f.pl (-1) (by omega) (by omega)
  have fh := firsth_s f q h hf (by omega)
  have rf := fun z => refused_s f hf z q (by omega) h
  have sm := fun i => same_a (.int i) (atI i) q (by omega) h
  generalize goodL f.pl = gl at *
  cases gl with
  | nil =>
    have a0 : ¬ f.pl 0 = -1 := fun z => by simpa using g0.mpr z
    have a1 : ¬ f.pl (-1) = -1 := fun z => by simpa using g1.mpr z
    have fn : firstH f.pl = none := by simp [firstH, a0, a1]
    have r := rf fn
    simp only [List.isEmpty_nil] at n0
    simp [lapS, lapB, b_law_k38, n0, r]
  | cons y ys =>
    simp only [List.isEmpty_cons] at n0
    by_cases z : 0 ∈ y :: ys
    · have d0 : decide (0 ∈ y :: ys) = true := decide_eq_true z
      rw [d0] at m0
      have fn : firstH f.pl = some 0 := by simp [firstH, g0.mp z]
      rw [fn] at fh
      generalize IL (y :: ys) = L at *
      simp [lapS, lapB, b_law_k38, n0, fh, m0, sm]
    · have z1 : -1 ∈ y :: ys := by
        rcases gc with r | r | r
        · cases r
        · exact absurd r z
        · exact r
      have d0 : decide (0 ∈ y :: ys) = false := decide_eq_false z
      rw [d0] at m0
      have a0 : ¬ f.pl 0 = -1 := fun k => z (g0.mpr k)
      have fn : firstH f.pl = some (-1) := by simp [firstH, a0, g1.mp z1]
      rw [fn] at fh
      generalize IL (y :: ys) = L at *
      simp [lapS, lapB, b_law_k38, n0, fh, m0, sm]
include hq R in
theorem l13 (a0 b0 c0 : Int) (hc : 0 ≤ c0) (hc2 : c0 < 1000000) : ∃ a' c', c0 ≤ c' ∧ c' ≤ c0 + 1 ∧ exS (callN prog q) (lapS 13) [e0, some (.ref 0), e2, some f.enc, some g.enc, some (.int x), o6, o7, o8, o9, o10, o11, o12, o13, o14, o15, o16] (Hh a0 b0 c0) = .next [e0, some (.ref 0), e2, some f.enc, some g.enc, some (.int x), o6, o7, o8, o9, o10, o11, o12, o13, o14, o15, o16] (Hh a' b0 c') := by
  obtain ⟨v, a', c', v0, v1, k0, k1, e⟩ := take_s a0 b0 c0 9 (by omega) (by omega) hc hc2 q (by omega)
  refine ⟨a', c', k0, k1, ?_⟩
  have x1 := R.x1
  have x2 := R.x2
  have hf := okF3 f R.f3
  have px : okP x := ⟨by omega, by omega⟩
  have fx := R.G.pr x x1 (by omega)
  have s1 := fun h => sch_s f q h hf (by omega)
  have s2 := fun h => pput_s f x q h hf px (by omega)
  have s3 := far_d q hq f g x w b R (Hh a' b0 c') (1 + v) (by omega) (by omega)
  have fk := R.G.far_ok v
  have nx := R.G.far_next v v0
  rw [show (1 : Int) + v = v + 1 by omega] at s3
  rw [nx] at s3
  have fk2 := R.G.pr _ fk.1 fk.2
  have sc := R.G.sc
  have b1 := below_d (schI f.pl) (f.pl x) q (Hh a0 b0 c0) ⟨sc.1, by omega⟩ ⟨fx.1, by omega⟩ (by omega)
  have b2 := below_d (schI f.pl) (f.pl (farI w b v)) q (Hh a' b0 c') ⟨sc.1, by omega⟩ ⟨fk2.1, by omega⟩ (by omega)
  rw [R.G.sb x x1 (by omega)] at b1
  rw [R.G.sb _ fk.1 fk.2] at b2
  rw [show v + 1 = 1 + v by omega] at s3
  simp [lapS, lapB, b_law_k38, s1, s2, b1, e, s3, b2]
end
end Lad
set_option Elab.async false
set_option linter.all false
set_option maxRecDepth 100000
set_option maxHeartbeats 4000000
/-! The law. -/
namespace Lad
section
variable (q : Nat) (hq : 100 ≤ q)
variable (e0 e2 : Option D) (o3 o4 o5 o6 o7 o8 o9 o10 o11 o12 o13 o14 o15 o16 : Option D)
include hq in
theorem l0 (a0 b0 c0 : Int) (hc : 0 ≤ c0) (hc2 : c0 + 200 < 1000000) : ∃ f g x w b a' c', Drawn f g x w b ∧ c0 ≤ c' ∧ c' ≤ c0 + 60 ∧ exS (callN prog q) (lapS 0) [e0, some (.ref 0), e2, o3, o4, o5, o6, o7, o8, o9, o10, o11, o12, o13, o14, o15, o16] (Hh a0 b0 c0) = .next [e0, some (.ref 0), e2, some f.enc, some g.enc, some (.int x), o6, o7, o8, o9, o10, o11, o12, o13, o14, o15, o16] (Hh a' b0 c') := by
  obtain ⟨f, a1, c1, sf, k0, k1, r1⟩ := saying_s 3 (by omega) a0 b0 c0 q hc (by omega) (by omega)
  obtain ⟨g, a2, c2, sg, k2, k3, r2⟩ := saying_s 2 (by omega) a1 b0 c1 q (by omega) (by omega) (by omega)
  obtain ⟨v, a3, c3, v0, v1, k4, k5, r3⟩ := take_s a2 b0 c2 30 (by omega) (by omega) (by omega) (by omega) q (by omega)
  have tf : tbl f ∈ tabs := List.mem_of_mem_take (Sy_tab 3 (by omega) f sf)
  have tg : tbl g ∈ tabs := List.mem_of_mem_take (Sy_tab 2 (by omega) g sg)
  obtain ⟨w, b, G⟩ := good_of f tf
  obtain ⟨_, _, G2⟩ := good_of g tg
  refine ⟨f, g, v - 1, w, b, a3, c3, ⟨sf, sg, by omega, by omega, G, G2.pr⟩, by omega, by omega, ?_⟩
  have r1' : callN prog q f_law_law_saying [.ref 0, .int 3] (Hh a0 b0 c0) = .ok f.enc (Hh a1 b0 c1) := r1
  have r2' : callN prog q f_law_law_saying [.ref 0, .int 2] (Hh a1 b0 c1) = .ok g.enc (Hh a2 b0 c2) := r2
  simp [lapS, lapB, b_law_k38, r1', r2', r3]
theorem lapB_eq : lapB = [lapS 0, lapS 1, lapS 2, lapS 3, lapS 4, lapS 5, lapS 6, lapS 7, lapS 8, lapS 9, lapS 10, lapS 11, lapS 12, lapS 13] := rfl
include hq in
theorem lap_s (a0 b0 c0 : Int) (hc : 0 ≤ c0) (hc2 : c0 + 200 < 1000000) : ∃ p3 p4 p5 p6 p7 p8 p9 p10 p11 p12 p13 p14 p15 p16 a' c', c0 ≤ c' ∧ c' ≤ c0 + 100 ∧ exSs (callN prog q) lapB [e0, some (.ref 0), e2, o3, o4, o5, o6, o7, o8, o9, o10, o11, o12, o13, o14, o15, o16] (Hh a0 b0 c0) = .next [e0, some (.ref 0), e2, p3, p4, p5, p6, p7, p8, p9, p10, p11, p12, p13, p14, p15, p16] (Hh a' b0 c') := by
  obtain ⟨f, g, x, w, b, a1, c1, R, k0, k1, r0⟩ := l0 q hq e0 e2 o3 o4 o5 o6 o7 o8 o9 o10 o11 o12 o13 o14 o15 o16 a0 b0 c0 hc hc2
  have r1 := l1 q hq f g x w b R (Hh a1 b0 c1) e0 (some (.ref 0)) e2 o6 o7 o8 o9 o10 o11 o12 o13 o14 o15 o16
  obtain ⟨p6, p7, r2⟩ := l2 q hq f g x w b R (Hh a1 b0 c1) e0 (some (.ref 0)) e2 o6 o7 o8 o9 o10 o11 o12 o13 o14 o15 o16
  have r3 := l3 q hq f g x w b R (Hh a1 b0 c1) e0 (some (.ref 0)) e2 p6 p7 o8 o9 o10 o11 o12 o13 o14 o15 o16
  have r4 := l4 q hq f g x w b R (Hh a1 b0 c1) e0 (some (.ref 0)) e2 p6 p7 o9 o10 o11 o12 o13 o14 o15 o16
  have r5 := l5 q hq f g x w b R (Hh a1 b0 c1) e0 (some (.ref 0)) e2 p6 p7 (some (.int (f.pl 1))) o9 o10 o11 o12 o13 o14 o15 o16
  have r6 := l6 q hq f g x w b R (Hh a1 b0 c1) e0 (some (.ref 0)) e2 p6 p7 (some (.int (f.pl 1))) (some (.int b)) (some (.int ((w.length : Int) - 1 - b))) o11 o12 o13 o14 o15 o16
  obtain ⟨p12, p13, r7⟩ := l7 q hq f g x w b R (Hh a1 b0 c1) e0 (some (.ref 0)) e2 p6 p7 (some (.int (f.pl 1))) (some (.int b)) (some (.int ((w.length : Int) - 1 - b))) o13 o14 o15 o16
  obtain ⟨v, a2, c2, v0, v1, k2, k3, r8⟩ := l8 q hq f g x e0 e2 p6 p7 (some (.int (f.pl 1))) (some (.int b)) (some (.int ((w.length : Int) - 1 - b))) (some (.lst (IL w))) p12 p13 o14 o15 o16 a1 b0 c1 (by omega) (by omega)
  have r9 := l9 q hq f g x w b R (Hh a2 b0 c2) e0 (some (.ref 0)) e2 p6 p7 (some (.int (f.pl 1))) p12 p13 o15 o16 v v0 v1
  have r10 := l10 q hq f g x w b R (Hh a2 b0 c2) e0 (some (.ref 0)) e2 p6 p7 (some (.int (f.pl 1))) (some (.int b)) (some (.int ((w.length : Int) - 1 - b))) (some (.lst (IL w))) p12 p13 (some (.int (v * 100000000000000000000))) o15 o16
  have r11 := l11 q hq f g x w b R (Hh a2 b0 c2) e0 (some (.ref 0)) e2 p6 p7 (some (.int (f.pl 1))) (some (.int b)) (some (.int ((w.length : Int) - 1 - b))) (some (.lst (IL w))) p12 p13 (some (.int (v * 100000000000000000000))) o16
  have r12 := l12 q hq f g x w b R (Hh a2 b0 c2) e0 (some (.ref 0)) e2 p6 p7 (some (.int (f.pl 1))) (some (.int b)) (some (.int ((w.length : Int) - 1 - b))) (some (.lst (IL w))) p12 p13 (some (.int (v * 100000000000000000000))) o16
  obtain ⟨a3, c3, k4, k5, r13⟩ := l13 q hq f g x w b R e0 e2 p6 p7 (some (.int (f.pl 1))) (some (.int b)) (some (.int ((w.length : Int) - 1 - b))) (some (.lst (IL w))) p12 p13 (some (.int (v * 100000000000000000000))) (some (.lst (IL (goodL f.pl)))) o16 a2 b0 c2 (by omega) (by omega)
  refine ⟨some f.enc, some g.enc, some (.int x), p6, p7, some (.int (f.pl 1)), some (.int b), some (.int ((w.length : Int) - 1 - b)), some (.lst (IL w)), p12, p13, some (.int (v * 100000000000000000000)), some (.lst (IL (goodL f.pl))), o16, a3, c3, by omega, by omega, ?_⟩
  rw [lapB_eq]
  simp only [xs_cons, r0, r1, r2, r3, r4, r5, r6, r7, r8, r9, r10, r11, r12, r13, xs_nil]
end
theorem laps_s (q : Nat) (hq : 100 ≤ q) (e0 : Option D) : ∀ (m : Nat) (i : Int) (e2 o3 o4 o5 o6 o7 o8 o9 o10 o11 o12 o13 o14 o15 o16 : Option D) (a0 b0 c0 : Int), 0 ≤ c0 → c0 + 100 * m + 200 < 1000000 →
    ∃ env h', forGo (fun _ => true) [2] false (exSs (callN prog q) lapB) (rangeD i m) [e0, some (.ref 0), e2, o3, o4, o5, o6, o7, o8, o9, o10, o11, o12, o13, o14, o15, o16] (Hh a0 b0 c0) = .next env h' ∧ gcOk [] h' = true
  | 0, _, _, _, _, _, _, _, _, _, _, _, _, _, _, _, _, _, _, _, _, _ => ⟨_, _, rfl, rfl⟩
  | m + 1, i, e2, o3, o4, o5, o6, o7, o8, o9, o10, o11, o12, o13, o14, o15, o16, a0, b0, c0, hc, hc2 => by
    obtain ⟨p3, p4, p5, p6, p7, p8, p9, p10, p11, p12, p13, p14, p15, p16, a', c', k0, k1, r⟩ := lap_s q hq e0 (some (.int i)) o3 o4 o5 o6 o7 o8 o9 o10 o11 o12 o13 o14 o15 o16 a0 b0 c0 hc (by omega)
    obtain ⟨env, h', ih, gc⟩ := laps_s q hq e0 m (i + 1) (some (.int i)) p3 p4 p5 p6 p7 p8 p9 p10 p11 p12 p13 p14 p15 p16 a' b0 c' (by omega) (by omega)
    refine ⟨env, h', ?_, gc⟩
    simp only [rangeD, forGo, bg_one, List.set_cons_succ, List.set_cons_zero]
    rw [r]
    simp only [if_true]
    exact ih
theorem law_true (ns : List Int) (hn : ns.length ≤ 63) : ∃ h', callN prog 190 f_law_k38 [.scr ns] [] = .ok (.bl true) h' := by
  obtain ⟨v, c⟩ := cells_s ns hn 189 (by omega)
  obtain ⟨a, b, bx⟩ := box_s v 189 (by omega)
  obtain ⟨env, h', L, gc⟩ := laps_s 189 (by omega) (some (.scr ns)) 5 0 none none none none none none none none none none none none none none none a b 0 (by omega) (by omega)
  have B0 : b_law_k38.body = [.asg (.nm 1) (.call f_law_law_box [.call f_law_law_cells [.var 0, .c (.int 1)], .c (.int 0)]), .forS [2] false (.rng1 (.c (.int 5))) lapB, .ret (.c (.bl true))] := rfl
  have s1 : exS (callN prog 189) (.asg (.nm 1) (.call f_law_law_box [.call f_law_law_cells [.var 0, .c (.int 1)], .c (.int 0)])) (startE b_law_k38.slots [.scr ns]) [] = .next [some (.scr ns), some (.ref 0), none, none, none, none, none, none, none, none, none, none, none, none, none, none, none] (Hh a b 0) := by
    simp [startE, b_law_k38, c, bx]
  have s2 : ∀ env h, evIt (callN prog 189) (.rng1 (.c (.int 5))) env h = .ok (rangeD 0 5, []) h := by
    intro env h
    rw [evIt]
    simp [inRange]
  refine ⟨h'.take 0, ?_⟩
  rw [show (190 : Nat) = 189 + 1 from rfl, callN]
  simp only [prog]
  rw [run_eq, if_pos (show [D.scr ns].length = b_law_k38.arity from rfl), B0]
  simp only [xs_cons, x_for]
  rw [s1]
  simp only
  rw [s2]
  simp only [Rs.toFl]
  rw [show still (Hh a b 0) [] = fun _ => true from rfl, L]
  simp [leave, D.pure, gc]
end Lad
theorem PySem.Challenge.cw_ladderofone_k38_across_sayings_put_on_ag_holds : PySem.Challenge.rw_ladderofone_k38_across_sayings_put_on_ag.Holds :=
  Lad.end_of fun ns hn _ => Lad.law_true ns hn
