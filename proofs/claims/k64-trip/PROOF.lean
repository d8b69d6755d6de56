import PyProof.Rows.All
import Wide.All
import OpenK.AllK
import Wide.FinOn
import HandS.ForMost
import HandS.ForExc
import HandS.TupAny
import HandS.Style
import HandS.Wide
import HandS.IsInst
import HandS.TupMul
import HandS.Deep
import KE.DataMinMax
import HandS.ExcIs
import HandS.SetFor
import HandS.TupSets
import HandS.Strs
import HandS.SortInts
import HandS.Conv
import KE.KDictSum
import KE.GoesMore
import KE.GoesZip
import HandS.Comp
import HandS.Iter
import HandS.New
import OpenK.KOps
import HandS.Defaults
import HandS.Codes
import HandS.WordsExc
import HandS.Head0
import HandS.Head1
import HandS.Head2
import HandS.HeadEnd
import HandS.HeadHook1
import HandS.HeadHook2
import PyProof.ExcBaseAll.ValueError
import HandS.Steps
import PySem.Challenge.RW_limitsigns_k64_trip
set_option Elab.async false
set_option linter.all false
set_option maxRecDepth 100000
set_option maxHeartbeats 4000000
/-! LS1: data, the small language, its interpreter. -/
namespace LS
open PySem PySem.Spec PyProof.Rows L2

/-- plain data; a dict has keys of tuples of ints (dct; ldt: one that is locked, so that it may be walked) or of ints (dck); scr: the script; fnv: a def of the module; exc: a caught exception; obj: an instance of an own class, some of its attributes -/
inductive D where
  | non
  | bl (b : Bool)
  | int (i : Int)
  | str (x : Str)
  | tup (xs : List D)
  | lst (xs : List D)
  | dct (kvs : List (List Int × D))
  | dck (kvs : List (Int × D))
  | ldt (kvs : List (List Int × D))
  | scr (ns : List Int)
  | fnv (x : Str)
  | exc (c : Str)
  | obj (c : Str) (ns : List Str) (ds : List D)
  deriving Inhabited

/-- a slot: not assigned, frozen (may be shared), owned (a list or dict that only this slot holds), behind (a list, dict or object that stood before and is only read; its address, if it is to be known) -/
inductive SV where
  | un
  | fz (d : D)
  | ow (d : D)
  | bg (o : Option Nat) (d : D)
  deriving Inhabited
abbrev En := List SV

inductive Cst where
  | non
  | bl (b : Bool)
  | int (i : Int)
  | str (x : Str)
  deriving DecidableEq
def Cst.d : Cst → D
  | .non => .non
  | .bl b => .bl b
  | .int i => .int i
  | .str x => .str x

inductive BO where
  | add | sub | mul | fdiv | mod | pow
  deriving DecidableEq
inductive CO where
  | eq | ne | lt | le | gt | ge | is | isn | inn | nin
  deriving DecidableEq
/-- built-in functions of one value -/
inductive B1 where
  | len | all | any | sum | max | min | sorted | list | tuple | int | str | sset | lset
  deriving DecidableEq
inductive B2 where
  | max | min | lrange
  deriving DecidableEq
/-- methods that change nothing -/
inductive MT where
  | get | split | partition | endswith | join | index | count
  deriving DecidableEq
/-- targets -/
inductive Tg where
  | one (i : Nat)
  | many (is : List Nat)
  | two (i : Nat) (is : List Nat)
  deriving DecidableEq

mutual
inductive E where
  | var (i : Nat)
  | cst (c : Cst)
  | glb (x : Str) (c : Cst)
  | fnv (x : Str)
  | neg (a : E)
  | not (a : E)
  | tup (es : Es)
  | lst (es : Es)
  | dnt
  | dnk
  | bin (o : BO) (a b : E)
  | cmp (o : CO) (a b : E)
  | chain (o1 o2 : CO) (a b c : E)
  | and (es : Es)
  | or (es : Es)
  | ite (t a b : E)
  | ix (a b : E)
  | sl (a : E) (lo hi : OE)
  | fn (f : Str) (es : Es)
  | fnx (g : E) (es : Es)
  | b1 (o : B1) (a : E)
  | b2 (o : B2) (a b : E)
  | isi (a : E) (t : String)
  | ise (i : Nat) (c : Str)
  | mth (m : MT) (o : E) (es : Es)
  | lc (elt : E) (tg : Tg) (it : It) (c : OE) (own : List Nat)
  | lc2 (elt : E) (tg : Tg) (it : It) (tg1 : Tg) (it1 : It) (own own1 : List Nat)
  | fld (i : Nat) (c x : Str)
  | mcl (i : Nat) (c m k : Str)
  | oln (i : Nat) (c k : Str)
inductive Es where
  | nil
  | cons (e : E) (es : Es)
inductive OE where
  | no
  | so (e : E)
inductive It where
  | seq (e : E)
  | rng (a : E)
  | rng2 (a b : E)
  | enum (e : E)
  | zip (es : Es)
  | zip3 (es : Es)
end

mutual
inductive S where
  | set (i : Nat) (e : E)
  | unp (is : List Nat) (e : E)
  | par (is : List Nat) (es : Es)
  | sto (i : Nat) (k e : E)
  | app (i : Nat) (e : E)
  | ext (i : Nat) (e : E)
  | frz (i : Nat)
  | lck (i : Nat)
  | exp (e : E)
  | ret (e : E)
  | rse (c : Str) (m : Str)
  | ite (t : E) (a b : Ss)
  | whl (t : E) (b : Ss)
  | for_ (tg : Tg) (it : It) (b : Ss)
  | try_ (cs : List Str) (b : Ss) (i : Nat) (h : Ss)
inductive Ss where
  | nil
  | cons (s : S) (ss : Ss)
end

/-! ### data: what the interpreter asks of it -/
def LINE : Nat := 16777216
mutual
def toPy : D → PyData
  | .non => .none
  | .bl b => .bool b
  | .int i => .int i
  | .str x => .str x
  | .tup xs => .tuple (toPys xs)
  | .lst xs => .list (toPys xs)
  | .scr ns => .list (ns.map .int)
  | .dct _ => .none
  | .dck _ => .none
  | .ldt _ => .none
  | .fnv _ => .none
  | .exc _ => .none
  | .obj _ _ _ => .none
def toPys : List D → List PyData
  | [] => []
  | d :: ds => toPy d :: toPys ds
end
mutual
/-- None, bools, ints, texts, tuples and lists of such -/
def plain : D → Bool
  | .non => true
  | .bl _ => true
  | .int _ => true
  | .str x => PyData.strOk x
  | .tup xs => plains xs
  | .lst xs => plains xs
  | .scr _ => true
  | .dct _ => false
  | .dck _ => false
  | .ldt _ => false
  | .fnv _ => false
  | .exc _ => false
  | .obj _ _ _ => false
def plains : List D → Bool
  | [] => true
  | d :: ds => plain d && plains ds
end
mutual
def dep : D → Nat
  | .tup xs => deps xs + 1
  | .lst xs => deps xs + 1
  | .scr _ => 1
  | _ => 0
def deps : List D → Nat
  | [] => 0
  | d :: ds => max (dep d) (deps ds)
end
mutual
/-- == of data -/
def eqD : D → D → Bool
  | .non, .non => true
  | .bl a, .bl b => a == b
  | .bl a, .int j => (if a then 1 else 0) == j
  | .int i, .bl b => i == (if b then 1 else 0)
  | .int i, .int j => i == j
  | .str x, .str y => x == y
  | .tup xs, .tup ys => eqDs xs ys
  | .lst xs, .lst ys => eqDs xs ys
  | .scr ns, .lst ys => eqIs ns ys
  | .lst xs, .scr ns => eqIs ns xs
  | .scr ns, .scr ms => ns == ms
  | _, _ => false
def eqDs : List D → List D → Bool
  | [], [] => true
  | x :: xs, y :: ys => eqD x y && eqDs xs ys
  | _, _ => false
def eqIs : List Int → List D → Bool
  | [], [] => true
  | n :: ns, .int i :: ds => n == i && eqIs ns ds
  | n :: ns, .bl b :: ds => n == (if b then 1 else 0) && eqIs ns ds
  | _, _ => false
end
def eqOk (d e : D) : Bool := plain d && plain e && (Nat.ble (dep d) 60 || Nat.ble (dep e) 60)
def isNon : D → Bool
  | .non => true
  | _ => false
def flatD : D → Bool
  | .non => true
  | .bl _ => true
  | .int _ => true
  | .str _ => true
  | _ => false
def intsD : List D → Option (List Int)
  | [] => some []
  | .int i :: ds => (intsD ds).map (i :: ·)
  | _ => none
def boolsD : List D → Option (List Bool)
  | [] => some []
  | .bl b :: ds => (boolsD ds).map (b :: ·)
  | _ => none
def strsD : List D → Option (List Str)
  | [] => some []
  | .str b :: ds => (strsD ds).map (b :: ·)
  | _ => none
/-- the tuples of ints that a list holds -/
def tupsD : List D → Option (List (List Int))
  | [] => some []
  | .tup xs :: ds => (intsD xs).bind fun ns => (tupsD ds).map (ns :: ·)
  | _ => none
/-- insertion by an order -/
def ins {α : Type} (le : α → α → Bool) (x : α) : List α → List α
  | [] => [x]
  | y :: ys => if le x y then x :: y :: ys else y :: ins le x ys
def isort {α : Type} (le : α → α → Bool) : List α → List α
  | [] => []
  | x :: xs => ins le x (isort le xs)
def leI (a b : Int) : Bool := decide (a ≤ b)
/-- tuples of ints in Python's order -/
def leT : List Int → List Int → Bool
  | [], _ => true
  | _ :: _, [] => false
  | a :: as, b :: bs => if a = b then leT as bs else decide (a < b)
/-- insertion that drops equal ones -/
def insU {α : Type} [DecidableEq α] (le : α → α → Bool) (x : α) : List α → List α
  | [] => [x]
  | y :: ys => if x = y then y :: ys else if le x y then x :: y :: ys else y :: insU le x ys
def usort {α : Type} [DecidableEq α] (le : α → α → Bool) : List α → List α
  | [] => []
  | x :: xs => insU le x (usort le xs)
def tupI (ns : List Int) : D := .tup (ns.map .int)
def lookT {α : Type} (k : List Int) : List (List Int × α) → Option α
  | [] => none
  | (j, d) :: r => if j = k then some d else lookT k r
def lookI {α : Type} (k : Int) : List (Int × α) → Option α
  | [] => none
  | (j, d) :: r => if j = k then some d else lookI k r
def putD {κ α : Type} [DecidableEq κ] (k : κ) (v : α) (kvs : List (κ × α)) : List (κ × α) :=
  if (kvs.any fun kv => decide (kv.1 = k)) = true then kvs.map (fun kv => if kv.1 = k then (kv.1, v) else kv) else kvs ++ [(k, v)]
abbrev putT {α : Type} (k : List Int) (v : α) (kvs : List (List Int × α)) : List (List Int × α) := putD k v kvs
abbrev putI {α : Type} (k : Int) (v : α) (kvs : List (Int × α)) : List (Int × α) := putD k v kvs

/-! ### values with their marks -/
/-- clean (may be shared, is kept); fresh (a new list or dict that nothing else holds); raw (the owned list or dict of a slot) -/
inductive Mk where
  | cl | fr | raw
  deriving DecidableEq
inductive Ro where
  | v (m : Mk) (d : D)
  | x (c : Str)
inductive Rl where
  | v (ds : List D)
  | x (c : Str)
/-- a def's end -/
inductive Rr where
  | ret (d : D)
  | exc (c : Str)
abbrev Fns := List (Str × (List D → Option Rr))
def fnOf (x : Str) : Fns → Option (List D → Option Rr)
  | [] => none
  | (y, f) :: r => if y = x then some f else fnOf x r

def bnd (r : Option Ro) (k : Mk → D → Option Ro) : Option Ro :=
  match r with
  | some (.v m d) => k m d
  | some (.x c) => some (.x c)
  | none => none
def bndL (r : Option Rl) (k : List D → Option Ro) : Option Ro :=
  match r with
  | some (.v ds) => k ds
  | some (.x c) => some (.x c)
  | none => none
def cl (d : D) : Option Ro := some (.v .cl d)
def fr (d : D) : Option Ro := some (.v .fr d)
def clO (o : Option D) : Option Ro := match o with
  | some d => cl d
  | none => none
def blO (o : Option Bool) : Option Ro := match o with
  | some b => cl (.bl b)
  | none => none
def rrO (o : Option Rr) : Option Ro := match o with
  | some (.ret d) => cl d
  | some (.exc c) => some (.x c)
  | none => none
def look : En → Nat → SV
  | [], _ => .un
  | s :: _, 0 => s
  | _ :: r, n + 1 => look r n

/-! ### operators -/
def mulOk (i j : Int) : Bool := (decide (-18446744073709551616 < i) && decide (i < 18446744073709551616)) || (decide (-18446744073709551616 < j) && decide (j < 18446744073709551616))
def bop : BO → D → D → Option Ro
  | .add, .int i, .int j => cl (.int (i + j))
  | .add, .str x, .str y => if Nat.ble (x.length + y.length) LINE then cl (.str (x ++ y)) else none
  | .add, .tup xs, .tup ys => if Nat.ble (xs.length + ys.length) LINE then cl (.tup (xs ++ ys)) else none
  | .add, .lst xs, .lst ys => if Nat.ble (xs.length + ys.length) LINE then fr (.lst (xs ++ ys)) else none
  | .sub, .int i, .int j => cl (.int (i - j))
  | .mul, .int i, .int j => if mulOk i j then cl (.int (i * j)) else none
  | .mul, .tup xs, .int k => if decide (2 ≤ k) && decide (k ≤ 1000) && Nat.ble xs.length 1000 && !xs.isEmpty then cl (.tup (List.replicate k.toNat xs).flatten) else none
  | .mul, .lst xs, .int k => if decide (0 ≤ k) && decide (k < 1000) && Nat.ble (xs.length * k.toNat) LINE then fr (.lst (List.replicate k.toNat xs).flatten) else none
  | .mul, .str x, .int k => if decide (0 ≤ k) && decide (k < 1000) && Nat.ble (x.length * k.toNat) LINE then cl (.str ⟨(List.replicate k.toNat x.cps.toList).flatten.toArray⟩) else none
  | .fdiv, .int i, .int j => if decide (0 < j) && decide (j < 18446744073709551616) then cl (.int (i / j)) else none
  | .mod, .int i, .int j => if decide (0 < j) then cl (.int (i % j)) else none
  | .pow, .int i, .int j => if decide (0 ≤ j) && decide (j ≤ 1000) && decide (-1000 ≤ i) && decide (i ≤ 1000) then cl (.int (i ^ j.toNat)) else none
  | _, _, _ => none
/-- a tuple of ints, or of ints and at last a tuple of ints, by its figures: ahead of them a mark of the form (0: ints alone; k + 1: k ints, then a tuple) -/
def figD : List D → Option (Nat × List Int)
  | [] => some (0, [])
  | .tup ys :: [] => (intsD ys).map fun ns => (1, ns)
  | .int i :: r => (figD r).map fun p => (if p.1 = 0 then 0 else p.1 + 1, i :: p.2)
  | _ => none
def figT : D → Option (Nat × List Int)
  | .tup xs => figD xs
  | _ => none
/-- the order of two such, of one form -/
def figLe (a b : Nat × List Int) : Option Bool := if a.1 = b.1 then some (leT a.2 b.2) else none
/-- the first is before the second -/
def ltO : Option (Nat × List Int) → Option (Nat × List Int) → Option Bool
  | some k, some j => if k.1 = j.1 then some (!leT j.2 k.2) else none
  | _, _ => none
def inD (x : D) (ys : List D) : Bool := ys.any fun z => eqD z x
def cop : CO → D → D → Option Bool
  | .eq, d, e => if eqOk d e then some (eqD d e) else none
  | .ne, d, e => if eqOk d e then some (!eqD d e) else none
  | .lt, .int i, .int j => some (decide (i < j))
  | .lt, .tup xs, .tup ys => ltO (figD xs) (figD ys)
  | .le, .int i, .int j => some (decide (i ≤ j))
  | .gt, .int i, .int j => some (decide (j < i))
  | .ge, .int i, .int j => some (decide (j ≤ i))
  | .is, d, .non => match d with
    | .exc _ => none
    | _ => some (isNon d)
  | .isn, d, .non => match d with
    | .exc _ => none
    | _ => some (!isNon d)
  | .is, .bl a, .bl b => some (a == b)
  | .isn, .bl a, .bl b => some (!(a == b))
  | .inn, d, .lst es => if plain d && plains es && Nat.ble (dep d) 60 then some (inD d es) else none
  | .nin, d, .lst es => if plain d && plains es && Nat.ble (dep d) 60 then some (!inD d es) else none
  | .inn, d, .tup es => if plain d && plains es && Nat.ble (dep d) 60 then some (inD d es) else none
  | .nin, d, .tup es => if plain d && plains es && Nat.ble (dep d) 60 then some (!inD d es) else none
  | .inn, .tup ks, .dct kvs => (intsD ks).map fun ns => (lookT ns kvs).isSome
  | .nin, .tup ks, .dct kvs => (intsD ks).map fun ns => !(lookT ns kvs).isSome
  | .inn, .int k, .dck kvs => some (lookI k kvs).isSome
  | .nin, .int k, .dck kvs => some (!(lookI k kvs).isSome)
  | .inn, .str c, .str z => match c.cps.toList with
    | [k] => some (decide (k ∈ z.cps.toList))
    | _ => none
  | _, _, _ => none
/-- a place in a sequence, from either end -/
def ixAt {α : Type} (xs : List α) (i : Int) : Option α :=
  if 0 ≤ i then xs[i.toNat]? else if -(xs.length : Int) ≤ i then xs[(i + xs.length).toNat]? else none
def ixD : D → D → Option D
  | .tup xs, .int i => ixAt xs i
  | .lst xs, .int i => ixAt xs i
  | .scr ns, .int i => (ixAt ns i).map .int
  | .str z, .int i => if Nat.ble z.length LINE then (ixAt z.cps.toList i).map fun c => .str ⟨#[c]⟩ else none
  | .dct kvs, .tup ks => (intsD ks).bind fun ns => lookT ns kvs
  | .dck kvs, .int k => lookI k kvs
  | .ldt kvs, .tup ks => (intsD ks).bind fun ns => lookT ns kvs
  | _, _ => none
def slI (n d : Nat) : Option Int → Nat
  | none => d
  | some v => if v < 0 then (max (v + (n : Int)) 0).toNat else min v.toNat n
def cut {α : Type} (xs : List α) (lo hi : Option Int) : List α := (xs.drop (slI xs.length 0 lo)).take (slI xs.length xs.length hi - slI xs.length 0 lo)
def slD : D → Option Int → Option Int → Option Ro
  | .tup xs, lo, hi => cl (.tup (cut xs lo hi))
  | .lst xs, lo, hi => fr (.lst (cut xs lo hi))
  | .str z, lo, hi => if Nat.ble z.length LINE then cl (.str ⟨(cut z.cps.toList lo hi).toArray⟩) else none
  | _, _, _ => none
def lenD : D → Option Nat
  | .tup xs => some xs.length
  | .lst xs => some xs.length
  | .scr ns => some ns.length
  | .str z => some z.length
  | _ => none
def maxI (m : Int) : List Int → Int
  | [] => m
  | x :: xs => maxI (if m < x then x else m) xs
def minI (m : Int) : List Int → Int
  | [] => m
  | x :: xs => minI (if x < m then x else m) xs
def minTup (d : D) (k : Nat × List Int) : List D → Option D
  | [] => some d
  | e :: r => match figT e with
    | some j => (match figLe k j with
      | some true => minTup d k r
      | some false => minTup e j r
      | none => none)
    | none => none
def lenX (d : D) : Option Ro := match lenD d with
  | some n => if Nat.ble n LINE then cl (.int n) else none
  | none => none
def allX : D → Option Ro
  | .lst ds => (match boolsD ds with
    | some bs => cl (.bl (bs.all id))
    | none => none)
  | _ => none
def anyX : D → Option Ro
  | .lst ds => (match boolsD ds with
    | some bs => cl (.bl (bs.any id))
    | none => none)
  | _ => none
def sumX : D → Option Ro
  | .lst ds => (match intsD ds with
    | some ns => cl (.int ns.sum)
    | none => none)
  | _ => none
def maxX : D → Option Ro
  | .lst (.int i :: ds) => (match intsD ds with
    | some ns => cl (.int (maxI i ns))
    | none => none)
  | _ => none
def minX : D → Option Ro
  | .lst (.int i :: ds) => (match intsD ds with
    | some ns => cl (.int (minI i ns))
    | none => none)
  | .lst (.tup xs :: ds) => (match figD xs with
    | some k => clO (minTup (.tup xs) k ds)
    | none => none)
  | _ => none
/-- tuples of one length whose ints are few: sorted by the library -/
def dims : List (List Int) → Bool
  | [] => true
  | k :: ks => Nat.ble 1 k.length && (k :: ks).all fun j => (j.length == k.length) && j.all fun m => decide (0 ≤ m) && decide (m < 64)
def sortedX : D → Option Ro
  | .lst ds => (match intsD ds with
    | some ns => fr (.lst ((isort leI ns).map .int))
    | none => (match tupsD ds with
      | some ks => if Nat.ble ks.length 60 && dims ks then fr (.lst ((isort leT ks).map tupI)) else none
      | none => none))
  | .dct kvs => if Nat.ble kvs.length 60 && dims (kvs.map (·.1)) then fr (.lst ((isort leT (kvs.map (·.1))).map tupI)) else none
  | _ => none
def ssetX : D → Option Ro
  | .lst ds => (match intsD ds with
    | some ns => if Nat.ble ns.length 4000 && Nat.ble (usort leI ns).length 60 then fr (.lst ((usort leI ns).map .int)) else none
    | none => (match tupsD ds with
      | some ks => if Nat.ble (usort leT ks).length 60 && dims (usort leT ks) then fr (.lst ((usort leT ks).map tupI)) else none
      | none => none))
  | _ => none
def lsetX : D → Option Ro
  | .lst ds => (match intsD ds with
    | some ns => if Nat.ble ns.length 4000 then cl (.int (usort leI ns).length) else none
    | none => none)
  | _ => none
def listX : D → Option Ro
  | .lst ds => fr (.lst ds)
  | .tup ds => fr (.lst ds)
  | _ => none
def tupleX : D → Option Ro
  | .lst ds => cl (.tup ds)
  | .tup ds => cl (.tup ds)
  | _ => none
def intX : D → Option Ro
  | .str z => (match PySem.intText? z with
    | some n => if Nat.ble z.length 600 then cl (.int n) else none
    | none => none)
  | _ => none
def strX : D → Option Ro
  | .int i => if Nat.ble i.natAbs 1000000000 then cl (.str (toString i)) else none
  | _ => none
def b1D : B1 → D → Option Ro
  | .len => lenX
  | .all => allX
  | .any => anyX
  | .sum => sumX
  | .max => maxX
  | .min => minX
  | .sorted => sortedX
  | .sset => ssetX
  | .lset => lsetX
  | .list => listX
  | .tuple => tupleX
  | .int => intX
  | .str => strX
def rangeD (lo hi : Int) : List D := (List.range (hi - lo).toNat).map fun (k : Nat) => .int (lo + (k : Int))
def rangeOk (i : Int) : Bool := decide (-1000000 ≤ i) && decide (i ≤ 1000000)
def max2X : D → D → Option Ro
  | .int i, .int j => cl (.int (if j > i then j else i))
  | _, _ => none
def min2X : D → D → Option Ro
  | .int i, .int j => cl (.int (if j < i then j else i))
  | .tup xs, .tup ys => (match ltO (figD ys) (figD xs) with
    | some b => cl (.tup (if b then ys else xs))
    | none => none)
  | _, _ => none
def lrangeX : D → D → Option Ro
  | .int i, .int j => if rangeOk i && rangeOk j then fr (.lst (rangeD i j)) else none
  | _, _ => none
def b2D : B2 → D → D → Option Ro
  | .max => max2X
  | .min => min2X
  | .lrange => lrangeX
/-- isinstance(d, t) -/
def isiD (d : D) (t : String) : Option Bool :=
  match d with
  | .non => some false
  | .bl _ => some (t == "bool" || t == "int")
  | .int _ => some (t == "int")
  | .str _ => some (t == "str")
  | .tup _ => some (t == "tuple")
  | .lst _ => some (t == "list")
  | _ => none
def isiT (t : String) : Bool := t == "int" || t == "bool" || t == "str" || t == "tuple" || t == "list"
def getX : D → List D → Option Ro
  | .dct kvs, [.tup ks, d] => (match intsD ks with
    | some ns => cl ((lookT ns kvs).getD d)
    | none => none)
  | .dck kvs, [.int k, d] => cl ((lookI k kvs).getD d)
  | _, _ => none
def splitX : D → List D → Option Ro
  | .str a, [.str b] => if Nat.ble 1 b.length && Nat.ble (a.length + 2) LINE then fr (.lst ((Txt.split a b).map .str)) else none
  | _, _ => none
def partX : D → List D → Option Ro
  | .str a, [.str b] => if Nat.ble 1 b.length && Nat.ble a.length LINE then cl (.tup [.str (Txt.partition a b).1, .str (Txt.partition a b).2.1, .str (Txt.partition a b).2.2]) else none
  | _, _ => none
def endsX : D → List D → Option Ro
  | .str a, [.str b] => cl (.bl (Txt.endswith a b))
  | _, _ => none
def joinX : D → List D → Option Ro
  | .str a, [.lst ds] => (match strsD ds with
    | some xs => if Nat.ble ((xs.map (·.length)).sum + xs.length * a.length) 16000000 then cl (.str (Txt.join a xs)) else none
    | none => none)
  | _, _ => none
def indexX : D → List D → Option Ro
  | .lst ds, [.bl b] => (match boolsD ds with
    | some bs => (match bs.findIdx? (· == b) with
      | some j => cl (.int j)
      | none => none)
    | none => none)
  | _, _ => none
def mtD : MT → D → List D → Option Ro
  | .get => getX
  | .split => splitX
  | .partition => partX
  | .endswith => endsX
  | .join => joinX
  | .index => indexX
  | .count => fun _ _ => none
/-- the receiver's kind -/
def mtT : MT → D → Bool
  | .get, .dct _ => true
  | .get, .dck _ => true
  | .split, .str _ => true
  | .partition, .str _ => true
  | .endswith, .str _ => true
  | .join, .str _ => true
  | .index, .lst _ => true
  | _, _ => false
def stv : Mk → D → Option SV
  | .cl, d => some (.fz d)
  | .fr, d => some (.ow d)
  | .raw, _ => none
/-- a target takes a value -/
def setAll : List Nat → List D → En → En
  | i :: is, d :: ds, ρ => setAll is ds (ρ.set i (.fz d))
  | _, _, ρ => ρ
def bindM (is : List Nat) : D → En → Option En
  | .tup ds, ρ => if is.length = ds.length then some (setAll is ds ρ) else none
  | _, _ => none
def bind2 (i : Nat) (is : List Nat) : D → En → Option En
  | .tup [d, .tup ds], ρ => if is.length = ds.length then some (setAll is ds (ρ.set i (.fz d))) else none
  | _, _ => none
def bindT : Tg → D → En → Option En
  | .one i, d, ρ => some (ρ.set i (.fz d))
  | .many is, d, ρ => bindM is d ρ
  | .two i is, d, ρ => bind2 i is d ρ
def wipes (ρ : En) : List Nat → En
  | [] => ρ
  | i :: is => (wipes ρ is).set i .un
def strItems (z : Str) : List D := z.cps.toList.map fun c => .str ⟨#[c]⟩
def seqD : D → Option (List D)
  | .tup xs => some xs
  | .lst xs => some xs
  | .str z => some (strItems z)
  | .ldt kvs => some (kvs.map fun kv => tupI kv.1)
  | _ => none
def enumFrom (k : Nat) : List D → List D
  | [] => []
  | d :: ds => .tup [.int k, d] :: enumFrom (k + 1) ds
def zipD : List D → List D → List D
  | x :: xs, y :: ys => .tup [x, y] :: zipD xs ys
  | _, _ => []
def zip3D : List D → List D → List D → List D
  | x :: xs, y :: ys, z :: zs => .tup [x, y, z] :: zip3D xs ys zs
  | _, _, _ => []
/-- the items of enumerate, of zip -/
def seqB : D → Option (List D)
  | .tup xs => some xs
  | .lst xs => some xs
  | _ => none
def enumD (d : D) : Option (List D) := match seqB d with
  | some xs => some (enumFrom 0 xs)
  | none => none
def zip2 (d e : D) : Option (List D) := match seqB d with
  | some xs => (match seqB e with
    | some ys => some (zipD xs ys)
    | none => none)
  | none => none
def zip3 (d e f : D) : Option (List D) := match seqB d with
  | some xs => (match seqB e with
    | some ys => (match seqB f with
      | some zs => some (zip3D xs ys zs)
      | none => none)
    | none => none)
  | none => none
/-- the turns of a comprehension: what each gives (at most one item) -/
def turns (f : D → Option (List D)) : List D → Option (List D)
  | [] => some []
  | d :: ds => match f d with
    | some a => match turns f ds with
      | some b => some (a ++ b)
      | none => none
    | none => none

/-- a field -/
def fldD : List Str → List D → Str → Option D
  | n :: ns, d :: ds, x => if n = x then some d else fldD ns ds x
  | _, _, _ => none
def fldX (c x : Str) : SV → Option Ro
  | .bg _ (.obj c' ns ds) => if c' = c then clO (fldD ns ds x) else none
  | _ => none
/-- a method of no argument that changes nothing, by the object's attributes -/
def mclX (G : Fns) (c k : Str) : SV → Option Ro
  | .bg _ (.obj c' ns ds) => if c' = c then (match fnOf k G with
    | some g => (match g (.tup (ns.map .str) :: ds) with
      | some (.ret d) => cl d
      | _ => none)
    | none => none) else none
  | _ => none
def olnX : Option Ro → Option Ro
  | some (.v .cl (.int i)) => if decide (0 ≤ i) && decide (i < 1000000) then cl (.int i) else none
  | _ => none

/-! ### the interpreter -/
mutual
def evE (G : Fns) : E → En → Option Ro
  | .var i, ρ => match look ρ i with
    | .fz d => cl d
    | .ow d => some (.v .raw d)
    | .bg _ d => some (.v .raw d)
    | .un => none
  | .cst c, _ => cl c.d
  | .glb _ c, _ => cl c.d
  | .fnv x, _ => if (fnOf x G).isSome then cl (.fnv x) else none
  | .neg a, ρ => bnd (evE G a ρ) fun _ d => match d with
    | .int i => cl (.int (-i))
    | _ => none
  | .not a, ρ => bnd (evE G a ρ) fun _ d => match d with
    | .bl b => cl (.bl (!b))
    | _ => none
  | .tup es, ρ => bndL (evEs G es ρ) fun ds => if Nat.ble ds.length LINE then cl (.tup ds) else none
  | .lst es, ρ => bndL (evEs G es ρ) fun ds => if Nat.ble ds.length LINE then fr (.lst ds) else none
  | .dnt, _ => fr (.dct [])
  | .dnk, _ => fr (.dck [])
  | .bin o a b, ρ => bnd (evE G a ρ) fun _ x => bnd (evE G b ρ) fun _ y => bop o x y
  | .cmp o a b, ρ => bnd (evE G a ρ) fun _ x => bnd (evE G b ρ) fun _ y => blO (cop o x y)
  | .chain o1 o2 a b c, ρ => bnd (evE G a ρ) fun _ x => bnd (evE G b ρ) fun _ y => match cop o1 x y with
    | some true => bnd (evE G c ρ) fun _ z => blO (cop o2 y z)
    | some false => cl (.bl false)
    | none => none
  | .and es, ρ => evA G es ρ
  | .or es, ρ => evO G es ρ
  | .ite t a b, ρ => bnd (evE G t ρ) fun _ d => match d with
    | .bl true => evE G a ρ
    | .bl false => evE G b ρ
    | _ => none
  | .ix a b, ρ => bnd (evE G a ρ) fun _ x => bnd (evE G b ρ) fun _ y => clO (ixD x y)
  | .sl a lo hi, ρ => bnd (evE G a ρ) fun _ x => match evP G lo ρ with
    | some l => match evP G hi ρ with
      | some h => slD x l h
      | none => none
    | none => none
  | .fn f es, ρ => match fnOf f G with
    | some g => bndL (evEs G es ρ) fun ds => rrO (g ds)
    | none => none
  | .fnx g es, ρ => bnd (evE G g ρ) fun _ x => match x with
    | .fnv f => match fnOf f G with
      | some g => bndL (evEs G es ρ) fun ds => rrO (g ds)
      | none => none
    | _ => none
  | .b1 o a, ρ => bnd (evE G a ρ) fun _ x => b1D o x
  | .b2 o a b, ρ => bnd (evE G a ρ) fun _ x => bnd (evE G b ρ) fun _ y => b2D o x y
  | .isi a t, ρ => bnd (evE G a ρ) fun _ x => blO (isiD x t)
  | .ise i c, ρ => match look ρ i with
    | .fz (.exc k) => cl (.bl (k == c))
    | _ => none
  | .mth m o es, ρ => bnd (evE G o ρ) fun _ x => if mtT m x then bndL (evEs G es ρ) fun ds => mtD m x ds else none
  | .lc elt tg it c own, ρ => match evI G it ρ with
    | some ds => match turns (fun d => match bindT tg d (wipes ρ own) with
        | some ρ' => match evC G c ρ' with
          | some true => match evE G elt ρ' with
            | some (.v .cl y) => some [y]
            | some (.v .fr y) => some [y]
            | _ => none
          | some false => some []
          | none => none
        | none => none) ds with
      | some ys => if Nat.ble ys.length LINE then fr (.lst ys) else none
      | none => none
    | none => none
  | .lc2 elt tg it tg1 it1 own own1, ρ => match evI G it ρ with
    | some ds => match turns (fun d => match bindT tg d (wipes ρ own) with
        | some ρ' => match evI G it1 ρ' with
          | some es => turns (fun d1 => match bindT tg1 d1 (wipes ρ' own1) with
            | some ρ2 => match evE G elt ρ2 with
              | some (.v .cl y) => some [y]
              | some (.v .fr y) => some [y]
              | _ => none
            | none => none) es
          | none => none
        | none => none) ds with
      | some ys => if Nat.ble ys.length LINE then fr (.lst ys) else none
      | none => none
    | none => none
  | .fld i c x, ρ => fldX c x (look ρ i)
  | .mcl i c _ k, ρ => mclX G c k (look ρ i)
  | .oln i c k, ρ => olnX (mclX G c k (look ρ i))
def evEs (G : Fns) : Es → En → Option Rl
  | .nil, _ => some (.v [])
  | .cons e es, ρ => match evE G e ρ with
    | some (.v .cl d) => (match evEs G es ρ with
      | some (.v ds) => some (.v (d :: ds))
      | r => r)
    | some (.v .fr d) => (match evEs G es ρ with
      | some (.v ds) => some (.v (d :: ds))
      | r => r)
    | some (.v .raw _) => none
    | some (.x c) => some (.x c)
    | none => none
def evA (G : Fns) : Es → En → Option Ro
  | .nil, _ => none
  | .cons e es, ρ => match es with
    | .nil => bnd (evE G e ρ) fun _ d => match d with
      | .bl b => cl (.bl b)
      | _ => none
    | .cons _ _ => bnd (evE G e ρ) fun _ d => match d with
      | .bl true => evA G es ρ
      | .bl false => cl (.bl false)
      | _ => none
def evO (G : Fns) : Es → En → Option Ro
  | .nil, _ => none
  | .cons e es, ρ => match es with
    | .nil => bnd (evE G e ρ) fun _ d => match d with
      | .bl b => cl (.bl b)
      | _ => none
    | .cons _ _ => bnd (evE G e ρ) fun _ d => match d with
      | .bl true => cl (.bl true)
      | .bl false => evO G es ρ
      | _ => none
/-- a slice's end -/
def evP (G : Fns) : OE → En → Option (Option Int)
  | .no, _ => some none
  | .so e, ρ => match evE G e ρ with
    | some (.v _ (.int i)) => some (some i)
    | _ => none
/-- a comprehension's test -/
def evC (G : Fns) : OE → En → Option Bool
  | .no, _ => some true
  | .so e, ρ => match evE G e ρ with
    | some (.v _ (.bl b)) => some b
    | _ => none
def evI (G : Fns) : It → En → Option (List D)
  | .seq e, ρ => match evE G e ρ with
    | some (.v .cl d) => seqD d
    | some (.v .fr d) => seqD d
    | _ => none
  | .rng a, ρ => match evE G a ρ with
    | some (.v _ (.int i)) => if rangeOk i then some (rangeD 0 i) else none
    | _ => none
  | .rng2 a b, ρ => match evE G a ρ with
    | some (.v _ (.int i)) => match evE G b ρ with
      | some (.v _ (.int j)) => if rangeOk i && rangeOk j then some (rangeD i j) else none
      | _ => none
    | _ => none
  | .enum e, ρ => match evE G e ρ with
    | some (.v .cl d) => enumD d
    | some (.v .fr d) => enumD d
    | _ => none
  | .zip es, ρ => match evEs G es ρ with
    | some (.v [x, y]) => zip2 x y
    | _ => none
  | .zip3 es, ρ => match evEs G es ρ with
    | some (.v [x, y, z]) => zip3 x y z
    | _ => none
end

/-- a statement's end: what follows, the def's value, an exception -/
inductive So where
  | nx (ρ : En)
  | rt (d : D)
  | ex (c : Str) (ρ : En)
def loopW (t : En → Option Ro) (b : En → Option So) : Nat → En → Option So
  | 0, _ => none
  | n + 1, ρ => match t ρ with
    | some (.v _ (.bl true)) => (match b ρ with
      | some (.nx ρ') => loopW t b n ρ'
      | r => r)
    | some (.v _ (.bl false)) => some (.nx ρ)
    | some (.x c) => some (.ex c ρ)
    | _ => none
def loopF (b : D → En → Option So) : List D → En → Option So
  | [], ρ => some (.nx ρ)
  | d :: ds, ρ => match b d ρ with
    | some (.nx ρ') => loopF b ds ρ'
    | r => r
def FUEL : Nat := 100000
/-- the values of a tuple that is stored at once -/
def evPs (G : Fns) : Es → En → Option (List SV)
  | .nil, _ => some []
  | .cons e es, ρ => match evE G e ρ with
    | some (.v m d) => (match stv m d with
      | some s => (match evPs G es ρ with
        | some r => some (s :: r)
        | none => none)
      | none => none)
    | _ => none
def setSV : List Nat → List SV → En → En
  | i :: is, s :: ss, ρ => setSV is ss (ρ.set i s)
  | _, _, ρ => ρ
def cleanE : Option Ro → Option D
  | some (.v .cl d) => some d
  | some (.v .fr d) => some d
  | _ => none
def stoD : D → D → D → Option D
  | .lst ds, .int i, y => if decide (0 ≤ i) && decide (i < ds.length) then some (.lst (ds.set i.toNat y)) else none
  | .dct kvs, .tup ks, y => (match intsD ks with
    | some ns => if Nat.blt kvs.length LINE then some (.dct (putT ns y kvs)) else none
    | none => none)
  | .dck kvs, .int k, y => if Nat.blt kvs.length LINE then some (.dck (putI k y kvs)) else none
  | _, _, _ => none
mutual
def evS (G : Fns) : S → En → Option So
  | .set i e, ρ => match evE G e ρ with
    | some (.v m d) => (match stv m d with
      | some s => some (.nx (ρ.set i s))
      | none => none)
    | some (.x c) => some (.ex c ρ)
    | none => none
  | .unp is e, ρ => match evE G e ρ with
    | some (.v .cl (.tup ds)) => if is.length = ds.length then some (.nx (setAll is ds ρ)) else none
    | some (.x c) => some (.ex c ρ)
    | _ => none
  | .par is es, ρ => match evPs G es ρ with
    | some ss => if is.length = ss.length then some (.nx (setSV is ss ρ)) else none
    | none => none
  | .sto i k e, ρ => match cleanE (evE G e ρ) with
    | some y => (match look ρ i with
      | .ow d => (match cleanE (evE G k ρ) with
        | some kd => (match stoD d kd y with
          | some d' => some (.nx (ρ.set i (.ow d')))
          | none => none)
        | none => none)
      | _ => none)
    | none => none
  | .app i e, ρ => match look ρ i with
    | .ow (.lst ds) => (match cleanE (evE G e ρ) with
      | some y => if Nat.blt ds.length LINE then some (.nx (ρ.set i (.ow (.lst (ds ++ [y]))))) else none
      | none => none)
    | _ => none
  | .ext i e, ρ => match look ρ i with
    | .ow (.lst ds) => (match cleanE (evE G e ρ) with
      | some (.lst es) => if Nat.ble (ds.length + es.length) LINE then some (.nx (ρ.set i (.ow (.lst (ds ++ es))))) else none
      | _ => none)
    | _ => none
  | .frz i, ρ => match look ρ i with
    | .ow d => some (.nx (ρ.set i (.fz d)))
    | .fz d => some (.nx ρ)
    | _ => none
  | .lck i, ρ => match look ρ i with
    | .ow (.dct kvs) => some (.nx (ρ.set i (.fz (.ldt kvs))))
    | .fz d => some (.nx ρ)
    | _ => none
  | .exp e, ρ => match evE G e ρ with
    | some (.v _ _) => some (.nx ρ)
    | some (.x c) => some (.ex c ρ)
    | none => none
  | .ret e, ρ => match evE G e ρ with
    | some (.v .cl d) => some (.rt d)
    | some (.v .fr d) => some (.rt d)
    | some (.v .raw _) => none
    | some (.x c) => some (.ex c ρ)
    | none => none
  | .rse c _, ρ => some (.ex c ρ)
  | .ite t a b, ρ => match evE G t ρ with
    | some (.v _ (.bl true)) => evSs G a ρ
    | some (.v _ (.bl false)) => evSs G b ρ
    | some (.x c) => some (.ex c ρ)
    | _ => none
  | .whl t b, ρ => loopW (evE G t) (fun ρ => evSs G b ρ) FUEL ρ
  | .for_ tg it b, ρ => match evI G it ρ with
    | some ds => loopF (fun d ρ => match bindT tg d ρ with
      | some ρ' => evSs G b ρ'
      | none => none) ds ρ
    | none => none
  | .try_ cs b i h, ρ => match evSs G b ρ with
    | some (.ex c ρ') => if cs.contains c then (match evSs G h (ρ'.set i (.fz (.exc c))) with
      | some (.rt d) => if plain d then some (.rt d) else none
      | _ => none) else none
    | r => r
def evSs (G : Fns) : Ss → En → Option So
  | .nil, ρ => some (.nx ρ)
  | .cons s ss, ρ => match evS G s ρ with
    | some (.nx ρ') => evSs G ss ρ'
    | r => r
end
/-- a def: how many parameters, how many slots, its body -/
structure Def where
  np : Nat
  nl : Nat
  body : Ss
/-- a method of no argument, by the attributes: their names, their values -/
def runMt (G : Fns) (c : Str) (ns : List Str) (d : Def) : List D → Option Rr
  | .tup xs :: ds => if strsD xs = some ns ∧ d.np = 1 then
    (match evSs G d.body (.bg none (.obj c ns ds) :: List.replicate (d.nl - 1) .un) with
    | some (.nx _) => some (.ret .non)
    | some (.rt v) => some (.ret v)
    | some (.ex c _) => some (.exc c)
    | none => none) else none
  | _ => none
def runDef (G : Fns) (d : Def) (ds : List D) : Option Rr :=
  if ds.length = d.np then
    match evSs G d.body (ds.map .fz ++ List.replicate (d.nl - d.np) .un) with
    | some (.nx _) => some (.ret .non)
    | some (.rt v) => some (.ret v)
    | some (.ex c _) => some (.exc c)
    | none => none
  else none
/-- a row of the program's table: a def, one that calls itself to a depth -/
inductive Ent where
  | one (x : Str) (d : Def)
  | rec_ (x : Str) (d : Def) (n : Nat)
def recG (G : Fns) (x : Str) (d : Def) : Nat → Fns
  | 0 => G
  | n + 1 => (x, runDef (recG G x d n) d) :: recG G x d n
def Ent.add (G : Fns) : Ent → Fns
  | .one x d => (x, runDef G d) :: G
  | .rec_ x d n => recG G x d n
def tabG : List Ent → Fns → Fns
  | [], G => G
  | e :: r, G => tabG r (e.add G)
end LS

set_option linter.all false
/-! LSo: sorting by an order, plainly. -/
namespace LS
structure Ord {α : Type} (le : α → α → Bool) : Prop where
  tot : ∀ a b, le a b = true ∨ le b a = true
  tr : ∀ a b c, le a b = true → le b c = true → le a c = true
  anti : ∀ a b, le a b = true → le b a = true → a = b
theorem Ord.refl {α : Type} {le : α → α → Bool} (O : Ord le) (a : α) : le a a = true := (O.tot a a).elim id id
theorem Ord.of_not {α : Type} {le : α → α → Bool} (O : Ord le) {a b : α} (h : ¬ le a b = true) : le b a = true := (O.tot a b).resolve_left h
theorem ordI : Ord leI where
  tot a b := by simp only [leI, decide_eq_true_eq]; omega
  tr a b c h1 h2 := by simp only [leI, decide_eq_true_eq] at *; omega
  anti a b h1 h2 := by simp only [leI, decide_eq_true_eq] at *; omega
theorem leT_nil (b : List Int) : leT [] b = true := by cases b <;> rfl
theorem leT_cons (a b : Int) (as bs : List Int) : leT (a :: as) (b :: bs) = true ↔ a < b ∨ (a = b ∧ leT as bs = true) := by
  show (if a = b then leT as bs else decide (a < b)) = true ↔ _
  split
  · rename_i h; subst h; simp
  · rename_i h; simp [h]
theorem ordT : Ord leT where
  tot a b := by
    induction a generalizing b with
    | nil => exact .inl (leT_nil b)
    | cons x xs ih =>
      cases b with
      | nil => exact .inr (leT_nil _)
      | cons y ys =>
        rw [leT_cons, leT_cons]
        rcases Int.lt_trichotomy x y with h | h | h
        · exact .inl (.inl h)
        · rcases ih ys with q | q
          · exact .inl (.inr ⟨h, q⟩)
          · exact .inr (.inr ⟨h.symm, q⟩)
        · exact .inr (.inl h)
  tr a b c h1 h2 := by
    induction a generalizing b c with
    | nil => exact leT_nil c
    | cons x xs ih =>
      cases b with
      | nil => exact absurd h1 (by simp [leT])
      | cons y ys =>
        cases c with
        | nil => exact absurd h2 (by simp [leT])
        | cons z zs =>
          rw [leT_cons] at *
          rcases h1 with p | ⟨p, p'⟩ <;> rcases h2 with q | ⟨q, q'⟩
          · exact .inl (by omega)
          · exact .inl (by omega)
          · exact .inl (by omega)
          · exact .inr ⟨by omega, ih _ _ p' q'⟩
  anti a b h1 h2 := by
    induction a generalizing b with
    | nil =>
      cases b with
      | nil => rfl
      | cons y ys => exact absurd h2 (by simp [leT])
    | cons x xs ih =>
      cases b with
      | nil => exact absurd h1 (by simp [leT])
      | cons y ys =>
        rw [leT_cons] at *
        rcases h1 with p | ⟨p, p'⟩ <;> rcases h2 with q | ⟨q, q'⟩
        · omega
        · omega
        · omega
        · rw [p, ih _ p' q']
section
variable {α : Type} {le : α → α → Bool}
theorem ins_perm (x : α) : ∀ l : List α, (ins le x l).Perm (x :: l)
  | [] => .refl _
  | y :: ys => by
    unfold ins
    split
    · exact .refl _
    · exact ((ins_perm x ys).cons y).trans (.swap x y ys)
theorem isort_perm : ∀ l : List α, (isort le l).Perm l
  | [] => .refl _
  | x :: xs => (ins_perm x _).trans ((isort_perm xs).cons x)
theorem ins_sorted (O : Ord le) (x : α) : ∀ l : List α, l.Pairwise (fun a b => le a b = true) → (ins le x l).Pairwise (fun a b => le a b = true)
  | [], _ => List.pairwise_singleton _ _
  | y :: ys, h => by
    obtain ⟨h1, h2⟩ := List.pairwise_cons.mp h
    unfold ins
    split
    · rename_i hx
      exact List.pairwise_cons.mpr ⟨fun z hz => by
        rcases List.mem_cons.mp hz with e | e
        · subst e; exact hx
        · exact O.tr _ _ _ hx (h1 z e), h⟩
    · rename_i hx
      refine List.pairwise_cons.mpr ⟨fun z hz => ?_, ins_sorted O x ys h2⟩
      rcases List.mem_cons.mp ((ins_perm x ys).mem_iff.mp hz) with e | e
      · subst e; exact O.of_not hx
      · exact h1 z e
theorem isort_sorted (O : Ord le) : ∀ l : List α, (isort le l).Pairwise (fun a b => le a b = true)
  | [] => .nil
  | x :: xs => ins_sorted O x _ (isort_sorted O xs)
theorem isort_of (O : Ord le) {l m : List α} (p : m.Perm l) (s : m.Pairwise (fun a b => le a b = true)) : m = isort le l :=
  List.Perm.eq_of_pairwise (fun a b _ _ h1 h2 => O.anti a b h1 h2) s (isort_sorted O l) (p.trans (isort_perm l).symm)
variable [DecidableEq α]
theorem mem_insU (x z : α) : ∀ l : List α, z ∈ insU le x l ↔ z = x ∨ z ∈ l
  | [] => by simp [insU]
  | y :: ys => by
    unfold insU
    split
    · rename_i h; subst h; simp
    · split
      · simp
      · rw [List.mem_cons, mem_insU x z ys, List.mem_cons]
        constructor
        · rintro (h | h | h)
          · exact .inr (.inl h)
          · exact .inl h
          · exact .inr (.inr h)
        · rintro (h | h | h)
          · exact .inr (.inl h)
          · exact .inl h
          · exact .inr (.inr h)
theorem mem_usort (z : α) : ∀ l : List α, z ∈ usort le l ↔ z ∈ l
  | [] => Iff.rfl
  | x :: xs => by
    show z ∈ insU le x (usort le xs) ↔ _
    rw [mem_insU, mem_usort z xs, List.mem_cons]
theorem insU_sorted (O : Ord le) (x : α) : ∀ l : List α, l.Pairwise (fun a b => le a b = true ∧ a ≠ b) → (insU le x l).Pairwise (fun a b => le a b = true ∧ a ≠ b)
  | [], _ => List.pairwise_singleton _ _
  | y :: ys, h => by
    obtain ⟨h1, h2⟩ := List.pairwise_cons.mp h
    unfold insU
    split
    · exact h
    · rename_i hne
      split
      · rename_i hx
        exact List.pairwise_cons.mpr ⟨fun z hz => by
          rcases List.mem_cons.mp hz with e | e
          · subst e; exact ⟨hx, hne⟩
          · refine ⟨O.tr _ _ _ hx (h1 z e).1, fun e2 => ?_⟩
            subst e2
            exact hne (O.anti _ _ hx (h1 _ e).1), h⟩
      · rename_i hx
        refine List.pairwise_cons.mpr ⟨fun z hz => ?_, insU_sorted O x ys h2⟩
        rcases (mem_insU x z ys).mp hz with e | e
        · subst e; exact ⟨O.of_not hx, fun e => hne e.symm⟩
        · exact h1 z e
theorem usort_sorted (O : Ord le) : ∀ l : List α, (usort le l).Pairwise (fun a b => le a b = true ∧ a ≠ b)
  | [] => .nil
  | x :: xs => insU_sorted O x _ (usort_sorted O xs)
theorem usort_nodup (O : Ord le) (l : List α) : (usort le l).Nodup := (usort_sorted O l).imp fun h => h.2
theorem usort_of (O : Ord le) {l m : List α} (s : m.Pairwise (fun a b => le a b = true)) (nd : m.Nodup) (h : ∀ x, x ∈ m ↔ x ∈ l) : m = usort le l :=
  List.Perm.eq_of_pairwise (fun a b _ _ h1 h2 => O.anti a b h1 h2) s ((usort_sorted O l).imp fun h => h.1)
    ((List.perm_ext_iff_of_nodup nd (usort_nodup O l)).mpr fun x => (h x).trans (mem_usort x l).symm)
theorem isort_nodup (O : Ord le) {l : List α} (nd : l.Nodup) : isort le l = usort le l :=
  usort_of O (isort_sorted O l) ((isort_perm l).nodup_iff.mpr nd) fun x => (isort_perm l).mem_iff
/-- pigeons -/
theorem nodup_le : ∀ (l m : List α), l.Nodup → (∀ x ∈ l, x ∈ m) → l.length ≤ m.length
  | [], _, _, _ => Nat.zero_le _
  | x :: l, m, hn, hs => by
    obtain ⟨h1, h2⟩ := List.nodup_cons.mp hn
    have hx : x ∈ m := hs x List.mem_cons_self
    have ih := nodup_le l (m.erase x) h2 fun y hy => by
      have hne : y ≠ x := fun e => h1 (by rw [← e]; exact hy)
      exact (List.mem_erase_of_ne hne).2 (hs y (List.mem_cons_of_mem _ hy))
    have e := List.length_erase_of_mem hx
    have hp : 0 < m.length := List.length_pos_of_mem hx
    rw [List.length_cons]
    omega
end
end LS

set_option Elab.async false
set_option linter.all false
set_option maxRecDepth 100000
set_option maxHeartbeats 4000000
/-! LS2: how data lies in the heap; the operators by data. -/
namespace LS
open PySem PySem.Spec PyProof.Rows L2

/-! ### data in the abstract heap -/
section
variable (K : PySem.W.Frag) (mg : Str → Option Value) (xc : V → Str → Prop)
mutual
inductive Rep (H : Hp) : V → D → Prop
  | non : Rep H .non .non
  | bl (b : Bool) : Rep H (.bl b) (.bl b)
  | int (i : Int) : Rep H (.int i) (.int i)
  | str (x : Str) : Rep H (.str x) (.str x)
  | tup {a : Addr} {xs : List V} {ds : List D} : H a = some (.tup xs) → Reps H xs ds → Rep H (.ref a) (.tup ds)
  | lst {a : Addr} {xs : List V} {ds : List D} : H a = some (.lst xs) → Reps H xs ds → Rep H (.ref a) (.lst ds)
  | dct {a : Addr} {kvs : List (List Key × V)} {es : List (List Int × D)} : Rd H a (.dT kvs) → KTs H kvs es → Rep H (.ref a) (.dct es)
  | dck {a : Addr} {kvs : List (Key × V)} {es : List (Int × D)} : Rd H a (.dK kvs) → KIs H kvs es → Rep H (.ref a) (.dck es)
  | ldt {a : Addr} {o : Obj} {kvs : List (List Key × V)} {es : List (List Int × D)} : H a = some (.frz o (.dT kvs)) → KTs H kvs es → Rep H (.ref a) (.ldt es)
  | scr {a : Addr} {ns : List Int} : SqL K H a (ns.map V.int) → Rep H (.ref a) (.scr ns)
  | fnv {x : Str} {f : Addr} : mg x = some (.ref f) → Rep H (.ref f) (.fnv x)
  | exc {v : V} {c : Str} : xc v c → Rep H v (.exc c)
  | obj {a C dx : Addr} {c : Str} {ns : List Str} {fs : List (Str × V)} {vs : List V} {ds : List D} : mg c = some (.ref C) → H a = some (.ins C dx fs) → (∀ x v, fs.lookup x = some v → NoAttr K C x) → ns.map (fun n => fs.lookup n) = vs.map some → Reps H vs ds → Rep H (.ref a) (.obj c ns ds)
inductive Reps (H : Hp) : List V → List D → Prop
  | nil : Reps H [] []
  | cons {v : V} {vs : List V} {d : D} {ds : List D} : Rep H v d → Reps H vs ds → Reps H (v :: vs) (d :: ds)
inductive KTs (H : Hp) : List (List Key × V) → List (List Int × D) → Prop
  | nil : KTs H [] []
  | cons {ks : List Int} {v : V} {d : D} {r : List (List Key × V)} {s : List (List Int × D)} : Rep H v d → KTs H r s → KTs H ((ks.map Sum.inl, v) :: r) ((ks, d) :: s)
inductive KIs (H : Hp) : List (Key × V) → List (Int × D) → Prop
  | nil : KIs H [] []
  | cons {k : Int} {v : V} {d : D} {r : List (Key × V)} {s : List (Int × D)} : Rep H v d → KIs H r s → KIs H ((Sum.inl k, v) :: r) ((k, d) :: s)
end
end

section
variable {K : PySem.W.Frag} {mg : Str → Option Value} {xc : V → Str → Prop} {H H' : Hp}
theorem rd_mono {a : Addr} {u : HO} (s : Same H H') (h : Rd H a u) : Rd H' a u := by
  rcases h with h | ⟨o, h⟩
  · exact .inl (s _ _ h)
  · exact .inr ⟨o, s _ _ h⟩
theorem Rep.mono {v : V} {d : D} (s : Same H H') (h : Rep K mg xc H v d) : Rep K mg xc H' v d := by
  refine Rep.rec (motive_1 := fun v d _ => Rep K mg xc H' v d) (motive_2 := fun vs ds _ => Reps K mg xc H' vs ds) (motive_3 := fun k e _ => KTs K mg xc H' k e) (motive_4 := fun k e _ => KIs K mg xc H' k e)
    .non .bl .int .str (fun h _ q => .tup (s _ _ h) q) (fun h _ q => .lst (s _ _ h) q) (fun h _ q => .dct (rd_mono s h) q) (fun h _ q => .dck (rd_mono s h) q) (fun h _ q => .ldt (s _ _ h) q) (fun h => .scr (s.seq h)) (fun h => .fnv h) (fun h => .exc h) (fun m h z e _ q => .obj m (s _ _ h) z e q)
    .nil (fun _ _ a b => .cons a b) .nil (fun _ _ a b => .cons a b) .nil (fun _ _ a b => .cons a b) h
theorem Reps.mono (s : Same H H') : ∀ {vs : List V} {ds : List D}, Reps K mg xc H vs ds → Reps K mg xc H' vs ds
  | _, _, .nil => .nil
  | _, _, .cons a b => .cons (a.mono s) (Reps.mono s b)
theorem KTs.mono (s : Same H H') : ∀ {vs ds}, KTs K mg xc H vs ds → KTs K mg xc H' vs ds
  | _, _, .nil => .nil
  | _, _, .cons a b => .cons (a.mono s) (KTs.mono s b)
theorem KIs.mono (s : Same H H') : ∀ {vs ds}, KIs K mg xc H vs ds → KIs K mg xc H' vs ds
  | _, _, .nil => .nil
  | _, _, .cons a b => .cons (a.mono s) (KIs.mono s b)
theorem Reps.length : ∀ {vs : List V} {ds : List D}, Reps K mg xc H vs ds → vs.length = ds.length
  | _, _, .nil => rfl
  | _, _, .cons _ b => congrArg (· + 1) b.length
theorem Reps.append : ∀ {vs : List V} {ds : List D} {ws : List V} {es : List D}, Reps K mg xc H vs ds → Reps K mg xc H ws es → Reps K mg xc H (vs ++ ws) (ds ++ es)
  | _, _, _, _, .nil, q => q
  | _, _, _, _, .cons a b, q => .cons a (b.append q)
theorem Reps.get : ∀ {vs : List V} {ds : List D} {i : Nat} {d : D}, Reps K mg xc H vs ds → ds[i]? = some d → ∃ v, vs[i]? = some v ∧ Rep K mg xc H v d
  | _, _, _, _, .nil, e => by simp at e
  | _, _, 0, _, .cons a _, e => by simp at e; subst e; exact ⟨_, rfl, a⟩
  | _, _, i + 1, _, .cons _ b, e => by
    obtain ⟨v, h1, h2⟩ := b.get (i := i) (by simpa using e)
    exact ⟨v, by simpa using h1, h2⟩
theorem Reps.drop : ∀ {vs : List V} {ds : List D} (n : Nat), Reps K mg xc H vs ds → Reps K mg xc H (vs.drop n) (ds.drop n)
  | _, _, 0, r => r
  | _, _, _ + 1, .nil => .nil
  | _, _, n + 1, .cons _ b => b.drop n
theorem Reps.take : ∀ {vs : List V} {ds : List D} (n : Nat), Reps K mg xc H vs ds → Reps K mg xc H (vs.take n) (ds.take n)
  | _, _, 0, _ => .nil
  | _, _, _ + 1, .nil => .nil
  | _, _, n + 1, .cons a b => .cons a (b.take n)
theorem Reps.set : ∀ {vs : List V} {ds : List D} (n : Nat) {v : V} {d : D}, Reps K mg xc H vs ds → Rep K mg xc H v d → Reps K mg xc H (vs.set n v) (ds.set n d)
  | _, _, _, _, _, .nil, _ => .nil
  | _, _, 0, _, _, .cons _ b, q => .cons q b
  | _, _, n + 1, _, _, .cons a b, q => .cons a (b.set n q)
theorem Reps.rep {vs : List V} {ds : List D} (r : Reps K mg xc H vs ds) : ∀ k : Nat, Reps K mg xc H (List.replicate k vs).flatten (List.replicate k ds).flatten
  | 0 => .nil
  | k + 1 => by
    rw [List.replicate_succ, List.replicate_succ, List.flatten_cons, List.flatten_cons]
    exact r.append (r.rep k)
theorem Reps.ints : ∀ {vs : List V} {ds : List D} {ns : List Int}, Reps K mg xc H vs ds → intsD ds = some ns → vs = ns.map V.int
  | _, _, _, .nil, e => by
    have e' : some [] = some _ := e
    cases e'; rfl
  | _, _, _, .cons (d := d) (ds := ds) a b, e => by
    cases d with
    | int i =>
      have e' : (intsD ds).map (i :: ·) = some _ := e
      cases q : intsD ds with
      | none => rw [q] at e'; cases e'
      | some ms =>
        rw [q] at e'
        cases e'
        cases a
        rw [b.ints q]
        rfl
    | _ => cases e
theorem Reps.bls : ∀ {vs : List V} {ds : List D} {ns : List Bool}, Reps K mg xc H vs ds → boolsD ds = some ns → vs = ns.map V.bl
  | _, _, _, .nil, e => by
    have e' : some [] = some _ := e
    cases e'; rfl
  | _, _, _, .cons (d := d) (ds := ds) a b, e => by
    cases d with
    | bl i =>
      have e' : (boolsD ds).map (i :: ·) = some _ := e
      cases q : boolsD ds with
      | none => rw [q] at e'; cases e'
      | some ms =>
        rw [q] at e'
        cases e'
        cases a
        rw [b.bls q]
        rfl
    | _ => cases e
theorem Reps.strs : ∀ {vs : List V} {ds : List D} {ns : List Str}, Reps K mg xc H vs ds → strsD ds = some ns → vs = ns.map V.str
  | _, _, _, .nil, e => by
    have e' : some [] = some _ := e
    cases e'; rfl
  | _, _, _, .cons (d := d) (ds := ds) a b, e => by
    cases d with
    | str i =>
      have e' : (strsD ds).map (i :: ·) = some _ := e
      cases q : strsD ds with
      | none => rw [q] at e'; cases e'
      | some ms =>
        rw [q] at e'
        cases e'
        cases a
        rw [b.strs q]
        rfl
    | _ => cases e
theorem Reps.of_ints : ∀ ns : List Int, Reps K mg xc H (ns.map V.int) (ns.map D.int)
  | [] => .nil
  | n :: ns => .cons (.int n) (Reps.of_ints ns)
theorem Reps.of_strs : ∀ ns : List Str, Reps K mg xc H (ns.map V.str) (ns.map D.str)
  | [] => .nil
  | n :: ns => .cons (.str n) (Reps.of_strs ns)

/-! ### plain data is the library's data -/
mutual
theorem canLay : ∀ d : D, plain d = true → (toPy d).canLay0 = true
  | .non, _ => by simp [toPy, PyData.canLay0]
  | .bl _, _ => by simp [toPy, PyData.canLay0]
  | .int _, _ => by simp [toPy, PyData.canLay0]
  | .str x, h => by simpa [toPy, PyData.canLay0, plain] using h
  | .tup xs, h => by simp only [toPy, PyData.canLay0]; exact canLays xs (by simpa [plain] using h)
  | .lst xs, h => by simp only [toPy, PyData.canLay0]; exact canLays xs (by simpa [plain] using h)
  | .scr ns, _ => by simp only [toPy, PyData.canLay0]; exact canLayI ns
  | .dct _, h => by simp [plain] at h
  | .dck _, h => by simp [plain] at h
  | .ldt _, h => by simp [plain] at h
  | .fnv _, h => by simp [plain] at h
  | .exc _, h => by simp [plain] at h
  | .obj _ _ _, h => by simp [plain] at h
theorem canLays : ∀ ds : List D, plains ds = true → PyData.canLayAll0 (toPys ds) = true
  | [], _ => by simp [toPys, PyData.canLayAll0]
  | d :: ds, h => by
    have h' : plain d = true ∧ plains ds = true := by simpa [plains] using h
    simp only [toPys, PyData.canLayAll0, Bool.and_eq_true]
    exact ⟨canLay d h'.1, canLays ds h'.2⟩
theorem canLayI : ∀ ns : List Int, PyData.canLayAll0 (ns.map PyData.int) = true
  | [] => by simp [PyData.canLayAll0]
  | n :: ns => by simp only [List.map_cons, PyData.canLayAll0, PyData.canLay0, Bool.true_and]; exact canLayI ns
end
mutual
theorem dep_toPy : ∀ d : D, (toPy d).depth ≤ dep d
  | .non => by simp [toPy, PyData.depth, dep]
  | .bl _ => by simp [toPy, PyData.depth, dep]
  | .int _ => by simp [toPy, PyData.depth, dep]
  | .str _ => by simp [toPy, PyData.depth, dep]
  | .tup xs => by
    have := deps_toPy xs
    simp only [toPy, PyData.depth, dep]; omega
  | .lst xs => by
    have := deps_toPy xs
    simp only [toPy, PyData.depth, dep]; omega
  | .scr ns => by
    have := depI ns
    simp only [toPy, PyData.depth, dep]; omega
  | .dct _ => by simp [toPy, PyData.depth, dep]
  | .dck _ => by simp [toPy, PyData.depth, dep]
  | .ldt _ => by simp [toPy, PyData.depth, dep]
  | .fnv _ => by simp [toPy, PyData.depth, dep]
  | .exc _ => by simp [toPy, PyData.depth, dep]
  | .obj _ _ _ => by simp [toPy, PyData.depth, dep]
theorem deps_toPy : ∀ ds : List D, PyData.depthAll (toPys ds) ≤ deps ds
  | [] => by simp [toPys, PyData.depthAll, deps]
  | d :: ds => by
    have h1 := dep_toPy d
    have h2 := deps_toPy ds
    simp only [toPys, PyData.depthAll, deps]; omega
theorem depI : ∀ ns : List Int, PyData.depthAll (ns.map PyData.int) = 0
  | [] => by simp [PyData.depthAll]
  | n :: ns => by
    have := depI ns
    simp only [List.map_cons, PyData.depthAll, PyData.depth]; omega
end
theorem eqIs_left : ∀ (ns : List Int) (ds : List D), plains ds = true → eqIs ns ds = PyData.eqvAll (ns.map PyData.int) (toPys ds)
  | [], [], _ => by simp [eqIs, toPys, PyData.eqvAll]
  | [], _ :: _, _ => by simp [eqIs, toPys, PyData.eqvAll]
  | _ :: _, [], _ => by simp [eqIs, toPys, PyData.eqvAll]
  | n :: ns, d :: ds, h => by
    have h' : plain d = true ∧ plains ds = true := by simpa [plains] using h
    have ih := eqIs_left ns ds h'.2
    cases d <;> simp_all [eqIs, toPys, toPy, PyData.eqvAll, PyData.eqv, plain]
theorem eqIs_right : ∀ (ns : List Int) (ds : List D), plains ds = true → eqIs ns ds = PyData.eqvAll (toPys ds) (ns.map PyData.int)
  | [], [], _ => by simp [eqIs, toPys, PyData.eqvAll]
  | [], _ :: _, _ => by simp [eqIs, toPys, PyData.eqvAll]
  | _ :: _, [], _ => by simp [eqIs, toPys, PyData.eqvAll]
  | n :: ns, d :: ds, h => by
    have h' : plain d = true ∧ plains ds = true := by simpa [plains] using h
    have ih := eqIs_right ns ds h'.2
    cases d with
    | int i => simp only [eqIs, toPys, toPy, List.map_cons, PyData.eqvAll, PyData.eqv, ih]; rw [Bool.beq_comm]
    | bl b => simp only [eqIs, toPys, toPy, List.map_cons, PyData.eqvAll, PyData.eqv, ih]; rw [Bool.beq_comm]
    | _ => simp_all [eqIs, toPys, toPy, PyData.eqvAll, PyData.eqv, plain]
theorem eqII : ∀ ns ms : List Int, (ns == ms) = PyData.eqvAll (ns.map PyData.int) (ms.map PyData.int)
  | [], [] => by simp [PyData.eqvAll]
  | [], _ :: _ => by simp [PyData.eqvAll]
  | _ :: _, [] => by simp [PyData.eqvAll]
  | n :: ns, m :: ms => by
    simp only [List.map_cons, PyData.eqvAll, PyData.eqv, ← eqII ns ms]
    rfl
mutual
theorem eqD_py : ∀ d e : D, plain d = true → plain e = true → eqD d e = PyData.eqv (toPy d) (toPy e)
  | .non, e, _, h => by cases e <;> simp_all [eqD, toPy, PyData.eqv, plain]
  | .bl a, e, _, h => by cases e <;> simp_all [eqD, toPy, PyData.eqv, plain]
  | .int a, e, _, h => by cases e <;> simp_all [eqD, toPy, PyData.eqv, plain]
  | .str a, e, _, h => by cases e <;> simp_all [eqD, toPy, PyData.eqv, plain]
  | .tup xs, e, h1, h2 => by
    cases e with
    | tup ys => simp only [eqD, toPy, PyData.eqv]; exact eqDs_py xs ys (by simpa [plain] using h1) (by simpa [plain] using h2)
    | _ => simp_all [eqD, toPy, PyData.eqv, plain]
  | .lst xs, e, h1, h2 => by
    cases e with
    | lst ys => simp only [eqD, toPy, PyData.eqv]; exact eqDs_py xs ys (by simpa [plain] using h1) (by simpa [plain] using h2)
    | scr ns => simp only [eqD, toPy, PyData.eqv]; exact eqIs_right ns xs (by simpa [plain] using h1)
    | _ => simp_all [eqD, toPy, PyData.eqv, plain]
  | .scr ns, e, h1, h2 => by
    cases e with
    | lst ys => simp only [eqD, toPy, PyData.eqv]; exact eqIs_left ns ys (by simpa [plain] using h2)
    | scr ms => simp only [eqD, toPy, PyData.eqv]; exact eqII ns ms
    | _ => simp_all [eqD, toPy, PyData.eqv, plain]
  | .dct _, _, h, _ => by simp [plain] at h
  | .dck _, _, h, _ => by simp [plain] at h
  | .ldt _, _, h, _ => by simp [plain] at h
  | .fnv _, _, h, _ => by simp [plain] at h
  | .exc _, _, h, _ => by simp [plain] at h
  | .obj _ _ _, _, h, _ => by simp [plain] at h
theorem eqDs_py : ∀ ds es : List D, plains ds = true → plains es = true → eqDs ds es = PyData.eqvAll (toPys ds) (toPys es)
  | [], [], _, _ => by simp [eqDs, toPys, PyData.eqvAll]
  | [], _ :: _, _, _ => by simp [eqDs, toPys, PyData.eqvAll]
  | _ :: _, [], _, _ => by simp [eqDs, toPys, PyData.eqvAll]
  | d :: ds, e :: es, h1, h2 => by
    have h1' : plain d = true ∧ plains ds = true := by simpa [plains] using h1
    have h2' : plain e = true ∧ plains es = true := by simpa [plains] using h2
    simp only [eqDs, toPys, PyData.eqvAll]
    rw [eqD_py d e h1'.1 h2'.1, eqDs_py ds es h1'.2 h2'.2]
end
theorem dp_ints : ∀ ns : List Int, DpAll K H (ns.map V.int) (ns.map PyData.int)
  | [] => .nil
  | n :: ns => .cons (.int n) (dp_ints ns)
theorem Rep.dp {v : V} {d : D} (h : Rep K mg xc H v d) : plain d = true → Dp K H v (toPy d) := by
  refine Rep.rec (motive_1 := fun v d _ => plain d = true → Dp K H v (toPy d)) (motive_2 := fun vs ds _ => plains ds = true → DpAll K H vs (toPys ds)) (motive_3 := fun _ _ _ => True) (motive_4 := fun _ _ _ => True)
    (fun _ => .non) (fun b _ => .bl b) (fun i _ => .int i) (fun x _ => .str x) (fun h _ q p => .tup (.inl (.inl h)) (q (by simpa [plain] using p))) (fun h _ q p => .lst (.inl (.inl h)) (q (by simpa [plain] using p)))
    (fun _ _ _ p => by simp [plain] at p) (fun _ _ _ p => by simp [plain] at p) (fun _ _ _ p => by simp [plain] at p) (fun h p => .lst h (dp_ints _)) (fun _ p => by simp [plain] at p) (fun _ p => by simp [plain] at p) (fun _ _ _ _ _ _ p => by simp [plain] at p)
    (fun _ => .nil) (fun _ _ a b p => ?_) trivial (fun _ _ _ _ => trivial) trivial (fun _ _ _ _ => trivial) h
  rename_i v vs d ds _ _
  have p' : plain d = true ∧ plains ds = true := by simpa [plains] using p
  exact .cons (a p'.1) (b p'.2)
theorem Reps.dp : ∀ {vs : List V} {ds : List D}, Reps K mg xc H vs ds → plains ds = true → DpAll K H vs (toPys ds)
  | _, _, .nil, _ => .nil
  | _, _, .cons (d := d) (ds := ds) a b, p => by
    have p' : plain d = true ∧ plains ds = true := by simpa [plains] using p
    exact .cons (a.dp p'.1) (b.dp p'.2)
end
end LS

set_option Elab.async false
set_option linter.all false
set_option maxRecDepth 100000
set_option maxHeartbeats 4000000
/-! LS3: the slots' relation; what is new; the operators by data. -/
namespace LS
open PySem PySem.Spec PyProof.Rows L2

/-- from (F, H) to (F', H'): all that stood stands, what F' has more is new -/
structure Ext (F H F' H' : Hp) : Prop where
  f : Same F F'
  h : Same H H'
  s : Same F' H'
  n : ∀ a o, F' a = some o → F a = some o ∨ H a = none ∨ ∃ xs, o = .tup xs
theorem Ext.refl {F H : Hp} (s : Same F H) : Ext F H F H := ⟨Same.refl _, Same.refl _, s, fun _ _ e => .inl e⟩
theorem Ext.trans {F H F1 H1 F2 H2 : Hp} (a : Ext F H F1 H1) (b : Ext F1 H1 F2 H2) : Ext F H F2 H2 :=
  ⟨a.f.trans b.f, a.h.trans b.h, b.s, fun x o e => by
    rcases b.n x o e with q | q | q
    · exact a.n x o q
    · exact .inr (.inl (a.h.free q))
    · exact .inr (.inr q)⟩
/-- tuples that stand are kept -/
theorem Ext.tups {F H F1 H1 F2 : Hp} (x : Ext F H F1 H1) (f : Same F1 F2) (s : Same F2 H1) (n : ∀ a o, F2 a = some o → F1 a = some o ∨ ∃ xs, o = .tup xs) : Ext F H F2 H1 :=
  ⟨x.f.trans f, x.h, s, fun a o e => by
    rcases n a o e with q | q
    · exact x.n a o q
    · exact .inr (.inr q)⟩
theorem same_upd {H : Hp} {p : Addr} {o : HO} (h : H p = none) : Same H (upd H p o) := fun b x e => by
  rw [upd_ne (ne_of_none e h)]
  exact e
theorem Same.none {F H : Hp} (s : Same F H) {p : Addr} (h : H p = none) : F p = none := s.free h
/-- a new object that only H has -/
theorem Ext.newH {F H : Hp} {p : Addr} {o : HO} (s : Same F H) (h : H p = none) : Ext F H F (upd H p o) :=
  ⟨Same.refl _, same_upd h, s.trans (same_upd h), fun _ _ e => .inl e⟩
/-- a new object that both have -/
theorem Ext.newF {F H : Hp} {p : Addr} {o : HO} (s : Same F H) (h : H p = none) : Ext F H (upd F p o) (upd H p o) := by
  refine ⟨same_upd (s.free h), same_upd h, fun b x e => ?_, fun b x e => ?_⟩
  · by_cases q : b = p
    · subst q; rw [upd_same] at e ⊢; exact e
    · rw [upd_ne q] at e ⊢; exact s _ _ e
  · by_cases q : b = p
    · subst q; exact .inr (.inl h)
    · rw [upd_ne q] at e; exact .inl e

section
variable (K : PySem.W.Frag) (mg : Str → Option Value) (xc : V → Str → Prop)
/-- the list or dict at p, its items in F -/
def Own (F H : Hp) (p : Addr) : D → Prop
  | .lst ds => ∃ xs, H p = some (.lst xs) ∧ Reps K mg xc F xs ds
  | .dct es => ∃ kvs, H p = some (.dT kvs) ∧ KTs K mg xc F kvs es
  | .dck es => ∃ kvs, H p = some (.dK kvs) ∧ KIs K mg xc F kvs es
  | .obj c ns ds => ∃ C dx fs vs, H p = some (.ins C dx fs) ∧ mg c = some (.ref C) ∧ (∀ x v, fs.lookup x = some v → NoAttr K C x) ∧ ns.map (fun n => fs.lookup n) = vs.map some ∧ Reps K mg xc F vs ds
  | _ => False
def SlotOk (Hs F H : Hp) (σ : L2.St) (i : Nat) : SV → Prop
  | .un => True
  | .fz d => ∃ v, σ[i]? = some (some v) ∧ Rep K mg xc F v d
  | .ow d => ∃ p, σ[i]? = some (some (.ref p)) ∧ F p = none ∧ Hs p = none ∧ Own K mg xc F H p d
  | .bg o d => ∃ p, σ[i]? = some (some (.ref p)) ∧ (∀ q, o = some q → q = p) ∧ F p = none ∧ Own K mg xc F Hs p d
/-- H0: what was kept, what was there, when the def began -/
structure Rel (H0 : Hp × Hp) (F : Hp) (ρ : En) (σ : L2.St) (H : Hp) : Prop where
  base : Ext H0.1 H0.2 F H
  len : ρ.length = σ.length
  slot : ∀ i, SlotOk K mg xc H0.2 F H σ i (look ρ i)
  disj : ∀ i j d e p, i ≠ j → look ρ i = .ow d → look ρ j = .ow e → σ[i]? = some (some (.ref p)) → σ[j]? = some (some (.ref p)) → False
/-- a value: its top may be owned, what it holds is in F -/
def Vr (F H : Hp) (v : V) (d : D) : Prop := Rep K mg xc F v d ∨ ∃ p, v = .ref p ∧ Own K mg xc F H p d
def Vok (Hs F H : Hp) : Mk → V → D → Prop
  | .cl, v, d => Rep K mg xc F v d
  | .raw, v, d => ∃ p, v = .ref p ∧ Own K mg xc F H p d
  | .fr, v, d => ∃ p, v = .ref p ∧ F p = none ∧ Hs p = none ∧ Own K mg xc F H p d
end

section
variable {K : PySem.W.Frag} {mg : Str → Option Value} {xc : V → Str → Prop} {H0 : Hp × Hp} {F H F' H' Hs : Hp} {ρ : En} {σ : L2.St}
theorem Own.some {p : Addr} {d : D} (h : Own K mg xc F H p d) : ∃ o, H p = some o := by
  cases d with
  | lst ds => obtain ⟨_, e, _⟩ := h; exact ⟨_, e⟩
  | dct ds => obtain ⟨_, e, _⟩ := h; exact ⟨_, e⟩
  | dck ds => obtain ⟨_, e, _⟩ := h; exact ⟨_, e⟩
  | obj c ns ds => obtain ⟨C, dx, fs, vs, e, _⟩ := h; exact ⟨_, e⟩
  | _ => exact False.elim h
theorem Own.mono {p : Addr} {d : D} (h : Own K mg xc F H p d) (f : Same F F') (s : ∀ o, H p = .some o → H' p = .some o) : Own K mg xc F' H' p d := by
  cases d with
  | lst ds => obtain ⟨xs, e, r⟩ := h; exact ⟨xs, s _ e, r.mono f⟩
  | dct ds => obtain ⟨xs, e, r⟩ := h; exact ⟨xs, s _ e, r.mono f⟩
  | dck ds => obtain ⟨xs, e, r⟩ := h; exact ⟨xs, s _ e, r.mono f⟩
  | obj c ns ds => obtain ⟨C, dx, fs, vs, e, m, z, l, r⟩ := h; exact ⟨C, dx, fs, vs, s _ e, m, z, l, r.mono f⟩
  | _ => exact False.elim h
theorem Own.rep {p : Addr} {d : D} (s : Same F H) (h : Own K mg xc F H p d) : Rep K mg xc H (.ref p) d := by
  cases d with
  | lst ds => obtain ⟨xs, e, r⟩ := h; exact .lst e (r.mono s)
  | dct ds => obtain ⟨xs, e, r⟩ := h; exact .dct (.inl e) (r.mono s)
  | dck ds => obtain ⟨xs, e, r⟩ := h; exact .dck (.inl e) (r.mono s)
  | obj c ns ds => obtain ⟨C, dx, fs, vs, e, m, z, l, r⟩ := h; exact .obj m e z l (r.mono s)
  | _ => exact False.elim h
/-- the owned thing is frozen -/
theorem Own.freeze {p : Addr} {d : D} (h : Own K mg xc F H p d) (n : F p = none) : ∃ o, H p = .some o ∧ Rep K mg xc (upd F p o) (.ref p) d := by
  cases d with
  | lst ds => obtain ⟨xs, e, r⟩ := h; exact ⟨_, e, .lst upd_same (r.mono (same_upd n))⟩
  | dct ds => obtain ⟨xs, e, r⟩ := h; exact ⟨_, e, .dct (.inl upd_same) (r.mono (same_upd n))⟩
  | dck ds => obtain ⟨xs, e, r⟩ := h; exact ⟨_, e, .dck (.inl upd_same) (r.mono (same_upd n))⟩
  | obj c ns ds => obtain ⟨C, dx, fs, vs, e, m, z, l, r⟩ := h; exact ⟨_, e, .obj m upd_same z l (r.mono (same_upd n))⟩
  | _ => exact False.elim h
theorem Own.notTup {p : Addr} {d : D} {H2 : Hp} {us : List V} (h : Own K mg xc F H p d) (s : Same H H2) (e : H2 p = .some (.tup us)) : False := by
  cases d with
  | lst ds => obtain ⟨_, q, _⟩ := h; rw [s _ _ q] at e; cases e
  | dct ds => obtain ⟨_, q, _⟩ := h; rw [s _ _ q] at e; cases e
  | dck ds => obtain ⟨_, q, _⟩ := h; rw [s _ _ q] at e; cases e
  | obj c ns ds => obtain ⟨C, dx, fs, vs, q, _⟩ := h; rw [s _ _ q] at e; cases e
  | _ => exact h
theorem Vok.vr {m : Mk} {v : V} {d : D} (h : Vok K mg xc Hs F H m v d) : Vr K mg xc F H v d := by
  cases m with
  | cl => exact .inl h
  | raw => exact .inr h
  | fr => obtain ⟨p, e, _, _, q⟩ := h; exact .inr ⟨p, e, q⟩
theorem Vr.ext {v : V} {d : D} (h : Vr K mg xc F H v d) (x : Ext F H F' H') : Vr K mg xc F' H' v d := by
  rcases h with h | ⟨p, e, h⟩
  · exact .inl (h.mono x.f)
  · exact .inr ⟨p, e, h.mono x.f fun o q => x.h _ _ q⟩
theorem Vr.rep {v : V} {d : D} (s : Same F H) (h : Vr K mg xc F H v d) : Rep K mg xc H v d := by
  rcases h with h | ⟨p, rfl, h⟩
  · exact h.mono s
  · exact h.rep s
theorem Vok.start {m : Mk} {v : V} {d : D} {Ha Hb : Hp} (s : Same Ha Hb) (h : Vok K mg xc Hb F H m v d) : Vok K mg xc Ha F H m v d := by
  cases m with
  | cl => exact h
  | raw => exact h
  | fr => obtain ⟨p, e, n, q, w⟩ := h; exact ⟨p, e, n, s.free q, w⟩
/-- a value that is kept: a new list is frozen -/
theorem Vok.clean {Fs : Hp} {m : Mk} {v : V} {d : D} (x : Ext Fs Hs F H) (h : Vok K mg xc Hs F H m v d) (hm : m ≠ .raw) : ∃ F', Ext Fs Hs F' H ∧ Same F F' ∧ Rep K mg xc F' v d := by
  cases m with
  | cl => exact ⟨F, x, Same.refl _, h⟩
  | raw => exact absurd rfl hm
  | fr =>
    obtain ⟨p, rfl, n, q, w⟩ := h
    obtain ⟨o, e, r⟩ := w.freeze n
    refine ⟨_, ⟨x.f.trans (same_upd n), x.h, fun b u z => ?_, fun b u z => ?_⟩, same_upd n, r⟩
    · by_cases hb : b = p
      · subst hb; rw [upd_same] at z; cases z; exact e
      · rw [upd_ne hb] at z; exact x.s _ _ z
    · by_cases hb : b = p
      · subst hb; exact .inr (.inl q)
      · rw [upd_ne hb] at z; exact x.n _ _ z
theorem Vr.list {v : V} {ds : List D} (s : Same F H) (h : Vr K mg xc F H v (.lst ds)) : ∃ a xs, v = .ref a ∧ H a = some (.lst xs) ∧ Reps K mg xc F xs ds := by
  rcases h with h | ⟨p, rfl, h⟩
  · cases h with
    | lst e r => exact ⟨_, _, rfl, s _ _ e, r⟩
  · obtain ⟨xs, e, r⟩ := h
    exact ⟨p, xs, rfl, e, r⟩
theorem Vr.tuple {v : V} {ds : List D} (h : Vr K mg xc F H v (.tup ds)) : ∃ a xs, v = .ref a ∧ F a = some (.tup xs) ∧ Reps K mg xc F xs ds := by
  rcases h with h | ⟨p, rfl, h⟩
  · cases h with
    | tup e r => exact ⟨_, _, rfl, e, r⟩
  · exact False.elim h
theorem Vr.int {v : V} {i : Int} (h : Vr K mg xc F H v (.int i)) : v = .int i := by
  rcases h with h | ⟨p, rfl, h⟩
  · cases h; rfl
  · exact False.elim h
theorem Vr.str {v : V} {i : Str} (h : Vr K mg xc F H v (.str i)) : v = .str i := by
  rcases h with h | ⟨p, rfl, h⟩
  · cases h; rfl
  · exact False.elim h
theorem Vr.bl {v : V} {i : Bool} (h : Vr K mg xc F H v (.bl i)) : v = .bl i := by
  rcases h with h | ⟨p, rfl, h⟩
  · cases h; rfl
  · exact False.elim h
theorem Vr.non {v : V} (h : Vr K mg xc F H v .non) : v = .non := by
  rcases h with h | ⟨p, rfl, h⟩
  · cases h; rfl
  · exact False.elim h
theorem Vr.scr {v : V} {ns : List Int} (s : Same F H) (h : Vr K mg xc F H v (.scr ns)) : ∃ a, v = .ref a ∧ SqL K H a (ns.map V.int) := by
  rcases h with h | ⟨p, rfl, h⟩
  · cases h with
    | scr e => exact ⟨_, rfl, s.seq e⟩
  · exact False.elim h
theorem Vr.dct {v : V} {es : List (List Int × D)} (s : Same F H) (h : Vr K mg xc F H v (.dct es)) : ∃ a kvs, v = .ref a ∧ Rd H a (.dT kvs) ∧ KTs K mg xc F kvs es := by
  rcases h with h | ⟨p, rfl, h⟩
  · cases h with
    | dct e r => exact ⟨_, _, rfl, rd_mono s e, r⟩
  · obtain ⟨xs, e, r⟩ := h
    exact ⟨p, xs, rfl, .inl e, r⟩
theorem Vr.dck {v : V} {es : List (Int × D)} (s : Same F H) (h : Vr K mg xc F H v (.dck es)) : ∃ a kvs, v = .ref a ∧ Rd H a (.dK kvs) ∧ KIs K mg xc F kvs es := by
  rcases h with h | ⟨p, rfl, h⟩
  · cases h with
    | dck e r => exact ⟨_, _, rfl, rd_mono s e, r⟩
  · obtain ⟨xs, e, r⟩ := h
    exact ⟨p, xs, rfl, .inl e, r⟩

theorem Vr.ldt {v : V} {es : List (List Int × D)} (s : Same F H) (h : Vr K mg xc F H v (.ldt es)) : ∃ a o kvs, v = .ref a ∧ F a = some (.frz o (.dT kvs)) ∧ KTs K mg xc F kvs es := by
  rcases h with h | ⟨p, rfl, h⟩
  · cases h with
    | ldt e r => exact ⟨_, _, _, rfl, e, r⟩
  · exact False.elim h
theorem Ext.free {p : Addr} {d : D} (b : Ext F H F' H') (o : Own K mg xc Hs H p d) (n : F p = none) : F' p = none := by
  cases z : F' p with
  | none => rfl
  | some u =>
    obtain ⟨u', hu⟩ := o.some
    rcases b.n p u z with w | w | ⟨us, w⟩
    · rw [n] at w; cases w
    · rw [hu] at w; cases w
    · subst w
      exact (o.notTup b.h (b.s _ _ z)).elim
theorem Rel.ext (r : Rel K mg xc H0 F ρ σ H) (x : Ext F H F' H') : Rel K mg xc H0 F' ρ σ H' := by
  refine ⟨r.base.trans x, r.len, fun i => ?_, r.disj⟩
  have q := r.slot i
  cases e : look ρ i with
  | un => trivial
  | fz d => rw [e] at q; obtain ⟨v, h1, h2⟩ := q; exact ⟨v, h1, h2.mono x.f⟩
  | ow d =>
    rw [e] at q
    obtain ⟨p, h1, h2, h4, h3⟩ := q
    refine ⟨p, h1, ?_, h4, h3.mono x.f fun o z => x.h _ _ z⟩
    cases z : F' p with
    | none => rfl
    | some o =>
      rcases x.n p o z with w | w | ⟨us, w⟩
      · rw [h2] at w; cases w
      · obtain ⟨u, hu⟩ := h3.some
        rw [w] at hu; cases hu
      · subst w
        exact (h3.notTup x.h (x.s _ _ z)).elim
  | bg w d =>
    rw [e] at q
    obtain ⟨p, h1, hw, h2, h3⟩ := q
    refine ⟨p, h1, hw, ?_, h3.mono x.f fun o z => z⟩
    cases z : F' p with
    | none => rfl
    | some o =>
      obtain ⟨u, hu⟩ := h3.some
      rcases x.n p o z with w | w | ⟨us, w⟩
      · rw [h2] at w; cases w
      · rw [r.base.h _ _ hu] at w; cases w
      · subst w
        exact (h3.notTup (r.base.h.trans x.h) (x.s _ _ z)).elim
theorem Rel.sub (r : Rel K mg xc H0 F ρ σ H) : Same F H := r.base.s
theorem Rel.behind (r : Rel K mg xc H0 F ρ σ H) {i : Nat} {o : Option Nat} {d : D} (e : look ρ i = .bg o d) : ∃ p, σ[i]? = some (some (.ref p)) ∧ (∀ q, o = some q → q = p) ∧ F p = none ∧ Own K mg xc F H0.2 p d := by
  have q := r.slot i
  rw [e] at q
  exact q
/-- a slot's value -/
theorem Rel.var (r : Rel K mg xc H0 F ρ σ H) {i : Nat} {d : D} (e : look ρ i = .fz d) : ∃ v, σ[i]? = some (some v) ∧ Rep K mg xc F v d := by
  have q := r.slot i
  rw [e] at q
  exact q
theorem Rel.own (r : Rel K mg xc H0 F ρ σ H) {i : Nat} {d : D} (e : look ρ i = .ow d) : ∃ p, σ[i]? = some (some (.ref p)) ∧ F p = none ∧ H0.2 p = none ∧ Own K mg xc F H p d := by
  have q := r.slot i
  rw [e] at q
  exact q
end

theorem look_set_self : ∀ {ρ : En} {i : Nat} {s : SV}, i < ρ.length → look (ρ.set i s) i = s
  | [], _, _, h => by simp at h
  | _ :: _, 0, _, _ => rfl
  | _ :: r, n + 1, s, h => look_set_self (ρ := r) (i := n) (by simpa using h)
theorem look_set_ne : ∀ {ρ : En} {i j : Nat} {s : SV}, i ≠ j → look (ρ.set i s) j = look ρ j
  | [], _, _, _, _ => rfl
  | _ :: _, 0, 0, _, h => absurd rfl h
  | _ :: _, 0, _ + 1, _, _ => rfl
  | _ :: _, _ + 1, 0, _, _ => rfl
  | _ :: r, n + 1, m + 1, s, h => look_set_ne (ρ := r) (i := n) (j := m) (fun e => h (congrArg (· + 1) e))
theorem look_big : ∀ {ρ : En} {i : Nat}, ρ.length ≤ i → look ρ i = .un
  | [], _, _ => rfl
  | _ :: _, 0, h => by simp at h
  | _ :: r, n + 1, h => look_big (ρ := r) (i := n) (by simpa using h)

end LS

set_option Elab.async false
set_option linter.all false
set_option maxRecDepth 100000
set_option maxHeartbeats 1000000
/-! LS4: the operators by data. -/
namespace LS
open PySem PySem.Spec PyProof.Rows L2
/-- what an operation of two values gives, by data -/
def rB2 (K : PySem.W.Frag) (mg : Str → Option Value) (xc : V → Str → Prop) (f : D → D → Option Ro) : R2 := fun x y H Q => ∃ F d e m z, Same F H ∧ Vr K mg xc F H x d ∧ Vr K mg xc F H y e ∧ f d e = some (.v m z) ∧
  ∀ v F' H', Ext F H F' H' → Vok K mg xc H F' H' m v z → Q v H'
theorem le_line {n : Nat} (h : Nat.ble n LINE = true) : n ≤ sizeLine := by
  rw [sizeLine_eq]
  exact Nat.le_of_ble_eq_true h
def boOp : BO → Operator
  | .add => .Add
  | .sub => .Sub
  | .mul => .Mult
  | .fdiv => .FloorDiv
  | .mod => .Mod
  | .pow => .Pow
theorem str_rep (a : Str) (k : Int) (h : 0 ≤ k) : Txt.mul a k = ⟨(List.replicate k.toNat a.cps.toList).flatten.toArray⟩ := by
  have fl : ∀ (n : Nat) (acc : Array Nat), (List.replicate n a.cps).foldl (· ++ ·) acc = acc ++ (List.replicate n a.cps.toList).flatten.toArray := by
    intro n
    induction n with
    | zero => intro acc; simp
    | succ n ih => intro acc; rw [List.replicate_succ, List.foldl_cons, ih, List.replicate_succ, List.flatten_cons, Array.append_assoc, ← List.append_toArray]
  unfold Txt.mul
  split
  · have : k = 0 := by omega
    subst this
    rfl
  · split
    · rename_i h1 h2
      rw [Bool.or_eq_true] at h2
      rcases h2 with h2 | h2
      · have : k = 1 := by simpa using h2
        subst this
        cases a
        simp
      · have e : a.cps.size = 0 := by simpa [Str.length] using h2
        have e2 : a.cps.toList = [] := by
          have := Array.eq_empty_of_size_eq_zero e
          rw [this]
        cases a with
        | mk c =>
          have e3 : c = #[] := Array.eq_empty_of_size_eq_zero e
          subst e3
          simp
    · rw [fl]
      simp
section
variable {X : Cx} {xc : V → Str → Prop}
theorem fin_sc {F H : Hp} {Q : VK} {v : V} {z : D} (s : Same F H) (q : ∀ v F' H', Ext F H F' H' → Vok X.K X.mg xc H F' H' .cl v z → Q v H') (r : Rep X.K X.mg xc F v z) : Q v H := q v F H (.refl s) r
theorem mulOk_str {a : Str} {k : Int} (h1 : 0 ≤ k) (h2 : k < 1000) (h4 : a.length * k.toNat ≤ 16777216) : MulOk a k := by
  refine ⟨?_, fun h5 h6 => ?_, fun h5 h6 => ?_⟩
  · rw [decide_eq_false (by omega), decide_eq_false (by omega)]; rfl
  · have hk : k.toNat ≥ 1 := by omega
    have ha : (a.length : Int) ≤ 16777216 := by
      have : a.length * 1 ≤ a.length * k.toNat := Nat.mul_le_mul_left _ hk
      omega
    have hq : (9000000000000000 : Int) ≤ (2 ^ 63 - 1) / k := by
      apply Int.le_ediv_of_mul_le (by omega)
      have : (9000000000000000 : Int) * k ≤ 9000000000000000 * 1000 := Int.mul_le_mul_of_nonneg_left (by omega) (by omega)
      omega
    omega
  · refine decide_eq_false ?_
    rw [sizeLine_eq]
    omega
theorem bop_ok (o : BO) : OpR X (binaryOp (boOp o)) (rB2 X.K X.mg xc (bop o)) := by
  intro pins s σ H x y v u Q I rx ry h
  obtain ⟨F, d, e, m, z, sF, hx, hy, hf, q⟩ := h
  unfold bop at hf
  split at hf
  · rename_i i j
    obtain rfl := hx.int; obtain rfl := hy.int
    cases hf
    exact op_add pins s σ H _ _ v u Q I rx ry ⟨i, j, rfl, rfl, fin_sc sF q (.int _)⟩
  · rename_i a b
    obtain rfl := hx.str; obtain rfl := hy.str
    split at hf
    · rename_i hz
      cases hf
      exact op_add_str pins s σ H _ _ v u Q I rx ry ⟨a, b, rfl, rfl, le_line hz, fin_sc sF q (.str _)⟩
    · cases hf
  · rename_i xs ys
    obtain ⟨a, vs, rfl, h1, r1⟩ := hx.tuple
    obtain ⟨b, ws, rfl, h2, r2⟩ := hy.tuple
    split at hf
    · rename_i hz
      cases hf
      have hl : vs.length + ws.length ≤ sizeLine := by rw [r1.length, r2.length]; exact le_line hz
      refine op_catA pins s σ H _ _ v u Q I rx ry ⟨a, b, vs, ws, rfl, rfl, .of (sF _ _ h1), .of (sF _ _ h2), hl, fun e => ?_, fun _ e => ?_, fun _ _ p hp => ?_⟩
      · subst e
        cases r1
        exact fin_sc sF q (.tup h2 r2)
      · subst e
        cases r2
        exact fin_sc sF q (.tup h1 (by rw [List.append_nil]; exact r1))
      · exact q _ _ _ (.newF sF hp) (.tup upd_same ((r1.append r2).mono (same_upd (sF.free hp))))
    · cases hf
  · rename_i xs ys
    obtain ⟨a, vs, rfl, h1, r1⟩ := hx.list sF
    obtain ⟨b, ws, rfl, h2, r2⟩ := hy.list sF
    split at hf
    · rename_i hz
      cases hf
      refine op_cat pins s σ H _ _ v u Q I rx ry ⟨a, b, vs, ws, rfl, rfl, h1, h2, by rw [r1.length, r2.length]; exact le_line hz, fun p hp => ?_⟩
      exact q _ _ _ (.newH sF hp) ⟨p, rfl, sF.free hp, hp, _, upd_same, r1.append r2⟩
    · cases hf
  · rename_i i j
    obtain rfl := hx.int; obtain rfl := hy.int
    cases hf
    exact op_sub pins s σ H _ _ v u Q I rx ry ⟨i, j, rfl, rfl, fin_sc sF q (.int _)⟩
  · rename_i i j
    obtain rfl := hx.int; obtain rfl := hy.int
    split at hf
    · rename_i hz
      cases hf
      refine op_mul pins s σ H _ _ v u Q I rx ry ⟨i, j, rfl, rfl, ?_, fin_sc sF q (.int _)⟩
      simp only [mulOk, Bool.or_eq_true, Bool.and_eq_true, decide_eq_true_eq] at hz
      exact hz
    · cases hf
  · rename_i xs k
    obtain ⟨a, vs, rfl, h1, r1⟩ := hx.tuple
    obtain rfl := hy.int
    split at hf
    · rename_i hz
      cases hf
      simp only [Bool.and_eq_true, decide_eq_true_eq, Bool.not_eq_true'] at hz
      obtain ⟨⟨⟨h2, h3⟩, h4⟩, h5⟩ := hz
      have h4' := Nat.le_of_ble_eq_true h4
      refine op_repT pins s σ H _ _ v u Q I rx ry ⟨a, k, vs, rfl, rfl, .of (sF _ _ h1), fun e => ?_, h2, h3, by rw [r1.length]; exact h4', fun p hp => ?_⟩
      · subst e
        cases r1
        cases h5
      · exact q _ _ _ (.newF sF hp) (.tup upd_same ((r1.rep _).mono (same_upd (sF.free hp))))
    · cases hf
  · rename_i xs k
    obtain ⟨a, vs, rfl, h1, r1⟩ := hx.list sF
    obtain rfl := hy.int
    split at hf
    · rename_i hz
      cases hf
      simp only [Bool.and_eq_true, decide_eq_true_eq] at hz
      obtain ⟨⟨h2, h3⟩, h4⟩ := hz
      refine op_rep pins s σ H _ _ v u Q I rx ry ⟨a, k, vs, rfl, rfl, h1, by omega, by omega, by rw [r1.length]; exact le_line h4, fun p hp => ?_⟩
      exact q _ _ _ (.newH sF hp) ⟨p, rfl, sF.free hp, hp, _, upd_same, r1.rep _⟩
    · cases hf
  · rename_i a k
    obtain rfl := hx.str; obtain rfl := hy.int
    split at hf
    · rename_i hz
      cases hf
      obtain ⟨t, rfl⟩ := rx
      obtain ⟨t', rfl⟩ := ry
      simp only [Bool.and_eq_true, decide_eq_true_eq] at hz
      obtain ⟨⟨h1, h2⟩, h3⟩ := hz
      have h4 : a.length * k.toNat ≤ 16777216 := Nat.le_of_ble_eq_true h3
      refine SB.mul (mulOk_str h1 h2 h4) fun t' kk => ⟨.str _, H, I.tok _, ⟨_, rfl⟩, ?_⟩
      rw [str_rep a k h1]
      exact fin_sc sF q (.str _)
    · cases hf
  · rename_i i j
    obtain rfl := hx.int; obtain rfl := hy.int
    split at hf
    · rename_i hz
      cases hf
      simp only [Bool.and_eq_true, decide_eq_true_eq] at hz
      exact op_fdivW pins s σ H _ _ v u Q I rx ry ⟨i, j, rfl, rfl, wide_div (b := 64) hz.1 (by omega) (by decide) (by decide), fin_sc sF q (.int _)⟩
    · cases hf
  · rename_i i j
    obtain rfl := hx.int; obtain rfl := hy.int
    split at hf
    · rename_i hz
      cases hf
      exact op_mod pins s σ H _ _ v u Q I rx ry ⟨i, j, rfl, rfl, of_decide_eq_true hz, fin_sc sF q (.int _)⟩
    · cases hf
  · rename_i i j
    obtain rfl := hx.int; obtain rfl := hy.int
    split at hf
    · rename_i hz
      cases hf
      simp only [Bool.and_eq_true, decide_eq_true_eq] at hz
      obtain ⟨⟨⟨h1, h2⟩, h3⟩, h4⟩ := hz
      exact op_pow pins s σ H _ _ v u Q I rx ry ⟨i, j, rfl, rfl, ⟨h1, by omega, by omega⟩, fin_sc sF q (.int _)⟩
    · cases hf
  · cases hf
end
end LS

set_option Elab.async false
set_option linter.all false
set_option maxRecDepth 100000
set_option maxHeartbeats 1000000
/-! LS5: comparisons by data. -/
namespace LS
open PySem PySem.Spec PyProof.Rows L2
/-! ### the order of tuples of ints that may end in a tuple of ints -/
theorem ltO_some {a b : Option (Nat × List Int)} {c : Bool} (h : ltO a b = some c) : ∃ k j, a = some k ∧ b = some j ∧ k.1 = j.1 ∧ c = !leT j.2 k.2 := by
  unfold ltO at h
  split at h
  · rename_i k j
    split at h
    · rename_i e; cases h; exact ⟨k, j, rfl, rfl, e, rfl⟩
    · cases h
  · cases h
theorem toPys_ints : ∀ {ds : List D} {ns : List Int}, intsD ds = some ns → toPys ds = ns.map .int ∧ plains ds = true ∧ deps ds = 0
  | [], _, h => by cases h; exact ⟨by simp [toPys], by simp [plains], by simp [deps]⟩
  | d :: ds, ns, h => by
    cases d with
    | int i =>
      have h' : (intsD ds).map (i :: ·) = some ns := h
      cases q : intsD ds with
      | none => rw [q] at h'; cases h'
      | some ms =>
        rw [q] at h'
        cases h'
        obtain ⟨a, b, c⟩ := toPys_ints q
        exact ⟨by simp [toPys, toPy, a], by simp [plains, plain, b], by simp [deps, dep, c]⟩
    | _ => cases h
theorem figD_int {i : Int} {r : List D} {k : Nat × List Int} (h : figD (.int i :: r) = some k) : ∃ p, figD r = some p ∧ k = (if p.1 = 0 then 0 else p.1 + 1, i :: p.2) := by
  have h' : ((figD r).map fun p => (if p.1 = 0 then 0 else p.1 + 1, i :: p.2)) = some k := by rw [← h, figD]
  cases q : figD r with
  | none => rw [q] at h'; cases h'
  | some p => rw [q] at h'; exact ⟨p, rfl, (Option.some.inj h').symm⟩
theorem figD_tup {ys : List D} {r : List D} {k : Nat × List Int} (h : figD (.tup ys :: r) = some k) : r = [] ∧ ∃ ns, intsD ys = some ns ∧ k = (1, ns) := by
  cases r with
  | cons _ _ => simp [figD] at h
  | nil =>
    have h' : ((intsD ys).map fun ns => (1, ns)) = some k := by rw [← h, figD]
    cases q : intsD ys with
    | none => rw [q] at h'; cases h'
    | some p => rw [q] at h'; exact ⟨rfl, p, rfl, (Option.some.inj h').symm⟩
theorem figD_cases {ds : List D} {k : Nat × List Int} (h : figD ds = some k) : (ds = [] ∧ k = (0, [])) ∨ (∃ ys ns, ds = [.tup ys] ∧ intsD ys = some ns ∧ k = (1, ns)) ∨ ∃ i r p, ds = .int i :: r ∧ figD r = some p ∧ k = (if p.1 = 0 then 0 else p.1 + 1, i :: p.2) := by
  cases ds with
  | nil => exact .inl ⟨rfl, by simpa [figD] using h.symm⟩
  | cons d r =>
    cases d with
    | int i => obtain ⟨p, h1, h2⟩ := figD_int h; exact .inr (.inr ⟨i, r, p, rfl, h1, h2⟩)
    | tup ys => obtain ⟨rfl, ns, h1, h2⟩ := figD_tup h; exact .inr (.inl ⟨ys, ns, rfl, h1, h2⟩)
    | _ => cases r <;> simp [figD] at h
theorem figs_plain : ∀ {ds : List D} {k : Nat × List Int}, figD ds = some k → plains ds = true ∧ deps ds ≤ 1
  | ds, k, h => by
    rcases figD_cases h with ⟨rfl, _⟩ | ⟨ys, ns, rfl, e, _⟩ | ⟨i, r, p, rfl, e, _⟩
    · exact ⟨by simp [plains], by simp [deps]⟩
    · obtain ⟨_, b, c⟩ := toPys_ints e
      exact ⟨by simp [plains, plain, b], by simp [deps, dep, c]⟩
    · obtain ⟨a, b⟩ := figs_plain e
      exact ⟨by simp [plains, plain, a], by simp [deps, dep]; exact b⟩
termination_by ds => ds.length
theorem fig_plain {ds : List D} {k : Nat × List Int} (h : figD ds = some k) : plain (.tup ds) = true := by simp [plain, (figs_plain h).1]
theorem fig_dep {ds : List D} {k : Nat × List Int} (h : figD ds = some k) : dep (.tup ds) ≤ 2 := by
  have := (figs_plain h).2
  simp only [dep]; omega
theorem alike_ints : ∀ ns ms : List Int, PySem.W.alikeAll (ns.map .int) (ms.map .int) = true
  | [], _ => by simp [PySem.W.alikeAll]
  | _ :: _, [] => by simp [PySem.W.alikeAll]
  | n :: ns, m :: ms => by
    simp only [List.map_cons, PySem.W.alikeAll, PySem.W.alike, Bool.true_and]
    exact alike_ints ns ms
theorem mark_ne {p : Nat × List Int} {i : Int} : ((if p.1 = 0 then 0 else p.1 + 1, i :: p.2) : Nat × List Int).1 ≠ 1 := by
  show (if p.1 = 0 then 0 else p.1 + 1) ≠ 1
  split <;> omega
theorem mark_eq {p q : Nat} (h : (if p = 0 then 0 else p + 1) = if q = 0 then 0 else q + 1) : p = q := by
  split at h <;> split at h <;> omega
theorem figs_alike : ∀ {xs ys : List D} {k j : Nat × List Int}, figD xs = some k → figD ys = some j → k.1 = j.1 → PySem.W.alikeAll (toPys xs) (toPys ys) = true
  | xs, ys, k, j, h1, h2, e => by
    rcases figD_cases h1 with ⟨rfl, _⟩ | ⟨us, ns, rfl, e1, rfl⟩ | ⟨i, r, p, rfl, e1, rfl⟩
    · simp [toPys, PySem.W.alikeAll]
    · rcases figD_cases h2 with ⟨rfl, rfl⟩ | ⟨ws, ms, rfl, e2, rfl⟩ | ⟨i', r', p', rfl, e2, rfl⟩
      · cases e
      · simp only [toPys, toPy, PySem.W.alikeAll, PySem.W.alike, Bool.and_true]
        rw [(toPys_ints e1).1, (toPys_ints e2).1]
        exact alike_ints _ _
      · exact absurd e.symm mark_ne
    · rcases figD_cases h2 with ⟨rfl, rfl⟩ | ⟨ws, ms, rfl, e2, rfl⟩ | ⟨i', r', p', rfl, e2, rfl⟩
      · simp [toPys, PySem.W.alikeAll]
      · exact absurd e mark_ne
      · simp only [toPys, toPy, PySem.W.alikeAll, PySem.W.alike, Bool.true_and]
        exact figs_alike e1 e2 (mark_eq e)
termination_by xs => xs.length
theorem fig_alike {xs ys : List D} {k j : Nat × List Int} (h1 : figD xs = some k) (h2 : figD ys = some j) (e : k.1 = j.1) : PySem.W.alike (toPy (.tup xs)) (toPy (.tup ys)) = true := by
  simp only [toPy, PySem.W.alike]
  exact figs_alike h1 h2 e
theorem leT_self : ∀ a : List Int, leT a a = true
  | [] => rfl
  | x :: a => by simp [leT, leT_self a]
theorem tok_ints (a : List (Int ⊕ List Nat)) : ∀ ns ms : List Int, PyProof.Rows.lexLt itemOrd (PySem.W.keyToksAll (ns.map .int) ++ a) (PySem.W.keyToksAll (ms.map .int) ++ a) = !leT ms ns
  | [], [] => by rw [PyProof.Rows.lex_irrefl]; rfl
  | [], m :: ms => by
    simp only [List.map_nil, List.map_cons, PySem.W.keyToksAll, List.cons_append, List.nil_append]
    rw [PyProof.Rows.lex_diff (O := itemOrd) (by simp)]
    rfl
  | n :: ns, [] => by
    simp only [List.map_nil, List.map_cons, PySem.W.keyToksAll, List.cons_append, List.nil_append]
    rw [PyProof.Rows.lex_diff (O := itemOrd) (by simp)]
    rfl
  | n :: ns, m :: ms => by
    simp only [List.map_cons, PySem.W.keyToksAll, PySem.W.keyToks, List.cons_append, List.nil_append]
    rw [PyProof.Rows.lex_self (O := itemOrd)]
    by_cases e : n = m
    · subst e
      rw [PyProof.Rows.lex_self (O := itemOrd), tok_ints a ns ms]
      simp [leT]
    · rw [PyProof.Rows.lex_diff (O := itemOrd) (by simpa using e)]
      show decide (n < m) = !(if m = n then leT ms ns else decide (m < n))
      rw [if_neg (fun z => e z.symm), ← decide_not]
      exact decide_eq_decide.mpr (by omega)
theorem figs_lt : ∀ {xs ys : List D} {k j : Nat × List Int}, figD xs = some k → figD ys = some j → k.1 = j.1 → PyProof.Rows.lexLt itemOrd (PySem.W.keyToksAll (toPys xs)) (PySem.W.keyToksAll (toPys ys)) = !leT j.2 k.2
  | xs, ys, k, j, h1, h2, e => by
    rcases figD_cases h1 with ⟨rfl, rfl⟩ | ⟨us, ns, rfl, e1, rfl⟩ | ⟨i, r, p, rfl, e1, rfl⟩
    · rcases figD_cases h2 with ⟨rfl, rfl⟩ | ⟨ws, ms, rfl, e2, rfl⟩ | ⟨i', r', p', rfl, e2, rfl⟩
      · rw [PyProof.Rows.lex_irrefl]; rfl
      · cases e
      · simp only [toPys, toPy, PySem.W.keyToksAll]
        rw [PyProof.Rows.lex_diff (O := itemOrd) (by simp)]
        rfl
    · rcases figD_cases h2 with ⟨rfl, rfl⟩ | ⟨ws, ms, rfl, e2, rfl⟩ | ⟨i', r', p', rfl, e2, rfl⟩
      · cases e
      · simp only [toPys, toPy, PySem.W.keyToksAll, PySem.W.keyToks]
        rw [PyProof.Rows.lex_self (O := itemOrd), (toPys_ints e1).1, (toPys_ints e2).1]
        exact tok_ints _ ns ms
      · exact absurd e.symm mark_ne
    · rcases figD_cases h2 with ⟨rfl, rfl⟩ | ⟨ws, ms, rfl, e2, rfl⟩ | ⟨i', r', p', rfl, e2, rfl⟩
      · simp only [toPys, toPy, PySem.W.keyToksAll]
        rw [PyProof.Rows.lex_diff (O := itemOrd) (by simp)]
        rfl
      · exact absurd e mark_ne
      · simp only [toPys, toPy, PySem.W.keyToksAll, PySem.W.keyToks, List.cons_append, List.nil_append]
        rw [PyProof.Rows.lex_self (O := itemOrd)]
        show _ = !(if i' = i then leT p'.2 p.2 else decide (i' < i))
        by_cases q : i = i'
        · subst q
          rw [PyProof.Rows.lex_self (O := itemOrd), figs_lt e1 e2 (mark_eq e), if_pos rfl]
        · rw [PyProof.Rows.lex_diff (O := itemOrd) (by simpa using q), if_neg (fun z => q z.symm), ← decide_not]
          exact decide_eq_decide.mpr (by omega)
termination_by xs => xs.length
theorem fig_lt {xs ys : List D} {k j : Nat × List Int} (h1 : figD xs = some k) (h2 : figD ys = some j) (e : k.1 = j.1) : PySem.W.dataLt (toPy (.tup xs)) (toPy (.tup ys)) = !leT j.2 k.2 := by
  simp only [toPy]
  rw [PySem.W.dataLt_tuple]
  exact figs_lt h1 h2 e
def coOp : CO → CmpOp
  | .eq => .Eq
  | .ne => .NotEq
  | .lt => .Lt
  | .le => .LtE
  | .gt => .Gt
  | .ge => .GtE
  | .is => .Is
  | .isn => .IsNot
  | .inn => .In
  | .nin => .NotIn
def rC2 (K : PySem.W.Frag) (mg : Str → Option Value) (xc : V → Str → Prop) (f : D → D → Option Bool) : R2 := fun x y H Q => ∃ F d e b, Same F H ∧ Vr K mg xc F H x d ∧ Vr K mg xc F H y e ∧ f d e = some b ∧ Q (.bl b) H
section
variable {K : PySem.W.Frag} {mg : Str → Option Value} {xc : V → Str → Prop} {H F : Hp}
theorem map_inl {ks ns : List Int} : (ks.map Sum.inl : List Key) = ns.map Sum.inl ↔ ks = ns := by
  constructor
  · intro h
    induction ks generalizing ns with
    | nil => cases ns with
      | nil => rfl
      | cons n r => simp at h
    | cons k r ih => cases ns with
      | nil => simp at h
      | cons n r' =>
        simp only [List.map_cons, List.cons.injEq, Sum.inl.injEq] at h
        rw [h.1, ih h.2]
  · rintro rfl; rfl
theorem KTs.val : ∀ {kvs : List (List Key × V)} {es : List (List Int × D)} (ns : List Int), KTs K mg xc H kvs es →
    match lookT ns es with
    | some d => ∃ v, valV kvs (ns.map Sum.inl) = some v ∧ Rep K mg xc H v d
    | none => valV kvs (ns.map Sum.inl) = none
  | _, _, ns, .nil => rfl
  | _, _, ns, .cons (ks := ks) (v := v) (d := d) (r := r) (s := s) a b => by
    have ih := KTs.val ns b
    unfold lookT
    by_cases e : ks = ns
    · rw [if_pos e]
      exact ⟨v, valV_pos (by subst e; rfl), a⟩
    · rw [if_neg e, valV_neg (fun q => e (map_inl.mp q))]
      exact ih
theorem KIs.val : ∀ {kvs : List (Key × V)} {es : List (Int × D)} (k : Int), KIs K mg xc H kvs es →
    match lookI k es with
    | some d => ∃ v, valV kvs (Sum.inl k) = some v ∧ Rep K mg xc H v d
    | none => valV kvs (Sum.inl k) = none
  | _, _, ns, .nil => rfl
  | _, _, ns, .cons (k := k) (v := v) (d := d) (r := r) (s := s) a b => by
    have ih := KIs.val ns b
    unfold lookI
    by_cases e : k = ns
    · rw [if_pos e]
      exact ⟨v, valV_pos (by subst e; rfl), a⟩
    · rw [if_neg e, valV_neg (fun q => e (Sum.inl.inj q))]
      exact ih
theorem KTs.isSome {kvs : List (List Key × V)} {es : List (List Int × D)} (ns : List Int) (h : KTs K mg xc H kvs es) : (valV kvs (ns.map Sum.inl)).isSome = (lookT ns es).isSome := by
  have q := h.val ns
  cases e : lookT ns es with
  | none => rw [e] at q; rw [q]; rfl
  | some d => rw [e] at q; obtain ⟨v, q, _⟩ := q; rw [q]; rfl
theorem KIs.isSome {kvs : List (Key × V)} {es : List (Int × D)} (ns : Int) (h : KIs K mg xc H kvs es) : (valV kvs (Sum.inl ns)).isSome = (lookI ns es).isSome := by
  have q := h.val ns
  cases e : lookI ns es with
  | none => rw [e] at q; rw [q]; rfl
  | some d => rw [e] at q; obtain ⟨v, q, _⟩ := q; rw [q]; rfl
theorem kv_ints (ns : List Int) : (ns.map (Sum.inl : Int → Key)).map kV = ns.map V.int := by
  rw [List.map_map]; rfl
theorem keyT {x : V} {ks : List D} {ns : List Int} (s : Same F H) (h : Vr K mg xc F H x (.tup ks)) (e : intsD ks = some ns) : ∃ b, x = .ref b ∧ H b = some (.tup ((ns.map (Sum.inl : Int → Key)).map kV)) := by
  obtain ⟨a, xs, rfl, h1, r⟩ := h.tuple
  refine ⟨a, rfl, ?_⟩
  rw [kv_ints, ← r.ints e]
  exact s _ _ h1
theorem dget_t {x y : V} {ks : List D} {ns : List Int} {es : List (List Int × D)} (s : Same F H) (hx : Vr K mg xc F H x (.tup ks)) (e : intsD ks = some ns) (hy : Vr K mg xc F H y (.dct es)) :
    ∃ a kvs, y = .ref a ∧ DGet H a x (valV kvs (ns.map Sum.inl)) ∧ KTs K mg xc F kvs es := by
  obtain ⟨b, rfl, hb⟩ := keyT s hx e
  obtain ⟨a, kvs, rfl, hr, k⟩ := hy.dct s
  exact ⟨a, kvs, rfl, .inr ⟨kvs, _, b, hr, rfl, hb, rfl⟩, k⟩
theorem dget_l {x y : V} {ks : List D} {ns : List Int} {es : List (List Int × D)} (s : Same F H) (hx : Vr K mg xc F H x (.tup ks)) (e : intsD ks = some ns) (hy : Vr K mg xc F H y (.ldt es)) :
    ∃ a kvs, y = .ref a ∧ DGet H a x (valV kvs (ns.map Sum.inl)) ∧ KTs K mg xc F kvs es := by
  obtain ⟨b, rfl, hb⟩ := keyT s hx e
  obtain ⟨a, o, kvs, rfl, hr, k⟩ := hy.ldt s
  exact ⟨a, kvs, rfl, .inr ⟨kvs, _, b, .inr ⟨o, s _ _ hr⟩, rfl, hb, rfl⟩, k⟩
theorem dget_k {x y : V} {k : Int} {es : List (Int × D)} (s : Same F H) (hx : Vr K mg xc F H x (.int k)) (hy : Vr K mg xc F H y (.dck es)) :
    ∃ a kvs, y = .ref a ∧ DGet H a x (valV kvs (Sum.inl k)) ∧ KIs K mg xc F kvs es := by
  obtain rfl := hx.int
  obtain ⟨a, kvs, rfl, hr, q⟩ := hy.dck s
  exact ⟨a, kvs, rfl, .inl ⟨kvs, Sum.inl k, hr, rfl, rfl⟩, q⟩
theorem any_py (d : D) (hd : plain d = true) : ∀ ds : List D, plains ds = true → ((toPys ds).any fun z => PyData.eqv z (toPy d)) = inD d ds
  | [], _ => rfl
  | e :: es, h => by
    have h' : plain e = true ∧ plains es = true := by simpa [plains] using h
    have ih := any_py d hd es h'.2
    simp only [toPys, List.any_cons, inD] at ih ⊢
    rw [ih, eqD_py e d h'.1 hd]
theorem isNon_iff {v : V} {d : D} (h : Rep K mg xc H v d) (hx : ∀ c, d ≠ .exc c) : decide (v = .non) = isNon d := by
  cases h with
  | exc _ => exact absurd rfl (hx _)
  | _ => simp [isNon]
end
section
variable {X : Cx} {xc : V → Str → Prop}
theorem eqOk_room {A : Around} {d e : D} (h : eqOk d e = true) (hu : A.units + 65 < cLine) : plain d = true ∧ plain e = true ∧ A.units + min (toPy d).depth (toPy e).depth < cLine := by
  unfold eqOk at h
  simp only [Bool.and_eq_true, Bool.or_eq_true] at h
  obtain ⟨⟨h1, h2⟩, h3⟩ := h
  refine ⟨h1, h2, ?_⟩
  have a := dep_toPy d
  have b := dep_toPy e
  rcases h3 with h3 | h3
  · have := Nat.le_of_ble_eq_true h3; omega
  · have := Nat.le_of_ble_eq_true h3; omega
theorem cop_ok (o : CO) (hu : X.A.units + 65 < cLine) : OpR X (compareOp (coOp o)) (rC2 X.K X.mg xc (cop o)) := by
  intro pins s σ H x y v u Q I rx ry h
  obtain ⟨F, d, e, b, sF, hx, hy, hf, q⟩ := h
  unfold cop at hf
  split at hf
  · split at hf
    · rename_i hz
      cases hf
      obtain ⟨p1, p2, hr⟩ := eqOk_room hz hu
      obtain ⟨as, r1⟩ := Dp.reads I (toPy _) x v ((hx.rep sF).dp p1) rx
      obtain ⟨bs, r2⟩ := Dp.reads I (toPy _) y u ((hy.rep sF).dp p2) ry
      exact SeqAt.compareEq_reads r1 r2 (canLay _ p1) (canLay _ p2) hr ⟨.bl _, H, I, rfl, by rw [← eqD_py _ _ p1 p2]; exact q⟩
    · cases hf
  · split at hf
    · rename_i hz
      cases hf
      obtain ⟨p1, p2, hr⟩ := eqOk_room hz hu
      obtain ⟨as, r1⟩ := Dp.reads I (toPy _) x v ((hx.rep sF).dp p1) rx
      obtain ⟨bs, r2⟩ := Dp.reads I (toPy _) y u ((hy.rep sF).dp p2) ry
      exact SeqAt.compareNe_reads r1 r2 (canLay _ p1) (canLay _ p2) hr ⟨.bl _, H, I, rfl, by rw [← eqD_py _ _ p1 p2]; exact q⟩
    · cases hf
  · obtain rfl := hx.int; obtain rfl := hy.int
    cases hf
    exact op_lt pins s σ H _ _ v u Q I rx ry ⟨_, _, rfl, rfl, q⟩
  · rename_i xs ys
    obtain ⟨k, j, e1, e2, e3, rfl⟩ := ltO_some hf
    obtain ⟨as, r1⟩ := Dp.reads I (toPy _) x v ((hx.rep sF).dp (fig_plain e1)) rx
    obtain ⟨bs, r2⟩ := Dp.reads I (toPy _) y u ((hy.rep sF).dp (fig_plain e2)) ry
    refine PySem.W.rcLt_alike _ _ X.A s v u as bs r1 r2 (fig_alike e1 e2 e3) (by simp [toPy]) ?_ _ _ _ _ ⟨.bl _, H, I, rfl, ?_⟩
    · have a := fig_dep e1
      have b := dep_toPy (.tup xs)
      omega
    · rw [fig_lt e1 e2 e3]; exact q
  · obtain rfl := hx.int; obtain rfl := hy.int
    cases hf
    exact op_le pins s σ H _ _ v u Q I rx ry ⟨_, _, rfl, rfl, q⟩
  · obtain rfl := hx.int; obtain rfl := hy.int
    cases hf
    exact op_gt pins s σ H _ _ v u Q I rx ry ⟨_, _, rfl, rfl, q⟩
  · obtain rfl := hx.int; obtain rfl := hy.int
    cases hf
    exact op_ge pins s σ H _ _ v u Q I rx ry ⟨_, _, rfl, rfl, q⟩
  · have hn := isNon_iff (hx.rep sF)
    obtain rfl := hy.non
    split at hf
    · cases hf
    · rename_i hne
      cases hf
      exact op_isN pins s σ H _ _ v u Q I rx ry ⟨rfl, by rw [hn hne]; exact q⟩
  · have hn := isNon_iff (hx.rep sF)
    obtain rfl := hy.non
    split at hf
    · cases hf
    · rename_i hne
      cases hf
      exact op_notN pins s σ H _ _ v u Q I rx ry ⟨rfl, by rw [hn hne]; exact q⟩
  · rename_i a b
    obtain rfl := hx.bl; obtain rfl := hy.bl
    cases hf
    exact op_isBl pins s σ H _ _ v u Q I rx ry ⟨_, _, rfl, rfl, by rw [← Bool.beq_eq_decide_eq]; exact q⟩
  · rename_i a b
    obtain rfl := hx.bl; obtain rfl := hy.bl
    cases hf
    exact op_notBl pins s σ H _ _ v u Q I rx ry ⟨_, _, rfl, rfl, by rw [← Bool.beq_eq_decide_eq]; exact q⟩
  · split at hf
    · rename_i hz
      cases hf
      simp only [Bool.and_eq_true] at hz
      obtain ⟨⟨p1, p2⟩, p3⟩ := hz
      obtain ⟨as, r1⟩ := Dp.reads I (toPy _) x v ((hx.rep sF).dp p1) rx
      obtain ⟨bs, r2⟩ := Dp.reads I (toPy _) y u ((hy.rep sF).dp (by simpa [plain] using p2)) ry
      have := dep_toPy d
      have := Nat.le_of_ble_eq_true p3
      exact SeqAt.in_list_reads (by simpa [toPy] using r2) r1 (canLays _ p2) (canLay _ p1) (by omega) ⟨.bl _, H, I, rfl, by rw [any_py _ p1 _ p2]; exact q⟩
    · cases hf
  · split at hf
    · rename_i hz
      cases hf
      simp only [Bool.and_eq_true] at hz
      obtain ⟨⟨p1, p2⟩, p3⟩ := hz
      obtain ⟨as, r1⟩ := Dp.reads I (toPy _) x v ((hx.rep sF).dp p1) rx
      obtain ⟨bs, r2⟩ := Dp.reads I (toPy _) y u ((hy.rep sF).dp (by simpa [plain] using p2)) ry
      have := dep_toPy d
      have := Nat.le_of_ble_eq_true p3
      exact SeqAt.notIn_list_reads (by simpa [toPy] using r2) r1 (canLays _ p2) (canLay _ p1) (by omega) ⟨.bl _, H, I, rfl, by rw [any_py _ p1 _ p2]; exact q⟩
    · cases hf
  · split at hf
    · rename_i hz
      cases hf
      simp only [Bool.and_eq_true] at hz
      obtain ⟨⟨p1, p2⟩, p3⟩ := hz
      obtain ⟨as, r1⟩ := Dp.reads I (toPy _) x v ((hx.rep sF).dp p1) rx
      obtain ⟨bs, r2⟩ := Dp.reads I (toPy _) y u ((hy.rep sF).dp (by simpa [plain] using p2)) ry
      have := dep_toPy d
      have := Nat.le_of_ble_eq_true p3
      exact SeqAt.in_tuple_reads (by simpa [toPy] using r2) r1 (canLays _ p2) (canLay _ p1) (by omega) ⟨.bl _, H, I, rfl, by rw [any_py _ p1 _ p2]; exact q⟩
    · cases hf
  · split at hf
    · rename_i hz
      cases hf
      simp only [Bool.and_eq_true] at hz
      obtain ⟨⟨p1, p2⟩, p3⟩ := hz
      obtain ⟨as, r1⟩ := Dp.reads I (toPy _) x v ((hx.rep sF).dp p1) rx
      obtain ⟨bs, r2⟩ := Dp.reads I (toPy _) y u ((hy.rep sF).dp (by simpa [plain] using p2)) ry
      have := dep_toPy d
      have := Nat.le_of_ble_eq_true p3
      exact SeqAt.notIn_tuple_reads (by simpa [toPy] using r2) r1 (canLays _ p2) (canLay _ p1) (by omega) ⟨.bl _, H, I, rfl, by rw [any_py _ p1 _ p2]; exact q⟩
    · cases hf
  · rename_i ks kvs
    cases e1 : intsD ks with
    | none => rw [e1] at hf; cases hf
    | some ns =>
      rw [e1] at hf
      cases hf
      obtain ⟨a, kv, rfl, g, k⟩ := dget_t sF hx e1 hy
      cases ry
      exact d_in (by omega) I g rx fun s' I' => ⟨.bl _, H, I', rfl, by rw [k.isSome]; exact q⟩
  · rename_i ks kvs
    cases e1 : intsD ks with
    | none => rw [e1] at hf; cases hf
    | some ns =>
      rw [e1] at hf
      cases hf
      obtain ⟨a, kv, rfl, g, k⟩ := dget_t sF hx e1 hy
      cases ry
      exact d_notIn (by omega) I g rx fun s' I' => ⟨.bl _, H, I', rfl, by rw [k.isSome]; exact q⟩
  · cases hf
    obtain ⟨a, kv, rfl, g, k⟩ := dget_k sF hx hy
    cases ry
    exact d_in (by omega) I g rx fun s' I' => ⟨.bl _, H, I', rfl, by rw [k.isSome]; exact q⟩
  · cases hf
    obtain ⟨a, kv, rfl, g, k⟩ := dget_k sF hx hy
    cases ry
    exact d_notIn (by omega) I g rx fun s' I' => ⟨.bl _, H, I', rfl, by rw [k.isSome]; exact q⟩
  · rename_i c z
    obtain rfl := hx.str; obtain rfl := hy.str
    split at hf
    · rename_i k hk
      cases hf
      have ec : c = ⟨#[k]⟩ := by
        cases c with
        | mk a => simp only at hk; rw [← Array.toArray_toList (xs := a), hk]
      exact op_in_sign pins s σ H _ _ v u Q I rx ry ⟨k, z, by rw [ec], rfl, q⟩
    · cases hf
  · cases hf
end
end LS

set_option Elab.async false
set_option linter.all false
set_option maxRecDepth 100000
set_option maxHeartbeats 1000000
/-! LS6: subscripts, slices, built-ins, methods by data. -/
namespace LS
open PySem PySem.Spec PyProof.Rows L2
section
variable {K : PySem.W.Frag} {mg : Str → Option Value} {xc : V → Str → Prop} {H F : Hp}
theorem ixN_at {α β : Type} {vs : List α} {ds : List β} {i : Int} {d : β} (hl : vs.length = ds.length) (h : ixAt ds i = some d) : ∃ j, ixN vs.length i = some j ∧ ds[j]? = some d := by
  unfold ixAt at h
  unfold ixN
  rw [hl]
  by_cases h0 : 0 ≤ i
  · rw [if_pos h0] at h ⊢
    obtain ⟨hj, _⟩ := List.getElem?_eq_some_iff.mp h
    rw [if_pos (by omega)]
    exact ⟨_, rfl, h⟩
  · rw [if_neg h0] at h ⊢
    by_cases h1 : -(ds.length : Int) ≤ i
    · rw [if_pos h1] at h ⊢
      exact ⟨_, rfl, h⟩
    · rw [if_neg h1] at h; cases h
theorem Reps.at {vs : List V} {ds : List D} {i : Int} {d : D} (r : Reps K mg xc H vs ds) (h : ixAt ds i = some d) : ∃ v, atI vs i = some v ∧ Rep K mg xc H v d := by
  obtain ⟨j, h1, h2⟩ := ixN_at r.length h
  obtain ⟨v, h3, h4⟩ := r.get h2
  exact ⟨v, by unfold atI; rw [h1]; exact h3, h4⟩
theorem slI_eq (n d : Nat) (o : Option Int) : HT.sIx n d o = slI n d o := by
  cases o with
  | none => rfl
  | some v =>
    show (if v < 0 then (v + (n : Int)).toNat else min v.toNat n) = if v < 0 then (max (v + (n : Int)) 0).toNat else min v.toNat n
    split <;> omega
theorem Reps.cut {vs : List V} {ds : List D} (r : Reps K mg xc H vs ds) (lo hi : Option Int) : Reps K mg xc H (cutV vs lo hi) (LS.cut ds lo hi) := by
  unfold cutV LS.cut
  rw [slI_eq, slI_eq, r.length]
  exact (r.drop _).take _
theorem cut_whole {α : Type} {ds : List α} {lo hi : Option Int} (h : slI ds.length 0 lo = 0 ∧ slI ds.length ds.length hi = ds.length) : cut ds lo hi = ds := by
  unfold cut
  rw [h.1, h.2]
  simp
theorem maxI_spec : ∀ (ns : List Int) (m : Int), maxI m ns ∈ m :: ns ∧ ∀ y ∈ m :: ns, y ≤ maxI m ns
  | [], m => ⟨by simp [maxI], by simp [maxI]⟩
  | n :: ns, m => by
    by_cases c : m < n
    · obtain ⟨h1, h2⟩ := maxI_spec ns n
      have e : maxI m (n :: ns) = maxI n ns := by simp only [maxI, if_pos c]
      rw [e]
      refine ⟨List.mem_cons_of_mem _ h1, fun y hy => ?_⟩
      rcases List.mem_cons.mp hy with q | hy
      · have := h2 n List.mem_cons_self; omega
      · exact h2 y hy
    · obtain ⟨h1, h2⟩ := maxI_spec ns m
      have e : maxI m (n :: ns) = maxI m ns := by simp only [maxI, if_neg c]
      rw [e]
      refine ⟨?_, fun y hy => ?_⟩
      · rcases List.mem_cons.mp h1 with q | q
        · rw [q]; exact List.mem_cons_self
        · exact List.mem_cons_of_mem _ (List.mem_cons_of_mem _ q)
      · rcases List.mem_cons.mp hy with q | hy
        · rw [q]; exact h2 m List.mem_cons_self
        · rcases List.mem_cons.mp hy with q | hy
          · have := h2 m List.mem_cons_self; omega
          · exact h2 y (List.mem_cons_of_mem _ hy)
theorem minI_spec : ∀ (ns : List Int) (m : Int), minI m ns ∈ m :: ns ∧ ∀ y ∈ m :: ns, minI m ns ≤ y
  | [], m => ⟨by simp [minI], by simp [minI]⟩
  | n :: ns, m => by
    by_cases c : n < m
    · obtain ⟨h1, h2⟩ := minI_spec ns n
      have e : minI m (n :: ns) = minI n ns := by simp only [minI, if_pos c]
      rw [e]
      refine ⟨List.mem_cons_of_mem _ h1, fun y hy => ?_⟩
      rcases List.mem_cons.mp hy with q | hy
      · have := h2 n List.mem_cons_self; omega
      · exact h2 y hy
    · obtain ⟨h1, h2⟩ := minI_spec ns m
      have e : minI m (n :: ns) = minI m ns := by simp only [minI, if_neg c]
      rw [e]
      refine ⟨?_, fun y hy => ?_⟩
      · rcases List.mem_cons.mp h1 with q | q
        · rw [q]; exact List.mem_cons_self
        · exact List.mem_cons_of_mem _ (List.mem_cons_of_mem _ q)
      · rcases List.mem_cons.mp hy with q | hy
        · rw [q]; exact h2 m List.mem_cons_self
        · rcases List.mem_cons.mp hy with q | hy
          · have := h2 m List.mem_cons_self; omega
          · exact h2 y (List.mem_cons_of_mem _ hy)
theorem max_is {ns : List Int} {i m : Int} (h1 : m ∈ i :: ns) (h2 : ∀ y, y ∈ i :: ns → y ≤ m) : m = maxI i ns := by
  obtain ⟨h3, h4⟩ := maxI_spec ns i
  have a := h2 _ h3
  have b := h4 _ h1
  omega
theorem min_is {ns : List Int} {i m : Int} (h1 : m ∈ i :: ns) (h2 : ∀ y, y ∈ i :: ns → m ≤ y) : m = minI i ns := by
  obtain ⟨h3, h4⟩ := minI_spec ns i
  have a := h2 _ h3
  have b := h4 _ h1
  omega
end
def notDict : D → Bool
  | .dct _ => false
  | .dck _ => false
  | .ldt _ => false
  | _ => true
/-- a subscript, not of a dict -/
def rIxD (K : PySem.W.Frag) (mg : Str → Option Value) (xc : V → Str → Prop) : R2 := fun x y H Q => ∃ F d e z, Same F H ∧ Vr K mg xc F H x d ∧ Vr K mg xc F H y e ∧ notDict d = true ∧ ixD d e = some z ∧ ∀ v, Rep K mg xc F v z → Q v H
def rSlD (K : PySem.W.Frag) (mg : Str → Option Value) (xc : V → Str → Prop) : V → Option Int → Option Int → Hp → VK → Prop := fun x lo hi H Q => ∃ F d m z, Same F H ∧ Vr K mg xc F H x d ∧ slD d lo hi = some (.v m z) ∧
  ∀ v F' H', Ext F H F' H' → Vok K mg xc H F' H' m v z → Q v H'
def r1D (K : PySem.W.Frag) (mg : Str → Option Value) (xc : V → Str → Prop) (f : D → Option Ro) : List V → Hp → VK → Prop := fun xs H Q => ∃ F x d m z, xs = [x] ∧ Same F H ∧ Vr K mg xc F H x d ∧ f d = some (.v m z) ∧
  ∀ v F' H', Ext F H F' H' → Vok K mg xc H F' H' m v z → Q v H'
def r2D (K : PySem.W.Frag) (mg : Str → Option Value) (xc : V → Str → Prop) (f : D → D → Option Ro) : List V → Hp → VK → Prop := fun xs H Q => ∃ F x y d e m z, xs = [x, y] ∧ Same F H ∧ Vr K mg xc F H x d ∧ Vr K mg xc F H y e ∧ f d e = some (.v m z) ∧
  ∀ v F' H', Ext F H F' H' → Vok K mg xc H F' H' m v z → Q v H'
/-! ### min of tuples: which item -/
section
variable {prog : Program} {w : World} {A : Around} {E : Value → Shared → Prop} {s : Shared} {Q : Value → Shared → Prop}
theorem ls_min_list {l : Addr} {vs : Array Value} {x : PyData} {xs : List PyData} {as : List Addr} (hh : A.handled = none) (hl : s.heap.IsList l vs) (hr : ReadsAll s.heap vs.toList (x :: xs) as) (ha : PySem.W.AlikeAll (x :: xs)) (hu : A.units + 1 + PyData.depthAll (x :: xs) < cLine)
    (k : ∀ v h' tk, vs[argBest (fun i j => PySem.W.dataLt ((x :: xs).getD i .none) ((x :: xs).getD j .none)) xs.length]? = some v → (∀ b o, s.heap.get? b = some o → h'.get? b = some o) → Q v { s with heap := h', toks := tk }) :
    wpAny (model prog w) A (call (.builtin "min") [.ref l]) Q E s := by
  have hz : vs.size = xs.length + 1 := PySem.W.readsAll_len hr
  refine call_min_walkH (PySem.W.iter_listW (A := A.in1) hh hl fun s2 e W st fp nw keep => ⟨_, _, _, _, _, _, _, s.heap, _, rfl, W, st, fp, by omega, nw, keep, PySem.W.cmpIn_lt (A := A.in1) hr ha (by show A.units + 1 + _ < _; exact hu), fun v t hv mv => ?_⟩)
  obtain ⟨h', tk, rfl, keep'⟩ := PySem.W.moved_old e rfl mv
  exact k v h' tk (by rw [show xs.length = vs.size - 1 by omega]; exact hv) keep'
theorem ls_min_two {a b : Value} {da db : PyData} {as bs : List Addr} (hh : A.handled = none) (ra : Reads s.heap a da as) (rb : Reads s.heap b db bs) (ha : PySem.W.AlikeAll [da, db]) (hu : A.units + 1 + PyData.depthAll [da, db] < cLine)
    (k : ∀ h' tk, (∀ b o, s.heap.get? b = some o → h'.get? b = some o) → Q (if PySem.W.dataLt db da = true then b else a) { s with heap := h', toks := tk }) : wpAny (model prog w) A (call (.builtin "min") [a, b]) Q E s := by
  have nm : (toString "min" ++ toString ".loop" : String) = "min.loop" := by decide
  refine call_function_tree PySem.F.kind_min PySem.F.plain_min PySem.F.entry_min (PySem.F.args_min2 _ _) (?_ : wpAny _ A.in1 (Builtin.Builtins.bindParams "min" ["key", "default"] 0 ⟨[], []⟩ >>= _) _ _ s)
  refine wpAny_bind (wpAny_of_eq (show Builtin.Builtins.bindParams "min" ["key", "default"] 0 ⟨[], []⟩ = pure [none, none] from rfl) (?_ : wpAny _ A.in1 (newTuple [a, b] >>= _) _ _ s))
  refine wpAny_bind (wpAny_newObj_type ?_)
  have hT : (s.heap.push { cls := .type "tuple", data := .seq #[a, b] }).IsTuple s.heap.objs.size #[a, b] := ⟨_, Heap.get?_push_size _ rfl, rfl, _, rfl⟩
  have k1 : ∀ b' o, s.heap.get? b' = some o → (s.heap.push { cls := .type "tuple", data := .seq #[a, b] }).get? b' = some o := fun _ _ e => Heap.get?_push_of_some _ e
  obtain ⟨cs, hr⟩ : ∃ cs, ReadsAll (s.heap.push { cls := .type "tuple", data := .seq #[a, b] }) [a, b] [da, db] cs := ⟨_, .cons (PySem.W.reads_keeps k1 ra) (.cons (PySem.W.reads_keeps k1 rb) .nil)⟩
  refine wpAny_bind (PySem.W.iter_tupleW (A := A.in1) (s := { s with heap := s.heap.push { cls := .type "tuple", data := .seq #[a, b] } }) hh hT fun s2 e W st fp nw keep => ?_)
  refine wpAny_bind (wpAny_newObj_type ?_)
  have nf : s2.heap.objs.size ∉ _ := fun hm => Nat.lt_irrefl _ (fp _ hm)
  rw [nm]
  refine wpAny_pure ⟨plainId_quiet PySem.F.plain_min_loop _, codeAny_min_loop_firstH W _ nw _ (PySem.W.cmpIn_lt (A := A.in1) (s := { s with heap := s.heap.push { cls := .type "tuple", data := .seq #[a, b] } }) (vs := #[a, b]) hr ha (by show A.units + 1 + _ < _; exact hu)) s2.heap.objs.size nf (fresh_in keep) _ (by decide : 0 < 2) (fun b' o e => Heap.get?_push_of_some _ (keep b' o e))
    (W.frame 0 s2 _ s2.toks st (Nat.le_refl _) fun b' _ o e => Heap.get?_push_of_some _ e) (Heap.get?_push_size _ rfl) fun v t hv mv => ?_⟩
  obtain ⟨h', tk, rfl, keep'⟩ := PySem.W.moved_old e rfl (Moved.drop_new (tk := s2.toks) mv (Nat.le_refl _))
  have hv' : v = if PySem.W.dataLt db da = true then b else a := by
    have q : #[a, b][argBest (fun i j => PySem.W.dataLt ([da, db].getD i .none) ([da, db].getD j .none)) 1]? = some v := hv
    have e1 : argBest (fun i j => PySem.W.dataLt ([da, db].getD i .none) ([da, db].getD j .none)) 1 = if PySem.W.dataLt db da = true then 1 else 0 := rfl
    rw [e1] at q
    split at q
    · rw [if_pos (by assumption)]; exact (Option.some.inj q).symm
    · rw [if_neg (by assumption)]; exact (Option.some.inj q).symm
  rw [hv']
  exact k h' tk fun b' o e => keep' b' o (k1 b' o e)
end
/-- the least item, by its place -/
theorem figT_tup {d : D} {k : Nat × List Int} (h : figT d = some k) : ∃ xs, d = .tup xs ∧ figD xs = some k := by
  cases d with
  | tup xs => exact ⟨xs, rfl, h⟩
  | _ => cases h
theorem minTup_figs : ∀ {d : D} {k : Nat × List Int} (ds : List D) {z : D}, figT d = some k → minTup d k ds = some z → ∀ e ∈ ds, ∃ j, figT e = some j ∧ j.1 = k.1
  | _, _, [], _, _, _ => fun e he => by cases he
  | d, k, y :: ds, z, hd, h => fun e he => by
    unfold minTup at h
    split at h
    · rename_i j hj
      split at h
      · rename_i hle
        have e1 : k.1 = j.1 := by
          unfold figLe at hle; split at hle
          · assumption
          · cases hle
        rcases List.mem_cons.mp he with rfl | he
        · exact ⟨j, hj, e1.symm⟩
        · exact minTup_figs ds hd h e he
      · rename_i hle
        have e1 : k.1 = j.1 := by
          unfold figLe at hle; split at hle
          · assumption
          · cases hle
        rcases List.mem_cons.mp he with rfl | he
        · exact ⟨j, hj, e1.symm⟩
        · obtain ⟨i, q1, q2⟩ := minTup_figs ds hj h e he
          exact ⟨i, q1, q2.trans e1.symm⟩
      · cases h
    · cases h
theorem minTup_fold : ∀ {d : D} {k : Nat × List Int} (ds : List D) {z : D}, figT d = some k → minTup d k ds = some z → z = ds.foldl (fun a y => if PySem.W.dataLt (toPy y) (toPy a) = true then y else a) d
  | _, _, [], _, _, h => (Option.some.inj h).symm
  | d, k, y :: ds, z, hd, h => by
    unfold minTup at h
    obtain ⟨xs, rfl, hx⟩ := figT_tup hd
    split at h
    · rename_i j hj
      obtain ⟨ys, rfl, hy⟩ := figT_tup hj
      split at h
      · rename_i hle
        unfold figLe at hle
        split at hle
        · rename_i e1
          rw [List.foldl_cons, fig_lt hy hx e1.symm, Option.some.inj hle]
          exact minTup_fold ds hd h
        · cases hle
      · rename_i hle
        unfold figLe at hle
        split at hle
        · rename_i e1
          rw [List.foldl_cons, fig_lt hy hx e1.symm, Option.some.inj hle]
          exact minTup_fold ds hj h
        · cases hle
      · cases h
    · cases h
theorem toPys_getD (d : D) : ∀ (ds : List D) (i : Nat), i < ds.length → (toPys ds).getD i .none = toPy (ds.getD i d)
  | [], _, h => by simp at h
  | _ :: _, 0, _ => by simp [toPys]
  | e :: ds, i + 1, h => by
    have := toPys_getD d ds i (by simpa using h)
    simpa [toPys] using this
theorem toPys_len : ∀ ds : List D, (toPys ds).length = ds.length
  | [] => rfl
  | d :: ds => by simp [toPys, toPys_len ds]
theorem argBest_congr {f g : Nat → Nat → Bool} : ∀ (n : Nat), (∀ i j, i ≤ n → j ≤ n → f i j = g i j) → argBest f n = argBest g n ∧ argBest f n ≤ n
  | 0, _ => ⟨rfl, Nat.le_refl _⟩
  | n + 1, h => by
    obtain ⟨a, b⟩ := argBest_congr n fun i j hi hj => h i j (by omega) (by omega)
    have e1 : argBest f (n + 1) = if f (n + 1) (argBest f n) = true then n + 1 else argBest f n := rfl
    have e2 : argBest g (n + 1) = if g (n + 1) (argBest g n) = true then n + 1 else argBest g n := rfl
    rw [e1, e2, ← a, h (n + 1) (argBest f n) (Nat.le_refl _) (by omega)]
    refine ⟨rfl, ?_⟩
    split
    · exact Nat.le_refl _
    · omega
theorem depthAll_le {n : Nat} : ∀ ds : List D, (∀ d ∈ ds, dep d ≤ n) → PyData.depthAll (toPys ds) ≤ n
  | [], _ => by simp [toPys, PyData.depthAll]
  | d :: ds, h => by
    have a := dep_toPy d
    have b := h d List.mem_cons_self
    have c := depthAll_le ds fun e he => h e (List.mem_cons_of_mem _ he)
    simp only [toPys, PyData.depthAll]; omega
theorem plains_mem : ∀ {ds : List D}, (∀ d ∈ ds, plain d = true) → plains ds = true
  | [], _ => rfl
  | d :: ds, h => by
    simp only [plains, Bool.and_eq_true]
    exact ⟨h d List.mem_cons_self, plains_mem fun e he => h e (List.mem_cons_of_mem _ he)⟩
theorem toPys_mem : ∀ {ds : List D} {x : PyData}, x ∈ toPys ds → ∃ d ∈ ds, x = toPy d
  | [], _, h => by simp [toPys] at h
  | d :: ds, x, h => by
    simp only [toPys, List.mem_cons] at h
    rcases h with rfl | h
    · exact ⟨d, List.mem_cons_self, rfl⟩
    · obtain ⟨e, q1, q2⟩ := toPys_mem h
      exact ⟨e, List.mem_cons_of_mem _ q1, q2⟩
theorem minTup_best {xs : List D} {k : Nat × List Int} (ds : List D) {z : D} (hd : figT (.tup xs) = some k) (h : minTup (.tup xs) k ds = some z) :
    PySem.W.AlikeAll (toPy (.tup xs) :: toPys ds) ∧ PyData.depthAll (toPys (.tup xs :: ds)) ≤ 2 ∧ plains (.tup xs :: ds) = true ∧
    (D.tup xs :: ds)[argBest (fun i j => PySem.W.dataLt ((toPy (.tup xs) :: toPys ds).getD i .none) ((toPy (.tup xs) :: toPys ds).getD j .none)) (toPys ds).length]? = some z := by
  have all : ∀ e ∈ D.tup xs :: ds, ∃ ys j, e = .tup ys ∧ figD ys = some j ∧ j.1 = k.1 := fun e he => by
    rcases List.mem_cons.mp he with rfl | he
    · exact ⟨xs, k, rfl, hd, rfl⟩
    · obtain ⟨j, q1, q2⟩ := minTup_figs ds hd h e he
      obtain ⟨ys, rfl, q3⟩ := figT_tup q1
      exact ⟨ys, j, rfl, q3, q2⟩
  have e0 : toPy (.tup xs) :: toPys ds = toPys (.tup xs :: ds) := by simp only [toPys]
  rw [e0]
  refine ⟨⟨fun x hx y hy => ?_, fun x hx => ?_⟩, ?_, ?_, ?_⟩
  · obtain ⟨d1, m1, rfl⟩ := toPys_mem hx
    obtain ⟨d2, m2, rfl⟩ := toPys_mem hy
    obtain ⟨a, j, rfl, a1, a2⟩ := all d1 m1
    obtain ⟨b, j', rfl, b1, b2⟩ := all d2 m2
    exact fig_alike a1 b1 (a2.trans b2.symm)
  · obtain ⟨d1, m1, rfl⟩ := toPys_mem hx
    obtain ⟨a, j, rfl, a1, a2⟩ := all d1 m1
    simp [toPy]
  · exact depthAll_le _ fun d hd' => by obtain ⟨a, j, rfl, a1, a2⟩ := all d hd'; exact fig_dep a1
  · exact plains_mem fun d hd' => by obtain ⟨a, j, rfl, a1, a2⟩ := all d hd'; exact fig_plain a1
  · have hl : (toPys ds).length = ds.length := toPys_len ds
    obtain ⟨c1, c2⟩ := argBest_congr (f := fun i j => PySem.W.dataLt ((toPys (.tup xs :: ds)).getD i .none) ((toPys (.tup xs :: ds)).getD j .none)) (g := fun i j => (fun p q => PySem.W.dataLt (toPy p) (toPy q)) ((D.tup xs :: ds).getD i .non) ((D.tup xs :: ds).getD j .non)) ds.length fun i j hi hj => by
      rw [toPys_getD .non _ i (by simp; omega), toPys_getD .non _ j (by simp; omega)]
    rw [hl, c1]
    rw [c1] at c2
    have f2 := (PySem.W.argBest_fold (fun p q => PySem.W.dataLt (toPy p) (toPy q)) D.non (.tup xs) ds ds.length (Nat.le_refl _)).2
    rw [List.take_length] at f2
    rw [minTup_fold ds hd h, ← f2]
    have lt : argBest (fun i j => (fun p q => PySem.W.dataLt (toPy p) (toPy q)) ((D.tup xs :: ds).getD i .non) ((D.tup xs :: ds).getD j .non)) ds.length < (D.tup xs :: ds).length := Nat.lt_succ_of_le c2
    rw [List.getD_eq_getElem?_getD, List.getElem?_eq_getElem lt]
    rfl
section
variable {X : Cx} {xc : V → Str → Prop}
theorem dpAll_reads {pins : List (Addr × Obj)} {σ : L2.St} {H : Hp} {s : Shared} (I : Inv X pins σ H s) : ∀ {vs : List V} {ds : List D} {us : List Value}, Reps X.K X.mg xc H vs ds → plains ds = true → Vals vs us → ∃ as, ReadsAll s.heap us.toArray.toList (toPys ds) as
  | _, _, _, .nil, _, .nil => ⟨_, .nil⟩
  | _, _, _, .cons h t, p, .cons ra rr => by
    simp only [plains, Bool.and_eq_true] at p
    obtain ⟨as, q1⟩ := Dp.reads I (toPy _) _ _ (h.dp p.1) ra
    obtain ⟨bs, q2⟩ := dpAll_reads I t p.2 rr
    exact ⟨_, .cons q1 (by simpa using q2)⟩
theorem Inv.tupLen {X : Cx} {pins : List (Addr × Obj)} {σ : L2.St} {H : Hp} {s : Shared} {a : Addr} {xs : List V} (I : Inv X pins σ H s) (h : H a = some (.tup xs)) : xs.length ≤ sizeLine := by
  obtain ⟨_, _, _, z⟩ := I.tuple (.of h)
  exact z
theorem Inv.lstLen {X : Cx} {pins : List (Addr × Obj)} {σ : L2.St} {H : Hp} {s : Shared} {a : Addr} {xs : List V} (I : Inv X pins σ H s) (h : H a = some (.lst xs)) : xs.length ≤ sizeLine := by
  obtain ⟨_, _, _, z⟩ := I.list (.of h)
  exact z
theorem ix_ok : IxR X (rIxD X.K X.mg xc) := by
  intro value slice pins s σ H x y v u Q I rx ry h hs
  obtain ⟨F, d, e, z, sF, hx, hy, nd, hf, q⟩ := h
  unfold ixD at hf
  split at hf
  · rename_i ds i
    obtain ⟨a, xs, rfl, h1, r⟩ := hx.tuple
    obtain rfl := hy.int
    obtain ⟨w, h2, h3⟩ := r.at hf
    exact ix_tup value slice pins s σ H _ _ v u Q I rx ry ⟨a, xs, i, w, rfl, rfl, .of (sF _ _ h1), h2, q w h3⟩ hs
  · rename_i ds i
    obtain ⟨a, xs, rfl, h1, r⟩ := hx.list sF
    obtain rfl := hy.int
    obtain ⟨w, h2, h3⟩ := r.at hf
    exact ix_list value slice pins s σ H _ _ v u Q I rx ry ⟨a, xs, i, w, rfl, rfl, .of h1, h2, q w h3⟩ hs
  · rename_i ns i
    obtain ⟨a, rfl, h1⟩ := hx.scr sF
    obtain rfl := hy.int
    cases e1 : ixAt ns i with
    | none => rw [e1] at hf; cases hf
    | some n =>
      rw [e1] at hf
      cases hf
      obtain ⟨j, h2, h3⟩ := ixN_at (vs := ns.map V.int) (by simp) e1
      refine ix_list value slice pins s σ H _ _ v u Q I rx ry ⟨a, _, i, .int n, rfl, rfl, h1, ?_, q _ (.int n)⟩ hs
      unfold atI
      rw [h2]
      show (ns.map V.int)[j]? = _
      rw [List.getElem?_map, h3]
      rfl
  · rename_i z' i
    obtain rfl := hx.str
    obtain rfl := hy.int
    split at hf
    · rename_i hz
      cases e1 : ixAt z'.cps.toList i with
      | none => rw [e1] at hf; cases hf
      | some c =>
        rw [e1] at hf
        cases hf
        obtain ⟨j, h2, h3⟩ := ixN_at (vs := z'.cps.toList) rfl e1
        refine ix_str value slice pins s σ H _ _ v u Q I rx ry ⟨z', i, c, rfl, rfl, le_line hz, ?_, q _ (.str _)⟩ hs
        unfold atI
        rw [h2]
        exact h3
    · cases hf
  · cases nd
  · cases nd
  · cases nd
  · cases hf
theorem sl_ok : SlR X (rSlD X.K X.mg xc) := by
  intro pins s σ H x v vl vu lo hi sl Q I rx hs pl pu h
  obtain ⟨F, d, m, z, sF, hx, hf, q⟩ := h
  unfold slD at hf
  split at hf
  · rename_i ds
    cases hf
    obtain ⟨a, xs, rfl, h1, r⟩ := hx.tuple
    refine sl_tupA pins s σ H _ v vl vu lo hi sl Q I rx hs pl pu ⟨a, xs, rfl, .of (sF _ _ h1), fun hw => ?_, fun hw p hp => ?_⟩
    · rw [slI_eq, slI_eq, r.length] at hw
      refine q _ F H (.refl sF) ?_
      rw [cut_whole hw]
      exact Rep.tup h1 r
    · exact q _ _ _ (.newF sF hp) (.tup upd_same ((r.cut lo hi).mono (same_upd (sF.free hp))))
  · rename_i ds
    cases hf
    obtain ⟨a, xs, rfl, h1, r⟩ := hx.list sF
    refine sl_list pins s σ H _ v vl vu lo hi sl Q I rx hs pl pu ⟨a, xs, rfl, .of h1, fun p hp => ?_⟩
    exact q _ _ _ (.newH sF hp) ⟨p, rfl, sF.free hp, hp, _, upd_same, r.cut lo hi⟩
  · rename_i t
    obtain rfl := hx.str
    split at hf
    · rename_i hz
      cases hf
      refine sl_str pins s σ H _ v vl vu lo hi sl Q I rx hs pl pu ⟨t, rfl, le_line hz, fin_sc sF q ?_⟩
      have e : cutS t lo hi = ⟨(LS.cut t.cps.toList lo hi).toArray⟩ := by
        unfold cutS LS.cut
        rw [slI_eq, slI_eq]
        rfl
      rw [e]
      exact .str _
    · cases hf
  · cases hf
/-! ### built-in functions -/
theorem len_ok : CallR X (.builtin "len") (r1D X.K X.mg xc lenX) := by
  intro pins s σ H xs us Q I r h
  obtain ⟨F, x, d, m, z, rfl, sF, hx, hf, q⟩ := h
  unfold lenX at hf
  split at hf
  · rename_i n hn
    split at hf
    · rename_i hz
      cases hf
      refine call_len pins s σ H _ us Q I r ⟨x, n, rfl, ?_, fin_sc sF q (.int _)⟩
      unfold lenD at hn
      split at hn
      · cases hn
        obtain ⟨a, vs, rfl, h1, r1⟩ := hx.tuple
        exact .inr ⟨vs, .of (sF _ _ h1), r1.length.symm⟩
      · cases hn
        obtain ⟨a, vs, rfl, h1, r1⟩ := hx.list sF
        exact .inl ⟨vs, .of h1, r1.length.symm⟩
      · cases hn
        obtain ⟨a, rfl, h1⟩ := hx.scr sF
        exact .inl ⟨_, h1, by rw [List.length_map]⟩
      · cases hn
        obtain rfl := hx.str
        exact ⟨le_line hz, rfl⟩
      · cases hn
    · cases hf
  · cases hf
theorem all_ok (hc : X.calm = true) : CallR X (.builtin "all") (r1D X.K X.mg xc allX) := by
  intro pins s σ H xs us Q I r h
  obtain ⟨F, x, d, m, z, rfl, sF, hx, hf, q⟩ := h
  unfold allX at hf
  split at hf
  · split at hf
    · rename_i bs hb
      cases hf
      obtain ⟨a, vs, rfl, h1, r1⟩ := hx.list sF
      exact cr_all hc pins s σ H _ us Q I r ⟨a, bs, rfl, by rw [← r1.bls hb]; exact .of h1, fin_sc sF q (.bl _)⟩
    · cases hf
  · cases hf
theorem any_ok (hc : X.calm = true) : CallR X (.builtin "any") (r1D X.K X.mg xc anyX) := by
  intro pins s σ H xs us Q I r h
  obtain ⟨F, x, d, m, z, rfl, sF, hx, hf, q⟩ := h
  unfold anyX at hf
  split at hf
  · split at hf
    · rename_i bs hb
      cases hf
      obtain ⟨a, vs, rfl, h1, r1⟩ := hx.list sF
      exact cr_any hc pins s σ H _ us Q I r ⟨a, bs, rfl, by rw [← r1.bls hb]; exact .of h1, fin_sc sF q (.bl _)⟩
    · cases hf
  · cases hf
theorem sum_ok (hc : X.calm = true) : CallR X (.builtin "sum") (r1D X.K X.mg xc sumX) := by
  intro pins s σ H xs us Q I r h
  obtain ⟨F, x, d, m, z, rfl, sF, hx, hf, q⟩ := h
  unfold sumX at hf
  split at hf
  · split at hf
    · rename_i bs hb
      cases hf
      obtain ⟨a, vs, rfl, h1, r1⟩ := hx.list sF
      exact cr_sum hc pins s σ H _ us Q I r ⟨a, bs, rfl, by rw [← r1.ints hb]; exact .of h1, fin_sc sF q (.int _)⟩
    · cases hf
  · cases hf
theorem max_ok (hc : X.calm = true) : CallR X (.builtin "max") (r1D X.K X.mg xc maxX) := by
  intro pins s σ H xs us Q I r h
  obtain ⟨F, x, d, m, z, rfl, sF, hx, hf, q⟩ := h
  unfold maxX at hf
  split at hf
  · rename_i i ds
    split at hf
    · rename_i bs hb
      cases hf
      obtain ⟨a, vs, rfl, h1, r1⟩ := hx.list sF
      have e : intsD (.int i :: ds) = some (i :: bs) := by simp only [intsD, hb, Option.map_some]
      refine cr_max hc pins s σ H _ us Q I r ⟨a, i :: bs, rfl, by rw [← r1.ints e]; exact .of h1, by simp, fun m h2 h3 => ?_⟩
      rw [max_is h2 h3]
      exact fin_sc sF q (.int _)
    · cases hf
  · cases hf
theorem dp_alls {mg : Str → Option Value} {K : PySem.W.Frag} {H : Hp} : ∀ {vs : List V} {ds : List D}, Reps K mg xc H vs ds → plains ds = true → DpAll K H vs (toPys ds) := fun r p => r.dp p
theorem min_ok (hc : X.calm = true) (hu : X.A.units + 65 < cLine) : CallR X (.builtin "min") (r1D X.K X.mg xc minX) := by
  intro pins s σ H xs us Q I r h
  obtain ⟨F, x, d, m, z, rfl, sF, hx, hf, q⟩ := h
  unfold minX at hf
  split at hf
  · rename_i i ds
    split at hf
    · rename_i bs hb
      cases hf
      obtain ⟨a, vs, rfl, h1, r1⟩ := hx.list sF
      have e : intsD (.int i :: ds) = some (i :: bs) := by simp only [intsD, hb, Option.map_some]
      refine cr_min hc pins s σ H _ us Q I r ⟨a, i :: bs, rfl, by rw [← r1.ints e]; exact .of h1, by simp, fun m h2 h3 => ?_⟩
      rw [min_is h2 h3]
      exact fin_sc sF q (.int _)
    · cases hf
  · rename_i us ds
    split at hf
    · rename_i k hk
      obtain ⟨a, vs, rfl, h1, r1⟩ := hx.list sF
      obtain ⟨z', hz, ez⟩ : ∃ z', minTup (.tup us) k ds = some z' ∧ Ro.v m z = .v .cl z' := by
        unfold clO at hf
        split at hf
        · cases hf; exact ⟨_, by assumption, rfl⟩
        · cases hf
      cases ez
      obtain ⟨hal, hdp, hpl, hbest⟩ := minTup_best ds (by simpa [figT] using hk) hz
      obtain ⟨its, rv, hl, _⟩ := I.list (.of h1)
      obtain ⟨as, hr⟩ := dpAll_reads I (r1.mono sF) hpl rv
      cases r with
      | cons ra rr =>
        cases rr
        cases ra
        refine ls_min_list (I.ok.hd hc) hl.isList (by simpa [toPys] using hr) hal (by simp only [toPys] at hdp ⊢; omega) fun v h' tk hv hk' => ?_
        obtain ⟨w, hw1, hw2⟩ : ∃ w, vs[argBest (fun i j => PySem.W.dataLt ((toPy (.tup us) :: toPys ds).getD i .none) ((toPy (.tup us) :: toPys ds).getD j .none)) (toPys ds).length]? = some w ∧ Rep X.K X.mg xc F w z := r1.get hbest
        refine ⟨w, H, I.kept hk', ?_, fin_sc sF q hw2⟩
        obtain ⟨u, hu1, hu2⟩ := rv.get hw1
        have e : u = v := by
          have : its[argBest (fun i j => PySem.W.dataLt ((toPy (.tup us) :: toPys ds).getD i .none) ((toPy (.tup us) :: toPys ds).getD j .none)) (toPys ds).length]? = some v := by simpa using hv
          rw [hu1] at this
          exact Option.some.inj this
        exact e ▸ hu2
    · cases hf
  · cases hf
theorem list_ok : CallR X (.type "list") (r1D X.K X.mg xc listX) := by
  intro pins s σ H xs us Q I r h
  obtain ⟨F, x, d, m, z, rfl, sF, hx, hf, q⟩ := h
  unfold listX at hf
  split at hf
  · cases hf
    obtain ⟨a, vs, rfl, h1, r1⟩ := hx.list sF
    exact call_list_of pins s σ H _ us Q I r ⟨a, vs, rfl, .inl (.of h1), fun p hp => q _ _ _ (.newH sF hp) ⟨p, rfl, sF.free hp, hp, _, upd_same, r1⟩⟩
  · cases hf
    obtain ⟨a, vs, rfl, h1, r1⟩ := hx.tuple
    exact call_list_of pins s σ H _ us Q I r ⟨a, vs, rfl, .inr (.of (sF _ _ h1)), fun p hp => q _ _ _ (.newH sF hp) ⟨p, rfl, sF.free hp, hp, _, upd_same, r1⟩⟩
  · cases hf
theorem tuple_ok : CallR X (.type "tuple") (r1D X.K X.mg xc tupleX) := by
  intro pins s σ H xs us Q I r h
  obtain ⟨F, x, d, m, z, rfl, sF, hx, hf, q⟩ := h
  unfold tupleX at hf
  split at hf
  · cases hf
    obtain ⟨a, vs, rfl, h1, r1⟩ := hx.list sF
    exact call_tuple_of pins s σ H _ us Q I r ⟨a, vs, rfl, .inl ⟨.of h1, fun p hp => q _ _ _ (.newF sF hp) (.tup upd_same (r1.mono (same_upd (sF.free hp))))⟩⟩
  · cases hf
    obtain ⟨a, vs, rfl, h1, r1⟩ := hx.tuple
    exact call_tuple_of pins s σ H _ us Q I r ⟨a, vs, rfl, .inr ⟨.of (sF _ _ h1), fin_sc sF q (.tup h1 r1)⟩⟩
  · cases hf
theorem int_ok : CallR X (.type "int") (r1D X.K X.mg xc intX) := by
  intro pins s σ H xs us Q I r h
  obtain ⟨F, x, d, m, z, rfl, sF, hx, hf, q⟩ := h
  unfold intX at hf
  split at hf
  · rename_i t
    split at hf
    · rename_i n hn
      split at hf
      · rename_i hz
        cases hf
        obtain rfl := hx.str
        exact call_int_str pins s σ H _ us Q I r ⟨t, n, rfl, hn, Nat.le_trans (Nat.le_of_ble_eq_true hz) (by decide), fin_sc sF q (.int _)⟩
      · cases hf
    · cases hf
  · cases hf
theorem str_ok : CallR X (.type "str") (r1D X.K X.mg xc strX) := by
  intro pins s σ H xs us Q I r h
  obtain ⟨F, x, d, m, z, rfl, sF, hx, hf, q⟩ := h
  unfold strX at hf
  split at hf
  · rename_i i
    split at hf
    · rename_i hz
      cases hf
      obtain rfl := hx.int
      have hb : i.natAbs ≤ 1000000000 := Nat.le_of_ble_eq_true hz
      refine call_str_int pins s σ H _ us Q I r ⟨i, rfl, ?_, fin_sc sF q (.str _)⟩
      by_cases h0 : i.natAbs = 0
      · rw [h0]; decide
      · exact Nat.lt_of_lt_of_le ((Nat.log2_lt h0).mpr (Nat.lt_of_le_of_lt hb (by decide : 1000000000 < 2 ^ 30))) (by decide)
    · cases hf
  · cases hf
theorem max2_ok (hc : X.calm = true) : CallR X (.builtin "max") (r2D X.K X.mg xc max2X) := by
  intro pins s σ H xs us Q I r h
  obtain ⟨F, x, y, d, e, m, z, rfl, sF, hx, hy, hf, q⟩ := h
  unfold max2X at hf
  split at hf
  · cases hf
    obtain rfl := hx.int; obtain rfl := hy.int
    exact call_max2 hc pins s σ H _ us Q I r ⟨_, _, rfl, fin_sc sF q (.int _)⟩
  · cases hf
theorem min2_ok (hc : X.calm = true) (hu : X.A.units + 65 < cLine) : CallR X (.builtin "min") (r2D X.K X.mg xc min2X) := by
  intro pins s σ H xs us Q I r h
  obtain ⟨F, x, y, d, e, m, z, rfl, sF, hx, hy, hf, q⟩ := h
  unfold min2X at hf
  split at hf
  · cases hf
    obtain rfl := hx.int; obtain rfl := hy.int
    exact call_min2 hc pins s σ H _ us Q I r ⟨_, _, rfl, fin_sc sF q (.int _)⟩
  · rename_i us' ws
    split at hf
    · rename_i b hb
      cases hf
      obtain ⟨k, j, e1, e2, e3, rfl⟩ := ltO_some hb
      cases r with
      | cons ra rr =>
        cases rr with
        | cons rb rr =>
          cases rr
          obtain ⟨as, r1⟩ := Dp.reads I (toPy _) x _ ((hx.rep sF).dp (fig_plain e2)) ra
          obtain ⟨bs, r2⟩ := Dp.reads I (toPy _) y _ ((hy.rep sF).dp (fig_plain e1)) rb
          have dx := fig_dep e2
          have dy := fig_dep e1
          have dx' := dep_toPy (.tup us')
          have dy' := dep_toPy (.tup ws)
          refine ls_min_two (I.ok.hd hc) r1 r2 ⟨fun p hp q' hq => ?_, fun p hp => ?_⟩ (by simp only [PyData.depthAll]; omega) fun h' tk hk' => ?_
          · simp only [List.mem_cons, List.not_mem_nil, or_false] at hp hq
            rcases hp with rfl | rfl <;> rcases hq with rfl | rfl
            · exact fig_alike e2 e2 rfl
            · exact fig_alike e2 e1 e3.symm
            · exact fig_alike e1 e2 e3
            · exact fig_alike e1 e1 rfl
          · simp only [List.mem_cons, List.not_mem_nil, or_false] at hp
            rcases hp with rfl | rfl <;> simp [toPy]
          · rw [fig_lt e1 e2 e3]
            cases hb' : leT j.2 k.2 with
            | true =>
              rw [hb'] at q
              obtain ⟨a, xs', rfl, h1, r1'⟩ := hx.tuple
              exact ⟨_, H, I.kept hk', ra, fin_sc sF q (.tup h1 r1')⟩
            | false =>
              rw [hb'] at q
              obtain ⟨a, xs', rfl, h1, r1'⟩ := hy.tuple
              exact ⟨_, H, I.kept hk', rb, fin_sc sF q (.tup h1 r1')⟩
    · cases hf
  · cases hf
end
end LS

set_option Elab.async false
set_option linter.all false
set_option maxRecDepth 100000
set_option maxHeartbeats 1000000
/-! LS7: what stands around an expression; the readings; the first constructs. -/
namespace LS
open PySem PySem.Spec PyProof.Rows L2
structure GC where
  cts : List (Str × Cst)
  exs : List Str
  asg : Str → Bool
  hot : Bool
  ein : List Str
  top : Bool
  cls : List (Str × List Str)
  mth : List (Str × Str × Str)
/-- the key of a method in the table -/
def GC.mkk (gc : GC) (x : Str) : Bool := gc.mth.any fun q => q.1 == x
def Cst.v : Cst → V
  | .non => .non
  | .bl b => .bl b
  | .int i => .int i
  | .str x => .str x
abbrev nox : V → Str → Prop := fun _ _ => False
/-- a def's promise, by the function of data -/
def spD (K : PySem.W.Frag) (mg : Str → Option Value) (g : List D → Option Rr) : Sp := fun vs H Q E => ∃ F ds r, Same F H ∧ Reps K mg nox F vs ds ∧ g ds = some r ∧
  match r with
  | .ret d => ∀ v F' H', Ext F H F' H' → Rep K mg nox F' v d → Q v H'
  | .exc c => ∀ C F' H', mg c = some (.ref C) → Ext F H F' H' → E (.ref C) none H'
/-- the promise of a method of no argument that changes nothing -/
def spO (K : PySem.W.Frag) (mg : Str → Option Value) (c : Str) (g : List D → Option Rr) : Sp := fun vs H Q _ => ∃ F p ns ds d, vs = [.ref p] ∧ Same F H ∧ F p = none ∧ Own K mg nox F H p (.obj c ns ds) ∧ g (.tup (ns.map .str) :: ds) = some (.ret d) ∧ ∀ v F' H', Ext F H F' H' → Rep K mg nox F' v d → Q v H'
structure FnE (X : Cx) (hot : Bool) (x : Str) (g : List D → Option Rr) : Prop where
  ex : ∃ f fd ps k, X.mg x = some (.ref f) ∧ PySem.W.keepIn X.K (.ref f) = true ∧ Binds X.K fd ps [] ∧ (hot = false → Room k X.A) ∧ FnOk X.prog X.w X.K X.mg X.base (L2.CX X.prog X.w) k f fd ps (spD X.K X.mg g)
/-- an own exception class, raised with a text -/
def ExcOk (X : Cx) (c : Str) : Prop := ∃ (C : Addr) (B newId initId : String) (bmB : List Value), PySem.ExcBaseFacts B newId initId bmB ∧ PySem.W.excIn X.K C bmB newId = true ∧ X.mg c = some (.ref C) ∧ PySem.W.keepIn X.K (.ref C) = true ∧
  PySem.W.subIn X.K (.ref C) (.type "BaseException") = some true ∧ PySem.W.typeIn X.K (.ref C) = some (.type "type")
def bnames : List Str := ["len", "isinstance", "int", "bool", "tuple", "list", "str", "all", "any", "range", "zip", "enumerate", "sorted", "set", "max", "min", "sum"]
/-- an own exception class that is caught -/
def ExiOk (K : PySem.W.Frag) (mg : Str → Option Value) (ein : List Str) (c : Str) : Prop := ∃ C L, mg c = some (.ref C) ∧ mg "LimitError" = some (.ref L) ∧ L2.ExcC K C ∧ PySem.W.exmOne K (.ref C) (.ref L) = some true ∧
  ∀ c', ein.contains c' = true → ∃ C', mg c' = some (.ref C') ∧ PySem.W.kitOne K (.ref C) (.ref C') = some (c == c')
structure Ctx (gc : GC) (G : Fns) (X : Cx) (xc : V → Str → Prop) (W : WX) : Prop where
  nd : X.N.Nodup
  calm : gc.hot = false → X.calm = true
  hu : X.A.units + 65 < cLine
  nx : gc.hot = false → xc = nox
  fnl : ∀ x, gc.asg x = true → X.fn x = true
  bl : ∀ x, bnames.contains x = true → X.mg x = none
  ct : ∀ x c, gc.cts.lookup x = some c → ∃ u, X.mg x = some u ∧ RelV c.v u
  fn : ∀ x g, gc.mkk x = false → LS.fnOf x G = some g → FnE X gc.hot x g
  mn : ∀ x, gc.mkk x = true → X.mg x = none
  cl : ∀ c fs, gc.cls.lookup c = some fs → ∃ C, X.mg c = some (.ref C) ∧ Cls X.K C ∧ ∀ n, fs.contains n = true → NoAttr X.K C n
  mt : ∀ k c m, gc.mth.contains (k, c, m) = true → ∀ g, LS.fnOf k G = some g → ∃ C f fd ps j, X.mg c = some (.ref C) ∧ Cls X.K C ∧ Meth X.K C m f ∧ Binds X.K fd ps [] ∧ (gc.hot = false → Room (j + 1) X.A) ∧ FnOk X.prog X.w X.K X.mg X.base (L2.CX X.prog X.w) j f fd ps (spO X.K X.mg c g)
  tk : Takes X W
  po : PassesOwn (model X.prog X.w) X.A X.env X.xe
  ex : ∀ c, gc.exs.contains c = true → ExcOk X c
  ei : ∀ c, gc.ein.contains c = true → ExiOk X.K X.mg gc.ein c
  ht : gc.hot = true → ∃ (X0 : Cx) (a D : Addr) (oe : Obj) (pn : List (Addr × Obj)), X = X0.suite a ((a, oe) :: pn) ∧ Zc (.ref D) none oe ∧ (∃ vs, oe.data = .fields vs) ∧ ∀ v k, xc v k → v = .ref a ∧ gc.ein.contains k = true ∧ X.mg k = some (.ref D)
  stk : gc.top = true → X.stack = X.env :: X.outer ∧ X.env.frame = some X.env.locals
def PostE (X : Cx) (xc : V → Str → Prop) (W : WX) (F H : Hp) (σ : L2.St) (Q : VK) : Ro → Prop
  | .v m d => ∀ v F' H', Ext F H F' H' → Vok X.K X.mg xc H F' H' m v d → Q v H'
  | .x c => ∀ C F' H', X.mg c = some (.ref C) → Ext F H F' H' → W (.ref C) none σ H'
def PostL (X : Cx) (xc : V → Str → Prop) (W : WX) (F H : Hp) (σ : L2.St) (Q : List V → Hp → Prop) : Rl → Prop
  | .v ds => ∀ vs F' H', Ext F H F' H' → Reps X.K X.mg xc F' vs ds → Q vs H'
  | .x c => ∀ C F' H', X.mg c = some (.ref C) → Ext F H F' H' → W (.ref C) none σ H'
def PostB (X : Cx) (xc : V → Str → Prop) (W : WX) (F H : Hp) (σ : L2.St) (Q : Bool → Hp → Prop) : Ro → Prop
  | .v _ d => match d with
    | .bl b => ∀ F' H', Ext F H F' H' → Q b H'
    | _ => False
  | .x c => ∀ C F' H', X.mg c = some (.ref C) → Ext F H F' H' → W (.ref C) none σ H'
def tE (X : Cx) (xc : V → Str → Prop) (W : WX) (G : Fns) (e : E) : TE := fun σ H Q => ∃ H0 F ρ r, Rel X.K X.mg xc H0 F ρ σ H ∧ evE G e ρ = some r ∧ PostE X xc W F H σ Q r
def tT (X : Cx) (xc : V → Str → Prop) (W : WX) (G : Fns) (e : E) : TT := fun σ H Q => ∃ H0 F ρ r, Rel X.K X.mg xc H0 F ρ σ H ∧ evE G e ρ = some r ∧ PostB X xc W F H σ Q r
def tL (X : Cx) (xc : V → Str → Prop) (W : WX) (G : Fns) (es : Es) : TA := fun σ H Q => ∃ H0 F ρ r, Rel X.K X.mg xc H0 F ρ σ H ∧ evEs G es ρ = some r ∧ PostL X xc W F H σ Q r
section
variable {X : Cx} {xc : V → Str → Prop} {W : WX} {G : Fns} {gc : GC} {H0 : Hp × Hp} {F H : Hp} {ρ : En} {σ : L2.St} {Q : VK} {r : Ro}
theorem _root_.L2.PE.of {e : Expr} {t t' : TE} (h : PE X e t) (i : ∀ σ H Q, t' σ H Q → t σ H Q) : PE X e t' := ⟨fun pins s σ H Q I w => h.run pins s σ H Q I (i _ _ _ w)⟩
theorem _root_.L2.PT.of {e : Expr} {t t' : TT} (h : PT X e t) (i : ∀ σ H Q, t' σ H Q → t σ H Q) : PT X e t' := ⟨fun pins s σ H Q I w => h.run pins s σ H Q I (i _ _ _ w)⟩
theorem _root_.L2.PW.of {e : Expr} {t t' : TT} (h : PW X e t) (i : ∀ σ H Q, t' σ H Q → t σ H Q) : PW X e t' := ⟨fun wh pins s σ H Q I w => h.run wh pins s σ H Q I (i _ _ _ w)⟩
theorem _root_.L2.PA.of {e : List Expr} {t t' : TA} (h : PA X e t) (i : ∀ σ H Q, t' σ H Q → t σ H Q) : PA X e t' := ⟨fun pos pins s σ H Q I w => h.run pos pins s σ H Q I (i _ _ _ w)⟩
/-- what is wanted, from a later state -/
theorem PostE.later {F1 H1 : Hp} (x : Ext F H F1 H1) (p : PostE X xc W F H σ Q r) : PostE X xc W F1 H1 σ Q r := by
  cases r with
  | v m d => exact fun v F' H' x' ok => p v F' H' (x.trans x') (ok.start x.h)
  | x c => exact fun C F' H' hc x' => p C F' H' hc (x.trans x')
/-- one value -/
theorem rd1 {ea : E} {k : Mk → D → Option Ro} (R : Rel X.K X.mg xc H0 F ρ σ H) (ev : bnd (evE G ea ρ) k = some r) (post : PostE X xc W F H σ Q r) {S : V → Hp → Prop}
    (hk : ∀ m d x F1 H1, k m d = some r → Ext F H F1 H1 → Vok X.K X.mg xc H F1 H1 m x d → S x H1) : tE X xc W G ea σ H S := by
  cases e : evE G ea ρ with
  | none => rw [e] at ev; cases ev
  | some ra =>
    cases ra with
    | x c =>
      rw [e] at ev
      cases ev
      exact ⟨H0, F, ρ, _, R, e, post⟩
    | v m d =>
      rw [e] at ev
      exact ⟨H0, F, ρ, _, R, e, fun v F1 H1 x1 ok => hk m d v F1 H1 ev x1 ok⟩
theorem rd2 {ea eb : E} {k : D → D → Option Ro} (R : Rel X.K X.mg xc H0 F ρ σ H) (ev : (bnd (evE G ea ρ) fun _ x => bnd (evE G eb ρ) fun _ y => k x y) = some r) (post : PostE X xc W F H σ Q r) {S : V → V → Hp → Prop}
    (hk : ∀ d e x y F2 H2, k d e = some r → Ext F H F2 H2 → Vr X.K X.mg xc F2 H2 x d → Vr X.K X.mg xc F2 H2 y e → S x y H2) : tE X xc W G ea σ H fun x H1 => tE X xc W G eb σ H1 fun y H2 => S x y H2 := by
  refine rd1 R ev post fun m d x F1 H1 ev1 x1 ok1 => ?_
  exact rd1 (R.ext x1) ev1 (post.later x1) fun m2 e y F2 H2 ev2 x2 ok2 => hk d e x y F2 H2 ev2 (x1.trans x2) (ok1.vr.ext x2) ok2.vr
theorem clO_v {o : Option D} (h : clO o = some r) : ∃ d, o = some d ∧ r = .v .cl d := by
  unfold clO at h
  split at h
  · cases h; exact ⟨_, rfl, rfl⟩
  · cases h
theorem blO_v {o : Option Bool} (h : blO o = some r) : ∃ b, o = some b ∧ r = .v .cl (.bl b) := by
  unfold blO at h
  split at h
  · cases h; exact ⟨_, rfl, rfl⟩
  · cases h
theorem bop_v {o : BO} {x y : D} (h : bop o x y = some r) : ∃ m d, r = .v m d := by
  unfold bop at h
  split at h <;> first
    | (cases h; exact ⟨_, _, rfl⟩)
    | (split at h <;> first
      | (cases h; exact ⟨_, _, rfl⟩)
      | cases h)
    | cases h

/-! ### the text, taken apart -/
def asName : Expr → Option Str
  | .Name x _ => some x
  | _ => none
theorem asName_ok {e : Expr} {x : Str} (h : asName e = some x) : ∃ p, e = .Name x p := by
  unfold asName at h
  split at h
  · cases h; exact ⟨_, rfl⟩
  · cases h
def asConst : Expr → Option Const
  | .Constant c _ _ => some c
  | _ => none
theorem asConst_ok {e : Expr} {x : Const} (h : asConst e = some x) : ∃ j p, e = .Constant x j p := by
  unfold asConst at h
  split at h
  · cases h; exact ⟨_, _, rfl⟩
  · cases h
def asUn : Expr → Option (UnaryOp × Expr)
  | .UnaryOp o a _ => some (o, a)
  | _ => none
theorem asUn_ok {e : Expr} {o : UnaryOp} {a : Expr} (h : asUn e = some (o, a)) : ∃ p, e = .UnaryOp o a p := by
  unfold asUn at h
  split at h
  · cases h; exact ⟨_, rfl⟩
  · cases h
def asBin : Expr → Option (Expr × Operator × Expr)
  | .BinOp a o b _ => some (a, o, b)
  | _ => none
theorem asBin_ok {e : Expr} {o : Operator} {a b : Expr} (h : asBin e = some (a, o, b)) : ∃ p, e = .BinOp a o b p := by
  unfold asBin at h
  split at h
  · cases h; exact ⟨_, rfl⟩
  · cases h
def asCmp : Expr → Option (Expr × CmpOp × Expr)
  | .Compare a [o] [b] _ => some (a, o, b)
  | _ => none
theorem asCmp_ok {e : Expr} {o : CmpOp} {a b : Expr} (h : asCmp e = some (a, o, b)) : ∃ p, e = .Compare a [o] [b] p := by
  unfold asCmp at h
  split at h
  · cases h; exact ⟨_, rfl⟩
  · cases h
def asCmp2 : Expr → Option (Expr × CmpOp × Expr × CmpOp × Expr)
  | .Compare a [o, u] [b, c] _ => some (a, o, b, u, c)
  | _ => none
theorem asCmp2_ok {e : Expr} {o u : CmpOp} {a b c : Expr} (h : asCmp2 e = some (a, o, b, u, c)) : ∃ p, e = .Compare a [o, u] [b, c] p := by
  unfold asCmp2 at h
  split at h
  · cases h; exact ⟨_, rfl⟩
  · cases h
def asBool : Expr → Option (BoolOp × List Expr)
  | .BoolOp o es _ => some (o, es)
  | _ => none
theorem asBool_ok {e : Expr} {o : BoolOp} {es : List Expr} (h : asBool e = some (o, es)) : ∃ p, e = .BoolOp o es p := by
  unfold asBool at h
  split at h
  · cases h; exact ⟨_, rfl⟩
  · cases h
def asIf : Expr → Option (Expr × Expr × Expr)
  | .IfExp t a b _ => some (t, a, b)
  | _ => none
theorem asIf_ok {e t a b : Expr} (h : asIf e = some (t, a, b)) : ∃ p, e = .IfExp t a b p := by
  unfold asIf at h
  split at h
  · cases h; exact ⟨_, rfl⟩
  · cases h
def asTup : Expr → Option (List Expr)
  | .Tuple es _ _ => some es
  | _ => none
theorem asTup_ok {e : Expr} {es : List Expr} (h : asTup e = some es) : ∃ k p, e = .Tuple es k p := by
  unfold asTup at h
  split at h
  · cases h; exact ⟨_, _, rfl⟩
  · cases h
def asLst : Expr → Option (List Expr)
  | .List es _ => some es
  | _ => none
theorem asLst_ok {e : Expr} {es : List Expr} (h : asLst e = some es) : ∃ p, e = .List es p := by
  unfold asLst at h
  split at h
  · cases h; exact ⟨_, rfl⟩
  · cases h
def isDict0 : Expr → Bool
  | .Dict [] [] _ => true
  | _ => false
theorem isDict0_ok {e : Expr} (h : isDict0 e = true) : ∃ p, e = .Dict [] [] p := by
  unfold isDict0 at h
  split at h
  · exact ⟨_, rfl⟩
  · cases h
def asSub : Expr → Option (Expr × Expr)
  | .Subscript a b _ => some (a, b)
  | _ => none
theorem asSub_ok {e a b : Expr} (h : asSub e = some (a, b)) : ∃ p, e = .Subscript a b p := by
  unfold asSub at h
  split at h
  · cases h; exact ⟨_, rfl⟩
  · cases h
def asSlice : Expr → Option (Option Expr × Option Expr)
  | .Slice lo hi none _ => some (lo, hi)
  | _ => none
theorem asSlice_ok {e : Expr} {lo hi : Option Expr} (h : asSlice e = some (lo, hi)) : ∃ p, e = .Slice lo hi none p := by
  unfold asSlice at h
  split at h
  · cases h; exact ⟨_, rfl⟩
  · cases h
/-- f(args): the function's expression and the arguments -/
def asCall : Expr → Option (Expr × List Expr)
  | .Call f as [] _ => some (f, as)
  | _ => none
theorem asCall_ok {e f : Expr} {as : List Expr} (h : asCall e = some (f, as)) : ∃ p, e = .Call f as [] p := by
  unfold asCall at h
  split at h
  · cases h; exact ⟨_, rfl⟩
  · cases h
/-- o.m(args) on one line -/
def asMeth : Expr → Option (Expr × Str × List Expr)
  | .Call (.Attribute o m ap) as [] p => if ap.endLine == p.line then some (o, m, as) else none
  | _ => none
theorem asMeth_ok {e o : Expr} {m : Str} {as : List Expr} (h : asMeth e = some (o, m, as)) : ∃ ap p, e = .Call (.Attribute o m ap) as [] p ∧ (ap.endLine == p.line) = true := by
  unfold asMeth at h
  split at h
  · split at h
    · rename_i hl
      cases h; exact ⟨_, _, rfl, hl⟩
    · cases h
  · cases h
/-- [elt for tg in iter if ..] -/
def asComp : Expr → Option (Expr × Expr × Expr × List Expr × Scope)
  | .ListComp elt [⟨tg, iter, ifs, k⟩] sc _ => if k = 0 then some (elt, tg, iter, ifs, sc) else none
  | _ => none
theorem asComp_ok {e elt tg iter : Expr} {ifs : List Expr} {sc : Scope} (h : asComp e = some (elt, tg, iter, ifs, sc)) : ∃ p, e = .ListComp elt [⟨tg, iter, ifs, 0⟩] sc p := by
  unfold asComp at h
  split at h
  · split at h
    · rename_i hl
      cases h; subst hl; exact ⟨_, rfl⟩
    · cases h
  · cases h
def asComp2 : Expr → Option (Expr × Expr × Expr × Expr × Expr × Scope)
  | .ListComp elt [⟨tg, iter, [], k⟩, ⟨tg1, iter1, [], k1⟩] sc _ => if k = 0 ∧ k1 = 0 then some (elt, tg, iter, tg1, iter1, sc) else none
  | _ => none
theorem asComp2_ok {e elt tg iter tg1 iter1 : Expr} {sc : Scope} (h : asComp2 e = some (elt, tg, iter, tg1, iter1, sc)) : ∃ p, e = .ListComp elt [⟨tg, iter, [], 0⟩, ⟨tg1, iter1, [], 0⟩] sc p := by
  unfold asComp2 at h
  split at h
  · split at h
    · rename_i hl
      cases h; obtain ⟨h1, h2⟩ := hl; subst h1 h2; exact ⟨_, rfl⟩
    · cases h
  · cases h
def notSt : Expr → Bool
  | .Starred _ _ => false
  | _ => true
theorem star_cons {e : Expr} {es : List Expr} {env : Env} (h : notSt e = true) : starEach (e :: es) env = (false, eval e env) :: starEach es env := by
  cases e <;> first
    | rfl
    | cases h
theorem star_any : ∀ {es : List Expr} {env : Env} {pos : Pos}, es.all notSt = true → (backTo pos (starEach es env)).any (·.1) = false
  | [], _, _, _ => rfl
  | e :: es, env, pos, h => by
    simp only [List.all_cons, Bool.and_eq_true] at h
    rw [star_cons h.1]
    have := star_any (env := env) (pos := pos) h.2
    simpa [backTo] using this
theorem star_all : ∀ {es : List Expr} {env : Env} {pos : Pos}, es.all notSt = true → (backTo pos (starEach es env)).all (fun x => !x.1) = true
  | [], _, _, _ => rfl
  | e :: es, env, pos, h => by
    simp only [List.all_cons, Bool.and_eq_true] at h
    rw [star_cons h.1]
    have := star_all (env := env) (pos := pos) h.2
    simpa [backTo] using this
def notSl : Expr → Bool
  | .Slice _ _ _ _ => false
  | _ => true
theorem plainIx {b : Expr} (h : notSl b = true) : PlainIx b := by
  intro o i
  cases b <;> first
    | rfl
    | cases h
def visB (sc : Scope) (x : Str) : Bool := match sc.names.lookup x with
  | some .local => true
  | some .cell => true
  | some .free => true
  | _ => false
theorem visB_ok {sc : Scope} {x : Str} (h : visB sc x = true) : Vis sc x := by
  unfold visB at h
  split at h
  · exact .inl (by assumption)
  · exact .inr (.inl (by assumption))
  · exact .inr (.inr (by assumption))
  · cases h
def dbgOk (x : Str) : Bool := !(x == ("__debug__" : Str)) && !(x == ("__classdict__" : Str)) && !(x == ("__name__" : Str))
def glB (sc : Scope) (x : Str) : Bool := (match sc.names.lookup x with
  | some .globalImplicit => true
  | _ => false) && dbgOk x
theorem glB_ok {x : Str} (h : glB X.env.scope x = true) : Gl X x ∧ (x == ("__debug__" : Str)) = false ∧ x ≠ ("__name__" : Str) := by
  unfold glB dbgOk at h
  simp only [Bool.and_eq_true, Bool.not_eq_true'] at h
  obtain ⟨h1, ⟨h2, h3⟩, h4⟩ := h
  refine ⟨?_, h2, fun e => by subst e; simp at h4⟩
  split at h1
  · assumption
  · cases h1
end
end LS

set_option Elab.async false
set_option linter.all false
set_option maxRecDepth 100000
set_option maxHeartbeats 1000000
/-! LS8: expressions, each construct. -/
namespace LS
open PySem PySem.Spec PyProof.Rows L2
section
variable {X : Cx} {xc : V → Str → Prop} {W : WX} {G : Fns} {gc : GC} {H0 : Hp × Hp} {F H : Hp} {ρ : En} {σ : L2.St} {Q : VK} {r : Ro}
/-- a list of values -/
theorem rdL {es : Es} {k : List D → Option Ro} (R : Rel X.K X.mg xc H0 F ρ σ H) (ev : bndL (evEs G es ρ) k = some r) (post : PostE X xc W F H σ Q r) {S : List V → Hp → Prop}
    (hk : ∀ ds vs F1 H1, k ds = some r → Ext F H F1 H1 → Reps X.K X.mg xc F1 vs ds → S vs H1) : tL X xc W G es σ H S := by
  cases e : evEs G es ρ with
  | none => rw [e] at ev; cases ev
  | some ra =>
    cases ra with
    | x c =>
      rw [e] at ev
      cases ev
      exact ⟨H0, F, ρ, _, R, e, post⟩
    | v ds =>
      rw [e] at ev
      exact ⟨H0, F, ρ, _, R, e, fun vs F1 H1 x1 ok => hk ds vs F1 H1 ev x1 ok⟩
theorem e_var {i : Nat} {x : Str} {pos : Pos} (hN : X.N[i]? = some x) (hv : visB X.env.scope x = true) (hd : dbgOk x = true) : PE X (.Name x pos) (tE X xc W G (.var i)) := by
  unfold dbgOk at hd
  simp only [Bool.and_eq_true, Bool.not_eq_true'] at hd
  refine (pe_var hN (visB_ok hv) hd.1.1 hd.1.2).of fun σ H Q ⟨H0, F, ρ, r, R, ev, post⟩ => ?_
  have ev' : (match look ρ i with
    | .fz d => cl d
    | .ow d => some (.v .raw d)
    | .bg _ d => some (.v .raw d)
    | .un => none) = some r := ev
  cases e : look ρ i with
  | un => rw [e] at ev'; cases ev'
  | fz d =>
    rw [e] at ev'
    cases ev'
    obtain ⟨v, h1, h2⟩ := R.var e
    exact ⟨v, h1, post v F H (.refl R.sub) h2⟩
  | ow d =>
    rw [e] at ev'
    cases ev'
    obtain ⟨p, h1, _, _, h2⟩ := R.own e
    exact ⟨_, h1, post _ F H (.refl R.sub) ⟨p, rfl, h2⟩⟩
  | bg o d =>
    rw [e] at ev'
    cases ev'
    obtain ⟨p, h1, _, _, h2⟩ := R.behind e
    exact ⟨_, h1, post _ F H (.refl R.sub) ⟨p, rfl, h2.mono (Same.refl _) fun o z => R.base.h _ _ z⟩⟩
theorem Cst.rep (c : Cst) : Rep X.K X.mg xc F c.v c.d := by
  cases c with
  | non => exact .non
  | bl b => exact .bl b
  | int i => exact .int i
  | str x => exact .str x
theorem tC_of (c : Cst) {e : E} (he : ∀ ρ, evE G e ρ = cl c.d) : ∀ σ H Q, tE X xc W G e σ H Q → tC c.v σ H Q := fun σ H Q ⟨H0, F, ρ, r, R, ev, post⟩ => by
  rw [he] at ev
  cases ev
  exact post _ F H (.refl R.sub) c.rep
def cstB : Cst → Const → Bool
  | .non, .none => true
  | .bl a, .bool b => a == b
  | .int a, .int b => a == b
  | .str a, .str b => a == b
  | _, _ => false
theorem e_cst {c : Cst} {k : Const} {j : Nat} {pos : Pos} (h : cstB c k = true) : PE X (.Constant k j pos) (tE X xc W G (.cst c)) := by
  cases c with
  | non =>
    cases k <;> first
      | exact pe_non.of (tC_of .non fun _ => rfl)
      | cases h
  | bl a =>
    cases k <;> first
      | (cases (beq_iff_eq.mp h : a = _); exact pe_bl.of (tC_of (.bl a) fun _ => rfl))
      | cases h
  | int a =>
    cases k <;> first
      | (cases (beq_iff_eq.mp h : a = _); exact pe_int.of (tC_of (.int a) fun _ => rfl))
      | cases h
  | str a =>
    cases k <;> first
      | (cases (beq_iff_eq.mp h : a = _); exact pe_str.of (tC_of (.str a) fun _ => rfl))
      | cases h
theorem e_glb (C : Ctx gc G X xc W) {x : Str} {c : Cst} {pos : Pos} (hg : glB X.env.scope x = true) (hc : gc.cts.lookup x = some c) : PE X (.Name x pos) (tE X xc W G (.glb x c)) := by
  obtain ⟨g1, g2, _⟩ := glB_ok hg
  obtain ⟨u, h1, h2⟩ := C.ct x c hc
  exact (pe_glob g1 h1 h2 g2).of (tC_of c fun _ => rfl)
theorem e_neg {a : E} {e : Expr} {pos : Pos} (ha : PE X e (tE X xc W G a)) : PE X (.UnaryOp .USub e pos) (tE X xc W G (.neg a)) := by
  refine (pe_un un_neg ha).of fun σ H Q ⟨H0, F, ρ, r, R, ev, post⟩ => ?_
  refine rd1 R ev post fun m d x F1 H1 ev1 x1 ok1 => ?_
  split at ev1
  · cases ev1
    obtain rfl := ok1.vr.int
    exact ⟨_, rfl, post _ F1 H1 x1 (.int _)⟩
  · cases ev1
theorem e_not {a : E} {e : Expr} {pos : Pos} (ha : PE X e (tE X xc W G a)) : PE X (.UnaryOp .Not e pos) (tE X xc W G (.not a)) := by
  refine (pe_not ha).of fun σ H Q ⟨H0, F, ρ, r, R, ev, post⟩ => ?_
  refine rd1 R ev post fun m d x F1 H1 ev1 x1 ok1 => ?_
  split at ev1
  · cases ev1
    obtain rfl := ok1.vr.bl
    exact ⟨_, rfl, post _ F1 H1 x1 (.bl _)⟩
  · cases ev1
theorem e_tup {es : Es} {as : List Expr} {k : Nat} {pos : Pos} (ha : PA X as (tL X xc W G es)) : PE X (.Tuple as k pos) (tE X xc W G (.tup es)) := by
  refine (pe_tup ha).of fun σ H Q ⟨H0, F, ρ, r, R, ev, post⟩ => ?_
  refine rdL R ev post fun ds vs F1 H1 ev1 x1 ok1 => ?_
  split at ev1
  · rename_i hl
    cases ev1
    refine ⟨by rw [ok1.length]; exact le_line hl, fun p hp => ?_⟩
    refine post _ (upd F1 p (.tup vs)) _ (x1.trans (Ext.newF x1.s hp)) (.tup upd_same (ok1.mono (same_upd (x1.s.free hp))))
  · cases ev1
theorem e_lst {es : Es} {as : List Expr} {pos : Pos} (ha : PA X as (tL X xc W G es)) : PE X (.List as pos) (tE X xc W G (.lst es)) := by
  refine (pe_lst ha).of fun σ H Q ⟨H0, F, ρ, r, R, ev, post⟩ => ?_
  refine rdL R ev post fun ds vs F1 H1 ev1 x1 ok1 => ?_
  split at ev1
  · rename_i hl
    cases ev1
    refine ⟨by rw [ok1.length]; exact le_line hl, fun p hp => ?_⟩
    exact post _ F1 _ (x1.trans (Ext.newH x1.s hp)) ⟨p, rfl, x1.s.free hp, x1.h.free hp, vs, upd_same, ok1⟩
  · cases ev1
theorem e_dnt {pos : Pos} : PE X (.Dict [] [] pos) (tE X xc W G .dnt) := by
  refine pe_dnewT.of fun σ H Q ⟨H0, F, ρ, r, R, ev, post⟩ p hp => ?_
  have ev' : fr (.dct []) = some r := ev
  cases ev'
  exact post _ F _ (Ext.newH R.sub hp) ⟨p, rfl, R.sub.free hp, hp, [], upd_same, .nil⟩
theorem e_dnk {pos : Pos} : PE X (.Dict [] [] pos) (tE X xc W G .dnk) := by
  refine pe_dnewK.of fun σ H Q ⟨H0, F, ρ, r, R, ev, post⟩ p hp => ?_
  have ev' : fr (.dck []) = some r := ev
  cases ev'
  exact post _ F _ (Ext.newH R.sub hp) ⟨p, rfl, R.sub.free hp, hp, [], upd_same, .nil⟩
theorem e_bin {o : BO} {a b : E} {e f : Expr} {pos : Pos} (ha : PE X e (tE X xc W G a)) (hb : PE X f (tE X xc W G b)) : PE X (.BinOp e (boOp o) f pos) (tE X xc W G (.bin o a b)) := by
  refine (pe_op (bop_ok (xc := xc) o) ha hb).of fun σ H Q ⟨H0, F, ρ, r, R, ev, post⟩ => ?_
  refine rd2 R ev post fun d e x y F2 H2 ev2 x2 vx vy => ?_
  obtain ⟨m, z, rfl⟩ := bop_v ev2
  exact ⟨F2, d, e, m, z, x2.s, vx, vy, ev2, fun v F' H' x3 ok => post v F' H' (x2.trans x3) (ok.start x2.h)⟩
theorem e_cmp (C : Ctx gc G X xc W) {o : CO} {a b : E} {e f : Expr} {pos : Pos} (ha : PE X e (tE X xc W G a)) (hb : PE X f (tE X xc W G b)) (hm : behindInMarks (coOp o) f = false) : PE X (.Compare e [coOp o] [f] pos) (tE X xc W G (.cmp o a b)) := by
  refine (pe_cmpR (cop_ok (xc := xc) o C.hu) ha hb hm).of fun σ H Q ⟨H0, F, ρ, r, R, ev, post⟩ => ?_
  refine rd2 (k := fun x y => blO (cop o x y)) R ev post fun d e x y F2 H2 ev2 x2 vx vy => ?_
  obtain ⟨c, h1, rfl⟩ := blO_v ev2
  exact ⟨F2, d, e, c, x2.s, vx, vy, h1, post _ F2 H2 x2 (.bl c)⟩
theorem t_cmp (C : Ctx gc G X xc W) {o : CO} {a b : E} {e f : Expr} {pos : Pos} (ha : PE X e (tE X xc W G a)) (hb : PE X f (tE X xc W G b)) (hm : behindInMarks (coOp o) f = false) : PT X (.Compare e [coOp o] [f] pos) (tT X xc W G (.cmp o a b)) := by
  refine (pt_cmpR (cop_ok (xc := xc) o C.hu) ha hb hm).of fun σ H Q ⟨H0, F, ρ, r, R, ev, post⟩ => ?_
  have post' : PostE X xc W F H σ (fun x H' => ∃ k, x = .bl k ∧ Q k H') r := by
    cases r with
    | x c => exact post
    | v m d => cases d with
      | bl b => exact fun v F' H' x ok => ⟨b, ok.vr.bl, post F' H' x⟩
      | _ => exact False.elim post
  refine rd2 (k := fun x y => blO (cop o x y)) R ev post' fun d e x y F2 H2 ev2 x2 vx vy => ?_
  obtain ⟨c, h1, rfl⟩ := blO_v ev2
  exact ⟨F2, d, e, c, x2.s, vx, vy, h1, post' _ F2 H2 x2 (.bl c)⟩
theorem PostB.e {Q : Bool → Hp → Prop} (post : PostB X xc W F H σ Q r) : PostE X xc W F H σ (fun x H' => ∃ k, x = .bl k ∧ Q k H') r := by
  cases r with
  | x c => exact post
  | v m d => cases d with
    | bl b => exact fun v F' H' x ok => ⟨b, ok.vr.bl, post F' H' x⟩
    | _ => exact False.elim post
theorem chain_of (R : Rel X.K X.mg xc H0 F ρ σ H) {o1 o2 : CO} {a b c : E} (ev : evE G (.chain o1 o2 a b c) ρ = some r) (post : PostE X xc W F H σ Q r) :
    tChain (rC2 X.K X.mg xc (cop o1)) (rC2 X.K X.mg xc (cop o2)) (tE X xc W G a) (tE X xc W G b) (tE X xc W G c) σ H Q := by
  refine rd1 R ev post fun m d x F1 H1 ev1 x1 ok1 => ?_
  refine rd1 (R.ext x1) ev1 (post.later x1) fun m2 e y F2 H2 ev2 x2 ok2 => ?_
  split at ev2
  · rename_i h
    refine ⟨F2, d, e, true, x2.s, ok1.vr.ext x2, ok2.vr, h, true, rfl, ?_⟩
    rw [if_pos rfl]
    refine rd1 ((R.ext x1).ext x2) ev2 ((post.later x1).later x2) fun m3 g z F3 H3 ev3 x3 ok3 => ?_
    obtain ⟨k, h1, rfl⟩ := blO_v ev3
    exact ⟨F3, e, g, k, x3.s, ok2.vr.ext x3, ok3.vr, h1, post _ F3 H3 ((x1.trans x2).trans x3) (.bl k)⟩
  · rename_i h
    cases ev2
    refine ⟨F2, d, e, false, x2.s, ok1.vr.ext x2, ok2.vr, h, false, rfl, ?_⟩
    rw [if_neg Bool.false_ne_true]
    exact post _ F2 H2 (x1.trans x2) (.bl false)
  · cases ev2
theorem e_chain (C : Ctx gc G X xc W) {o1 o2 : CO} {a b c : E} {e f g : Expr} {pos : Pos} (ha : PE X e (tE X xc W G a)) (hb : PE X f (tE X xc W G b)) (hc : PE X g (tE X xc W G c)) (hm : lastMarks [coOp o1, coOp o2] [f, g] = false) :
    PE X (.Compare e [coOp o1, coOp o2] [f, g] pos) (tE X xc W G (.chain o1 o2 a b c)) :=
  (pe_chain (cop_ok (xc := xc) o1 C.hu) (cop_ok (xc := xc) o2 C.hu) ha hb hc hm).of fun σ H Q ⟨H0, F, ρ, r, R, ev, post⟩ => chain_of R ev post
theorem t_chain (C : Ctx gc G X xc W) {o1 o2 : CO} {a b c : E} {e f g : Expr} {pos : Pos} (ha : PE X e (tE X xc W G a)) (hb : PE X f (tE X xc W G b)) (hc : PE X g (tE X xc W G c)) (hm : lastMarks [coOp o1, coOp o2] [f, g] = false) :
    PT X (.Compare e [coOp o1, coOp o2] [f, g] pos) (tT X xc W G (.chain o1 o2 a b c)) :=
  (pt_chain (cop_ok (xc := xc) o1 C.hu) (cop_ok (xc := xc) o2 C.hu) ha hb hc hm).of fun σ H Q ⟨H0, F, ρ, r, R, ev, post⟩ => chain_of R ev post.e
/-- a test -/
theorem rdT {a : E} {k : Bool → Option Ro} (R : Rel X.K X.mg xc H0 F ρ σ H) (ev : (bnd (evE G a ρ) fun _ d => match d with
    | .bl b => k b
    | _ => none) = some r) (post : PostE X xc W F H σ Q r) {S : Bool → Hp → Prop}
    (hk : ∀ b F1 H1, k b = some r → Ext F H F1 H1 → S b H1) : tT X xc W G a σ H S := by
  cases e : evE G a ρ with
  | none => rw [e] at ev; cases ev
  | some ra =>
    cases ra with
    | x c =>
      rw [e] at ev
      cases ev
      exact ⟨H0, F, ρ, _, R, e, post⟩
    | v m d =>
      rw [e] at ev
      cases d with
      | bl b => exact ⟨H0, F, ρ, _, R, e, fun F1 H1 x1 => hk b F1 H1 ev x1⟩
      | _ => cases ev
theorem e_ite {t a b : E} {e f g : Expr} {pos : Pos} (ht : PT X e (tT X xc W G t)) (ha : PE X f (tE X xc W G a)) (hb : PE X g (tE X xc W G b)) : PE X (.IfExp e f g pos) (tE X xc W G (.ite t a b)) := by
  refine (pe_ifExp ht ha hb).of fun σ H Q ⟨H0, F, ρ, r, R, ev, post⟩ => ?_
  have ev' : (bnd (evE G t ρ) fun _ d => match d with
    | .bl b' => (if b' = true then evE G a ρ else evE G b ρ)
    | _ => none) = some r := by
    rw [← ev]
    show _ = bnd (evE G t ρ) fun _ d => match d with
    | .bl true => evE G a ρ
    | .bl false => evE G b ρ
    | _ => none
    congr 1
    funext _ d
    cases d with
    | bl b' => cases b' <;> rfl
    | _ => rfl
  refine rdT R ev' post fun b' F1 H1 ev1 x1 => ?_
  cases b' with
  | true => exact ⟨H0, F1, ρ, r, R.ext x1, ev1, post.later x1⟩
  | false => exact ⟨H0, F1, ρ, r, R.ext x1, ev1, post.later x1⟩
theorem t_not {a : E} {e : Expr} {pos : Pos} (ha : PT X e (tT X xc W G a)) : PT X (.UnaryOp .Not e pos) (tT X xc W G (.not a)) := by
  refine (pt_not ha).of fun σ H Q ⟨H0, F, ρ, r, R, ev, post⟩ => ?_
  refine rdT (k := fun b => cl (.bl (!b))) R ev post.e fun b F1 H1 ev1 x1 => ?_
  cases ev1
  exact post F1 H1 x1
def ptPlain : Expr → Bool
  | .UnaryOp .Not _ _ => false
  | .BoolOp _ _ _ => false
  | .IfExp _ _ _ _ => false
  | .Compare _ _ _ _ => false
  | _ => true
theorem ptPlain_ok {e : Expr} (h : ptPlain e = true) (whole : Sem Value) : isTrue e X.env whole = (do let v ← whole; standAt e.pos; holding [v] (truthy v)) := by
  cases e with
  | UnaryOp o a p => cases o <;> first
    | rfl
    | cases h
  | BoolOp _ _ _ => cases h
  | IfExp _ _ _ _ => cases h
  | Compare _ _ _ _ => cases h
  | _ => rfl
theorem t_val {a : E} {e : Expr} (h : PE X e (tE X xc W G a)) (hp : ptPlain e = true) : PT X e (tT X xc W G a) :=
  (pt_val h fun w => ptPlain_ok hp w).of fun σ H Q ⟨H0, F, ρ, r, R, ev, post⟩ => ⟨H0, F, ρ, r, R, ev, post.e⟩
/-! and, or -/
def tA (X : Cx) (xc : V → Str → Prop) (W : WX) (G : Fns) (es : Es) : TE := fun σ H Q => ∃ H0 F ρ r, Rel X.K X.mg xc H0 F ρ σ H ∧ evA G es ρ = some r ∧ PostE X xc W F H σ Q r
def tO (X : Cx) (xc : V → Str → Prop) (W : WX) (G : Fns) (es : Es) : TE := fun σ H Q => ∃ H0 F ρ r, Rel X.K X.mg xc H0 F ρ σ H ∧ evO G es ρ = some r ∧ PostE X xc W F H σ Q r
def tAT (X : Cx) (xc : V → Str → Prop) (W : WX) (G : Fns) (es : Es) : TT := fun σ H Q => ∃ H0 F ρ r, Rel X.K X.mg xc H0 F ρ σ H ∧ evA G es ρ = some r ∧ PostB X xc W F H σ Q r
def tOT (X : Cx) (xc : V → Str → Prop) (W : WX) (G : Fns) (es : Es) : TT := fun σ H Q => ∃ H0 F ρ r, Rel X.K X.mg xc H0 F ρ σ H ∧ evO G es ρ = some r ∧ PostB X xc W F H σ Q r
theorem a_one {a : E} {e : Expr} {pos : Pos} (ha : PE X e (tE X xc W G a)) : PE X (.BoolOp .And [e] pos) (tA X xc W G (.cons a .nil)) := by
  refine (pe_one ha).of fun σ H Q ⟨H0, F, ρ, r, R, ev, post⟩ => ?_
  refine rd1 (k := fun _ d => match d with
      | .bl b => cl (.bl b)
      | _ => none) R ev post fun m d x F1 H1 ev1 x1 ok1 => ?_
  split at ev1
  · cases ev1
    obtain rfl := ok1.vr.bl
    exact post _ F1 H1 x1 (.bl _)
  · cases ev1
theorem o_one {a : E} {e : Expr} {pos : Pos} (ha : PE X e (tE X xc W G a)) : PE X (.BoolOp .Or [e] pos) (tO X xc W G (.cons a .nil)) := by
  refine (pe_one ha).of fun σ H Q ⟨H0, F, ρ, r, R, ev, post⟩ => ?_
  refine rd1 (k := fun _ d => match d with
      | .bl b => cl (.bl b)
      | _ => none) R ev post fun m d x F1 H1 ev1 x1 ok1 => ?_
  split at ev1
  · cases ev1
    obtain rfl := ok1.vr.bl
    exact post _ F1 H1 x1 (.bl _)
  · cases ev1
theorem a_cons {a b : E} {es : Es} {e f : Expr} {rest : List Expr} {pos : Pos} (ha : PE X e (tE X xc W G a)) (hr : PE X (.BoolOp .And (f :: rest) pos) (tA X xc W G (.cons b es))) : PE X (.BoolOp .And (e :: f :: rest) pos) (tA X xc W G (.cons a (.cons b es))) := by
  refine (pe_and ha hr).of fun σ H Q ⟨H0, F, ρ, r, R, ev, post⟩ => ?_
  refine rd1 (k := fun _ d => match d with
      | .bl true => evA G (.cons b es) ρ
      | .bl false => cl (.bl false)
      | _ => none) R ev post fun m d x F1 H1 ev1 x1 ok1 => ?_
  split at ev1
  · obtain rfl := ok1.vr.bl
    refine ⟨true, rfl, ?_⟩
    rw [if_pos rfl]
    exact ⟨H0, F1, ρ, r, R.ext x1, ev1, post.later x1⟩
  · obtain rfl := ok1.vr.bl
    cases ev1
    refine ⟨false, rfl, ?_⟩
    rw [if_neg Bool.false_ne_true]
    exact post _ F1 H1 x1 (.bl false)
  · cases ev1
theorem o_cons {a b : E} {es : Es} {e f : Expr} {rest : List Expr} {pos : Pos} (ha : PE X e (tE X xc W G a)) (hr : PE X (.BoolOp .Or (f :: rest) pos) (tO X xc W G (.cons b es))) : PE X (.BoolOp .Or (e :: f :: rest) pos) (tO X xc W G (.cons a (.cons b es))) := by
  refine (pe_or ha hr).of fun σ H Q ⟨H0, F, ρ, r, R, ev, post⟩ => ?_
  refine rd1 (k := fun _ d => match d with
      | .bl true => cl (.bl true)
      | .bl false => evO G (.cons b es) ρ
      | _ => none) R ev post fun m d x F1 H1 ev1 x1 ok1 => ?_
  split at ev1
  · obtain rfl := ok1.vr.bl
    cases ev1
    refine ⟨true, rfl, ?_⟩
    rw [if_pos rfl]
    exact post _ F1 H1 x1 (.bl true)
  · obtain rfl := ok1.vr.bl
    refine ⟨false, rfl, ?_⟩
    rw [if_neg Bool.false_ne_true]
    exact ⟨H0, F1, ρ, r, R.ext x1, ev1, post.later x1⟩
  · cases ev1
theorem at_one {a : E} {e : Expr} {pos : Pos} (ha : PT X e (tT X xc W G a)) : PW X (.BoolOp .And [e] pos) (tAT X xc W G (.cons a .nil)) := by
  refine (pw_and1 ha).of fun σ H Q ⟨H0, F, ρ, r, R, ev, post⟩ => ?_
  refine rdT (k := fun b => cl (.bl b)) R ev post.e fun b F1 H1 ev1 x1 => ?_
  cases ev1
  exact post F1 H1 x1
theorem ot_one {a : E} {e : Expr} {pos : Pos} (ha : PT X e (tT X xc W G a)) : PW X (.BoolOp .Or [e] pos) (tOT X xc W G (.cons a .nil)) := by
  refine (pw_or1 ha).of fun σ H Q ⟨H0, F, ρ, r, R, ev, post⟩ => ?_
  refine rdT (k := fun b => cl (.bl b)) R ev post.e fun b F1 H1 ev1 x1 => ?_
  cases ev1
  exact post F1 H1 x1
theorem PostB.later {Q : Bool → Hp → Prop} {F1 H1 : Hp} (x : Ext F H F1 H1) (p : PostB X xc W F H σ Q r) : PostB X xc W F1 H1 σ Q r := by
  cases r with
  | v m d => cases d with
    | bl b => exact fun F' H' x' => p F' H' (x.trans x')
    | _ => exact p
  | x c => exact fun C F' H' hc x' => p C F' H' hc (x.trans x')
theorem at_cons {a b : E} {es : Es} {e f : Expr} {rest : List Expr} {pos : Pos} (ha : PT X e (tT X xc W G a)) (hr : PW X (.BoolOp .And (f :: rest) pos) (tAT X xc W G (.cons b es))) : PW X (.BoolOp .And (e :: f :: rest) pos) (tAT X xc W G (.cons a (.cons b es))) := by
  refine (pw_and ha hr).of fun σ H Q ⟨H0, F, ρ, r, R, ev, post⟩ => ?_
  have ev' : (bnd (evE G a ρ) fun _ d => match d with
    | .bl b' => (if b' = true then evA G (.cons b es) ρ else cl (.bl false))
    | _ => none) = some r := by
    rw [← ev]
    show _ = bnd (evE G a ρ) fun _ d => match d with
    | .bl true => evA G (.cons b es) ρ
    | .bl false => cl (.bl false)
    | _ => none
    congr 1
    funext _ d
    cases d with
    | bl b' => cases b' <;> rfl
    | _ => rfl
  refine rdT R ev' post.e fun b' F1 H1 ev1 x1 => ?_
  cases b' with
  | true => exact ⟨H0, F1, ρ, r, R.ext x1, ev1, post.later x1⟩
  | false =>
    rw [if_neg Bool.false_ne_true] at ev1
    cases ev1
    exact post F1 H1 x1
theorem ot_cons {a b : E} {es : Es} {e f : Expr} {rest : List Expr} {pos : Pos} (ha : PT X e (tT X xc W G a)) (hr : PW X (.BoolOp .Or (f :: rest) pos) (tOT X xc W G (.cons b es))) : PW X (.BoolOp .Or (e :: f :: rest) pos) (tOT X xc W G (.cons a (.cons b es))) := by
  refine (pw_or ha hr).of fun σ H Q ⟨H0, F, ρ, r, R, ev, post⟩ => ?_
  have ev' : (bnd (evE G a ρ) fun _ d => match d with
    | .bl b' => (if b' = true then cl (.bl true) else evO G (.cons b es) ρ)
    | _ => none) = some r := by
    rw [← ev]
    show _ = bnd (evE G a ρ) fun _ d => match d with
    | .bl true => cl (.bl true)
    | .bl false => evO G (.cons b es) ρ
    | _ => none
    congr 1
    funext _ d
    cases d with
    | bl b' => cases b' <;> rfl
    | _ => rfl
  refine rdT R ev' post.e fun b' F1 H1 ev1 x1 => ?_
  cases b' with
  | true =>
    rw [if_pos rfl] at ev1
    cases ev1
    exact post F1 H1 x1
  | false => exact ⟨H0, F1, ρ, r, R.ext x1, ev1, post.later x1⟩
/-! subscripts -/
theorem nosl {b : Expr} (h : notSl b = true) : NoSl b := by
  intro o i
  cases b <;> first
    | rfl
    | cases h
theorem look_t {kvs : List (List Key × V)} {es : List (List Int × D)} {ns : List Int} {z : D} (k : KTs X.K X.mg xc F kvs es) (h : lookT ns es = some z) : ∃ v, valV kvs (ns.map Sum.inl) = some v ∧ Rep X.K X.mg xc F v z := by
  have q := k.val ns
  rw [h] at q
  exact q
theorem look_k {kvs : List (Key × V)} {es : List (Int × D)} {n : Int} {z : D} (k : KIs X.K X.mg xc F kvs es) (h : lookI n es = some z) : ∃ v, valV kvs (Sum.inl n) = some v ∧ Rep X.K X.mg xc F v z := by
  have q := k.val n
  rw [h] at q
  exact q
theorem ixD_dct {kvs : List (List Int × D)} {y z : D} (h : ixD (.dct kvs) y = some z) : ∃ ks ns, y = .tup ks ∧ intsD ks = some ns ∧ lookT ns kvs = some z := by
  cases y with
  | tup ks =>
    have h' : ((intsD ks).bind fun ns => lookT ns kvs) = some z := h
    cases q : intsD ks with
    | none => rw [q] at h'; cases h'
    | some ns => rw [q] at h'; exact ⟨ks, ns, rfl, q, h'⟩
  | _ => cases h
theorem ixD_dck {kvs : List (Int × D)} {y z : D} (h : ixD (.dck kvs) y = some z) : ∃ n, y = .int n ∧ lookI n kvs = some z := by
  cases y with
  | int n => exact ⟨n, rfl, h⟩
  | _ => cases h
theorem ixD_ldt {kvs : List (List Int × D)} {y z : D} (h : ixD (.ldt kvs) y = some z) : ∃ ks ns, y = .tup ks ∧ intsD ks = some ns ∧ lookT ns kvs = some z := by
  cases y with
  | tup ks =>
    have h' : ((intsD ks).bind fun ns => lookT ns kvs) = some z := h
    cases q : intsD ks with
    | none => rw [q] at h'; cases h'
    | some ns => rw [q] at h'; exact ⟨ks, ns, rfl, q, h'⟩
  | _ => cases h
theorem e_ix (C : Ctx gc G X xc W) {a b : E} {e f : Expr} {pos : Pos} (ha : PE X e (tE X xc W G a)) (hb : PE X f (tE X xc W G b)) (hs : notSl f = true) : PE X (.Subscript e f pos) (tE X xc W G (.ix a b)) := by
  refine ⟨fun pins s σ H Q I ⟨H0, F, ρ, r, R, ev, post⟩ => ?_⟩
  have hev : evE G (.ix a b) ρ = bnd (evE G a ρ) fun _ x => bnd (evE G b ρ) fun _ y => clO (ixD x y) := rfl
  by_cases hd : ∃ m d, evE G a ρ = some (.v m d) ∧ notDict d = false
  · obtain ⟨m0, d0, he, hn⟩ := hd
    have hu : X.A.units + 1 < cLine := Nat.lt_of_le_of_lt (by omega) C.hu
    refine (pe_dget hu ha hb (nosl hs)).run pins s σ H Q I ?_
    rw [hev, he] at ev
    refine ⟨H0, F, ρ, _, R, he, fun x F1 H1 x1 ok1 => ?_⟩
    refine rd1 (k := fun _ y => clO (ixD d0 y)) (R.ext x1) ev (post.later x1) fun m2 e2 y F2 H2 ev2 x2 ok2 => ?_
    obtain ⟨z, h1, rfl⟩ := clO_v ev2
    have vx := ok1.vr.ext x2
    cases d0 with
    | dct kvs =>
      obtain ⟨ks, ns, rfl, q, h2⟩ := ixD_dct h1
      obtain ⟨pd, kv, rfl, dg, k⟩ := dget_t x2.s ok2.vr q vx
      obtain ⟨v, e1, e2⟩ := look_t k h2
      rw [e1] at dg
      exact ⟨_, v, rfl, dg, post v F2 H2 (x1.trans x2) e2⟩
    | ldt kvs =>
      obtain ⟨ks, ns, rfl, q, h2⟩ := ixD_ldt h1
      obtain ⟨pd, kv, rfl, dg, k⟩ := dget_l x2.s ok2.vr q vx
      obtain ⟨v, e1, e2⟩ := look_t k h2
      rw [e1] at dg
      exact ⟨_, v, rfl, dg, post v F2 H2 (x1.trans x2) e2⟩
    | dck kvs =>
      obtain ⟨n, rfl, h2⟩ := ixD_dck h1
      obtain ⟨pd, kv, rfl, dg, k⟩ := dget_k x2.s ok2.vr vx
      obtain ⟨v, e1, e2⟩ := look_k k h2
      rw [e1] at dg
      exact ⟨_, v, rfl, dg, post v F2 H2 (x1.trans x2) e2⟩
    | _ => cases hn
  · refine (pe_ix (ix_ok (xc := xc)) ha hb (plainIx hs)).run pins s σ H Q I ?_
    cases he : evE G a ρ with
    | none => rw [hev, he] at ev; cases ev
    | some ra =>
      rw [hev, he] at ev
      cases ra with
      | x c => cases ev; exact ⟨H0, F, ρ, _, R, he, post⟩
      | v m0 d0 =>
        have hn : notDict d0 = true := by
          cases q : notDict d0 with
          | true => rfl
          | false => exact absurd ⟨m0, d0, he, q⟩ hd
        refine ⟨H0, F, ρ, _, R, he, fun x F1 H1 x1 ok1 => ?_⟩
        refine rd1 (k := fun _ y => clO (ixD d0 y)) (R.ext x1) ev (post.later x1) fun m2 e2 y F2 H2 ev2 x2 ok2 => ?_
        obtain ⟨z, h1, rfl⟩ := clO_v ev2
        exact ⟨F2, d0, e2, z, x2.s, ok1.vr.ext x2, ok2.vr, hn, h1, fun v hv => post v F2 H2 (x1.trans x2) hv⟩
/-! slices -/
theorem slD_v {d : D} {lo hi : Option Int} (h : slD d lo hi = some r) : ∃ m z, r = .v m z := by
  unfold slD at h
  split at h
  · cases h; exact ⟨_, _, rfl⟩
  · cases h; exact ⟨_, _, rfl⟩
  · split at h
    · cases h; exact ⟨_, _, rfl⟩
    · cases h
  · cases h
def tP (X : Cx) (xc : V → Str → Prop) (G : Fns) (o : OE) : TO := fun σ H Q => ∃ H0 F ρ l, Rel X.K X.mg xc H0 F ρ σ H ∧ evP G o ρ = some l ∧ ∀ F' H', Ext F H F' H' → Q l H'
theorem p_no : PO X none (tP X xc G .no) := by
  refine ⟨fun pins s σ H Q I ⟨H0, F, ρ, l, R, ev, post⟩ => po_none.run pins s σ H Q I ?_⟩
  have ev' : some none = some l := ev
  cases ev'
  exact post F H (.refl R.sub)
theorem p_so {a : E} {e : Expr} (ha : PE X e (tE X xc W G a)) : PO X (some e) (tP X xc G (.so a)) := by
  refine ⟨fun pins s σ H Q I ⟨H0, F, ρ, l, R, ev, post⟩ => (po_some ha).run pins s σ H Q I ?_⟩
  have ev' : (match evE G a ρ with
    | some (.v _ (.int i)) => some (some i)
    | _ => none) = some l := ev
  split at ev'
  · rename_i m i he
    cases ev'
    exact ⟨H0, F, ρ, _, R, he, fun v F' H' x ok => ⟨i, ok.vr.int, post F' H' x⟩⟩
  · cases ev'
theorem e_sl {a : E} {lo hi : OE} {e : Expr} {l h : Option Expr} {p2 pos : Pos} (ha : PE X e (tE X xc W G a)) (hl : PO X l (tP X xc G lo)) (hh : PO X h (tP X xc G hi)) : PE X (.Subscript e (.Slice l h none p2) pos) (tE X xc W G (.sl a lo hi)) := by
  refine (pe_slice (sl_ok (xc := xc)) ha hl hh).of fun σ H Q ⟨H0, F, ρ, r, R, ev, post⟩ => ?_
  refine rd1 (k := fun _ x => match evP G lo ρ with
    | some l => match evP G hi ρ with
      | some h => slD x l h
      | none => none
    | none => none) R ev post fun m d x F1 H1 ev1 x1 ok1 => ?_
  split at ev1
  · rename_i l' hl'
    split at ev1
    · rename_i h' hh'
      refine ⟨H0, F1, ρ, l', R.ext x1, hl', fun F2 H2 x2 => ⟨H0, F2, ρ, h', (R.ext x1).ext x2, hh', fun F3 H3 x3 => ?_⟩⟩
      obtain ⟨m3, z, rfl⟩ := slD_v ev1
      exact ⟨F3, d, m3, z, x3.s, (ok1.vr.ext x2).ext x3, ev1, fun v F' H' x4 ok => post v F' H' (((x1.trans x2).trans x3).trans x4) (ok.start ((x1.h.trans x2.h).trans x3.h))⟩
    · cases ev1
  · cases ev1
/-! arguments -/
theorem l_nil : PA X [] (tL X xc W G .nil) := by
  refine pa_nil.of fun σ H Q ⟨H0, F, ρ, r, R, ev, post⟩ => ?_
  have ev' : some (.v []) = some r := ev
  cases ev'
  exact post [] F H (.refl R.sub) .nil
theorem l_cons {a : E} {es : Es} {e : Expr} {as : List Expr} (ha : PE X e (tE X xc W G a)) (hr : PA X as (tL X xc W G es)) (hs : notSt e = true) : PA X (e :: as) (tL X xc W G (.cons a es)) := by
  refine (pa_cons ha hr (star_cons hs)).of fun σ H Q ⟨H0, F, ρ, r, R, ev, post⟩ => ?_
  have key : ∀ m d, evE G a ρ = some (.v m d) → m ≠ .raw → (match evEs G es ρ with
      | some (.v ds) => some (.v (d :: ds))
      | q => q) = some r → tE X xc W G a σ H fun x H1 => tL X xc W G es σ H1 fun xs H2 => Q (x :: xs) H2 := fun m d he hm ev1 => by
    refine ⟨H0, F, ρ, _, R, he, fun x F1 H1 x1 ok1 => ?_⟩
    obtain ⟨F2, x2, s2, rep⟩ := ok1.clean x1 hm
    have R2 := R.ext x2
    cases hes : evEs G es ρ with
    | none => rw [hes] at ev1; cases ev1
    | some rl =>
      rw [hes] at ev1
      cases rl with
      | x c =>
        cases ev1
        exact ⟨H0, F2, ρ, _, R2, hes, fun C F' H' hc x' => post C F' H' hc (x2.trans x')⟩
      | v ds =>
        cases ev1
        exact ⟨H0, F2, ρ, _, R2, hes, fun vs F' H' x' rs => post (x :: vs) F' H' (x2.trans x') (.cons (rep.mono x'.f) rs)⟩
  have hev : evEs G (.cons a es) ρ = (match evE G a ρ with
    | some (.v .cl d) => (match evEs G es ρ with
      | some (.v ds) => some (.v (d :: ds))
      | r => r)
    | some (.v .fr d) => (match evEs G es ρ with
      | some (.v ds) => some (.v (d :: ds))
      | r => r)
    | some (.v .raw _) => none
    | some (.x c) => some (.x c)
    | none => none) := rfl
  rw [hev] at ev
  cases he : evE G a ρ with
  | none => rw [he] at ev; cases ev
  | some ra =>
    rw [he] at ev
    cases ra with
    | x c =>
      cases ev
      exact ⟨H0, F, ρ, _, R, he, post⟩
    | v m d =>
      cases m with
      | raw => cases ev
      | cl => exact key .cl d he (fun h => nomatch h) ev
      | fr => exact key .fr d he (fun h => nomatch h) ev
/-! calls -/
theorem sp_of (C : Ctx gc G X xc W) (hh : gc.hot = false) {g : List D → Option Rr} {ds : List D} {vs : List V} {F1 H1 : Hp} (x1 : Ext F H F1 H1) (rs : Reps X.K X.mg xc F1 vs ds)
    (ev : rrO (g ds) = some r) (post : PostE X xc W F H σ Q r) : spD X.K X.mg g vs H1 Q (WE W σ) := by
  have hx := C.nx hh
  subst hx
  cases hg : g ds with
  | none => rw [hg] at ev; cases ev
  | some rr =>
    rw [hg] at ev
    refine ⟨F1, ds, rr, x1.s, rs, hg, ?_⟩
    cases rr with
    | ret d =>
      cases ev
      exact fun v F' H' x' rep => post v F' H' (x1.trans x') rep
    | exc c =>
      cases ev
      exact fun c' F' H' hc x' => post c' F' H' hc (x1.trans x')
theorem e_fn (C : Ctx gc G X xc W) (hh : gc.hot = false) {f : Str} (hm : gc.mkk f = false) {es : Es} {as : List Expr} {p pos : Pos} (hg : glB X.env.scope f = true) (ha : PA X as (tL X xc W G es)) (hst : as.all notSt = true) (hn : as = [] → es = .nil) : PE X (.Call (.Name f p) as [] pos) (tE X xc W G (.fn f es)) := by
  refine ⟨fun pins s σ H Q I ⟨H0, F, ρ, r, R, ev, post⟩ => ?_⟩
  obtain ⟨g1, g2, _⟩ := glB_ok hg
  have hev : evE G (.fn f es) ρ = (match LS.fnOf f G with
    | some g => bndL (evEs G es ρ) fun ds => rrO (g ds)
    | none => none) := rfl
  rw [hev] at ev
  cases hf : LS.fnOf f G with
  | none => rw [hf] at ev; cases ev
  | some g =>
    rw [hf] at ev
    obtain ⟨fa, fd, ps, k, h1, h2, h3, h4, h5⟩ := (C.fn f g hm hf).ex
    have hr : Room k X.A := h4 hh
    cases as with
    | nil =>
      refine wpAny_Call_Name_kw (ld_glob I g1 h1 ?_ g2)
      cases hn rfl
      have ev' : rrO (g []) = some r := ev
      exact PySem.W.callWith_K0 I.kIn h2 (run_fnS (us := []) h5 hr h3 (passAt C.tk σ) I .nil (sp_of C hh (.refl R.sub) .nil ev' post))
    | cons e as =>
      simp only [List.all_cons, Bool.and_eq_true] at hst
      refine (pe_callS h5 hr g1 h1 h2 h3 (passAt C.tk) ha g2 (star_cons hst.1) (star_any hst.2)).run pins s σ H Q I ?_
      exact rdL R ev post fun ds vs F1 H1 ev1 x1 rs => sp_of C hh x1 rs ev1 post
/-! built-ins -/
theorem b1D_v {o : B1} {d : D} (h : b1D o d = some r) : ∃ m z, r = .v m z := by
  cases o <;> (simp only [b1D, clO, lenX, allX, anyX, sumX, maxX, minX, sortedX, ssetX, lsetX, listX, tupleX, intX, strX, cl, fr] at h) <;> (repeat' (split at h)) <;> first
    | (cases h; exact ⟨_, _, rfl⟩)
    | cases h
theorem b2D_v {o : B2} {d e : D} (h : b2D o d e = some r) : ∃ m z, r = .v m z := by
  cases o <;> (simp only [b2D, max2X, min2X, lrangeX, cl, fr] at h) <;> (repeat' (split at h)) <;> first
    | (cases h; exact ⟨_, _, rfl⟩)
    | cases h
theorem one_of {a : E} {o : B1} {f : D → Option Ro} (hf : b1D o = f) {e : Expr} (ha : PE X e (tE X xc W G a)) (hs : notSt e = true) :
    PA X [e] (tCons (tE X xc W G a) tNil) ∧ ∀ σ H Q, tE X xc W G (.b1 o a) σ H Q → tCB (r1D X.K X.mg xc f) (tCons (tE X xc W G a) tNil) σ H Q := by
  refine ⟨pa_cons ha pa_nil (star_cons hs), fun σ H Q ⟨H0, F, ρ, r, R, ev, post⟩ => ?_⟩
  refine rd1 R ev post fun m d x F1 H1 ev1 x1 ok1 => ?_
  rw [hf] at ev1
  obtain ⟨m2, z, rfl⟩ := b1D_v (o := o) (by rw [hf]; exact ev1)
  exact ⟨F1, x, d, m2, z, rfl, x1.s, ok1.vr, ev1, fun v F' H' x3 ok => post v F' H' (x1.trans x3) (ok.start x1.h)⟩
theorem nm_ok {x : Str} (h : bnames.contains x = true) : x ≠ "__name__" := by
  rintro rfl
  revert h
  decide
theorem e_b1B (C : Ctx gc G X xc W) {a : E} {o : B1} {f : D → Option Ro} {id : String} {x : Str} {e : Expr} {p pos : Pos} (hf : b1D o = f) (hc : CallR X (.builtin id) (r1D X.K X.mg xc f)) (hx : bnames.contains x = true) (hv : bootBuiltins x = some (.builtin id))
    (hg : glB X.env.scope x = true) (ha : PE X e (tE X xc W G a)) (hs : notSt e = true) : PE X (.Call (.Name x p) [e] [] pos) (tE X xc W G (.b1 o a)) := by
  obtain ⟨g1, g2, g3⟩ := glB_ok hg
  obtain ⟨h1, h2⟩ := one_of hf ha hs
  exact (pe_callB hc g1 (C.bl x hx) hv h1 g3 g2 (star_cons hs) rfl).of h2
theorem e_b1T (C : Ctx gc G X xc W) {a : E} {o : B1} {f : D → Option Ro} {id : String} {x : Str} {e : Expr} {p pos : Pos} (hf : b1D o = f) (hc : CallR X (.type id) (r1D X.K X.mg xc f)) (hx : bnames.contains x = true) (hv : bootBuiltins x = some (.type id))
    (hg : glB X.env.scope x = true) (ha : PE X e (tE X xc W G a)) (hs : notSt e = true) : PE X (.Call (.Name x p) [e] [] pos) (tE X xc W G (.b1 o a)) := by
  obtain ⟨g1, g2, g3⟩ := glB_ok hg
  obtain ⟨h1, h2⟩ := one_of hf ha hs
  exact (pe_callTy hc g1 (C.bl x hx) hv h1 g3 g2 (star_cons hs) rfl).of h2
theorem e_b2B (C : Ctx gc G X xc W) {a b : E} {o : B2} {f : D → D → Option Ro} {id : String} {x : Str} {e e2 : Expr} {p pos : Pos} (hf : b2D o = f) (hc : CallR X (.builtin id) (r2D X.K X.mg xc f)) (hx : bnames.contains x = true) (hv : bootBuiltins x = some (.builtin id))
    (hg : glB X.env.scope x = true) (ha : PE X e (tE X xc W G a)) (hb : PE X e2 (tE X xc W G b)) (hs : notSt e = true) (hs2 : notSt e2 = true) : PE X (.Call (.Name x p) [e, e2] [] pos) (tE X xc W G (.b2 o a b)) := by
  obtain ⟨g1, g2, g3⟩ := glB_ok hg
  refine (pe_callB hc g1 (C.bl x hx) hv (pa_cons ha (pa_cons hb pa_nil (star_cons hs2)) (star_cons hs)) g3 g2 (star_cons hs) (star_any (by simp [hs2]))).of fun σ H Q ⟨H0, F, ρ, r, R, ev, post⟩ => ?_
  refine rd2 R ev post fun d e x y F2 H2 ev2 x2 vx vy => ?_
  rw [hf] at ev2
  obtain ⟨m2, z, rfl⟩ := b2D_v (o := o) (by rw [hf]; exact ev2)
  exact ⟨F2, x, y, d, e, m2, z, rfl, x2.s, vx, vy, ev2, fun v F' H' x3 ok => post v F' H' (x2.trans x3) (ok.start x2.h)⟩
def b1N : B1 → Option Str
  | .len => some "len"
  | .all => some "all"
  | .any => some "any"
  | .sum => some "sum"
  | .max => some "max"
  | .min => some "min"
  | .list => some "list"
  | .tuple => some "tuple"
  | .int => some "int"
  | .str => some "str"
  | .sorted => none
  | .sset => none
  | .lset => none
def b1C : B1 → Bool
  | .len => false
  | .list => false
  | .tuple => false
  | .int => false
  | .str => false
  | _ => true
theorem e_b1 (C : Ctx gc G X xc W) {a : E} {o : B1} {x : Str} {e : Expr} {p pos : Pos} (hx : b1N o = some x) (hh : b1C o = true → gc.hot = false) (hg : glB X.env.scope x = true) (ha : PE X e (tE X xc W G a)) (hs : notSt e = true) :
    PE X (.Call (.Name x p) [e] [] pos) (tE X xc W G (.b1 o a)) := by
  cases o with
  | len => cases hx; exact e_b1B C rfl len_ok (by decide) boot_len hg ha hs
  | all => cases hx; exact e_b1B C rfl (all_ok (C.calm (hh rfl))) (by decide) (by decide +kernel) hg ha hs
  | any => cases hx; exact e_b1B C rfl (any_ok (C.calm (hh rfl))) (by decide) (by decide +kernel) hg ha hs
  | sum => cases hx; exact e_b1B C rfl (sum_ok (C.calm (hh rfl))) (by decide) (by decide +kernel) hg ha hs
  | max => cases hx; exact e_b1B C rfl (max_ok (C.calm (hh rfl))) (by decide) (by decide +kernel) hg ha hs
  | min => cases hx; exact e_b1B C rfl (min_ok (C.calm (hh rfl)) C.hu) (by decide) (by decide +kernel) hg ha hs
  | list => cases hx; exact e_b1T C rfl list_ok (by decide) (by decide +kernel) hg ha hs
  | tuple => cases hx; exact e_b1T C rfl tuple_ok (by decide) (by decide +kernel) hg ha hs
  | int => cases hx; exact e_b1T C rfl int_ok (by decide) (by decide +kernel) hg ha hs
  | str => cases hx; exact e_b1T C rfl str_ok (by decide) (by decide +kernel) hg ha hs
  | sorted => cases hx
  | sset => cases hx
  | lset => cases hx
def b2N : B2 → Option Str
  | .max => some "max"
  | .min => some "min"
  | .lrange => none
theorem e_b2 (C : Ctx gc G X xc W) (hh : gc.hot = false) {a b : E} {o : B2} {x : Str} {e e2 : Expr} {p pos : Pos} (hx : b2N o = some x) (hg : glB X.env.scope x = true) (ha : PE X e (tE X xc W G a)) (hb : PE X e2 (tE X xc W G b)) (hs : notSt e = true) (hs2 : notSt e2 = true) :
    PE X (.Call (.Name x p) [e, e2] [] pos) (tE X xc W G (.b2 o a b)) := by
  cases o with
  | max => cases hx; exact e_b2B C rfl (max2_ok (C.calm hh)) (by decide) (by decide +kernel) hg ha hb hs hs2
  | min => cases hx; exact e_b2B C rfl (min2_ok (C.calm hh) C.hu) (by decide) (by decide +kernel) hg ha hb hs hs2
  | lrange => cases hx
/-! isinstance -/
def tyD : D → String
  | .non => "NoneType"
  | .bl _ => "bool"
  | .int _ => "int"
  | .str _ => "str"
  | .tup _ => "tuple"
  | .lst _ => "list"
  | _ => "?"
theorem isiT_ok {t : String} (h : isiT t = true) : t = "int" ∨ t = "bool" ∨ t = "str" ∨ t = "tuple" ∨ t = "list" := by
  unfold isiT at h
  simp only [Bool.or_eq_true, beq_iff_eq] at h
  rcases h with (((h | h) | h) | h) | h
  · exact .inl h
  · exact .inr (.inl h)
  · exact .inr (.inr (.inl h))
  · exact .inr (.inr (.inr (.inl h)))
  · exact .inr (.inr (.inr (.inr h)))
theorem isi_kit {d : D} {t : String} {b : Bool} (ht : isiT t = true) (h : isiD d t = some b) : kitB (tyD d) t = some b := by
  rcases isiT_ok ht with rfl | rfl | rfl | rfl | rfl
  all_goals
    cases d <;> first
      | (cases h; done)
      | (cases h; simp only [tyD]; decide +kernel)
theorem tyx_of {K : PySem.W.Frag} {mg : Str → Option Value} {v : V} {d : D} {t : String} {b : Bool} (s : Same F H) (h : Vr K mg xc F H v d) (hi : isiD d t = some b) : TyX K H v (.type (tyD d)) := by
  cases d with
  | non => obtain rfl := h.non; exact .base .non
  | bl b => obtain rfl := h.bl; exact .base (.bl _)
  | int b => obtain rfl := h.int; exact .base (.int _)
  | str b => obtain rfl := h.str; exact .base (.str _)
  | tup b => obtain ⟨a, xs, rfl, e, _⟩ := h.tuple; exact .base (.tup (s _ _ e))
  | lst b => obtain ⟨a, xs, rfl, e, _⟩ := h.list s; exact .base (.lst e)
  | _ => cases hi
theorem bootTy {t : String} (ht : isiT t = true) : bootBuiltins (Str.ofString t) = some (.type t) := by
  rcases isiT_ok ht with rfl | rfl | rfl | rfl | rfl <;> decide +kernel
theorem bnTy {t : String} (ht : isiT t = true) : bnames.contains (Str.ofString t) = true := by
  rcases isiT_ok ht with rfl | rfl | rfl | rfl | rfl <;> decide +kernel
theorem e_isi (C : Ctx gc G X xc W) {a : E} {t : String} {e : Expr} {p p2 pos : Pos} (ht : isiT t = true) (hg : glB X.env.scope "isinstance" = true) (hgt : glB X.env.scope (Str.ofString t) = true) (ha : PE X e (tE X xc W G a)) (hs : notSt e = true) :
    PE X (.Call (.Name "isinstance" p) [e, .Name (Str.ofString t) p2] [] pos) (tE X xc W G (.isi a t)) := by
  obtain ⟨g1, g2, g3⟩ := glB_ok hg
  obtain ⟨k1, k2, k3⟩ := glB_ok hgt
  have hT : PE X (.Name (Str.ofString t) p2) (tC (.ty t)) := pe_bltn k1 (C.bl _ (bnTy ht)) (bootTy ht) rfl k3 k2
  refine (pe_callB call_isi g1 (C.bl _ (by decide)) PyProof.Rows.boot_isinstance (pa_cons ha (pa_cons hT pa_nil (star_cons rfl)) (star_cons hs)) g3 g2 (star_cons hs) (star_any rfl)).of fun σ H Q ⟨H0, F, ρ, r, R, ev, post⟩ => ?_
  refine rd1 (k := fun _ x => blO (isiD x t)) R ev post fun m d x F1 H1 ev1 x1 ok1 => ?_
  obtain ⟨b, h1, rfl⟩ := blO_v ev1
  exact ⟨x, .ty t, .type (tyD d), .type t, b, rfl, .ty t, tyx_of x1.s ok1.vr h1, isi_kit ht h1, post _ F1 H1 x1 (.bl b)⟩
/-! methods -/
theorem mtD_v {m : MT} {d : D} {ds : List D} (h : mtD m d ds = some r) : ∃ m z, r = .v m z := by
  cases m <;> (simp only [mtD, getX, splitX, partX, endsX, joinX, indexX, cl, fr] at h) <;> (repeat' (split at h)) <;> first
    | (cases h; exact ⟨_, _, rfl⟩)
    | cases h
def notC0 : Expr → Bool
  | .Call (.Name _ _) [] [] _ => false
  | _ => true
theorem base_ok {o : Expr} {m : Str} (h : notC0 o = true) (whole : Sem Value) : attributeBase o m X.env whole = whole := by
  unfold attributeBase
  split
  · cases h
  · rfl
theorem few_ok {es : List Expr} {pos : Pos} (h : es.all notSt = true) (hl : Nat.blt es.length 20 = true) : ((backTo pos (starEach es X.env)).all (fun x => !x.1) && (backToKw pos (keywordEach [] X.env)).all (fun x => x.1.isSome)
      && decide (es.length + ([] : List Keyword).length + (if ([] : List Keyword).isEmpty then 0 else 1) < 30)) = true := by
  rw [star_all h]
  have hl' : es.length < 20 := by simpa [Nat.blt_eq] using hl
  have e2 : (backToKw pos (keywordEach [] X.env)).all (fun x => x.1.isSome) = true := rfl
  rw [e2]
  simp
  omega
def rMD (K : PySem.W.Frag) (mg : Str → Option Value) (xc : V → Str → Prop) (f : D → List D → Option Ro) : V → List V → Hp → VK → Prop := fun x xs H Q => ∃ F d ds m z, Same F H ∧ Vr K mg xc F H x d ∧ Reps K mg xc F xs ds ∧ f d ds = some (.v m z) ∧
  ∀ v F' H', Ext F H F' H' → Vok K mg xc H F' H' m v z → Q v H'
theorem mth_of (R : Rel X.K X.mg xc H0 F ρ σ H) {a : E} {m : MT} {es : Es} (ev : evE G (.mth m a es) ρ = some r) (post : PostE X xc W F H σ Q r) {T : String} (hT : ∀ d F H v, mtT m d = true → Same F H → Vr X.K X.mg xc F H v d → tyV X.K T v H) :
    tBM X.K T (rMD X.K X.mg xc (mtD m)) (tE X xc W G a) (tL X xc W G es) σ H Q := by
  refine rd1 (k := fun _ x => if mtT m x then bndL (evEs G es ρ) fun ds => mtD m x ds else none) R ev post fun m0 d x F1 H1 ev1 x1 ok1 => ?_
  split at ev1
  · rename_i ht
    refine ⟨hT d F1 H1 x ht x1.s ok1.vr, rdL (R.ext x1) ev1 (post.later x1) fun ds vs F2 H2 ev2 x2 rs => ?_⟩
    obtain ⟨m2, z, rfl⟩ := mtD_v ev2
    exact ⟨F2, d, ds, m2, z, x2.s, ok1.vr.ext x2, rs, ev2, fun v F' H' x3 ok => post v F' H' ((x1.trans x2).trans x3) (ok.start (x1.h.trans x2.h))⟩
  · cases ev1
theorem e_bm {a : E} {m : MT} {es : Es} {T id : String} {name : Str} {o e : Expr} {as : List Expr} {apos cpos : Pos} (pa : PlainAttrs T) (slot : Slot T name id) (hty : typeOf (.builtin id) = pure (.type "method_descriptor"))
    (hm : MtR X id (rMD X.K X.mg xc (mtD m))) (hT : ∀ d F H v, mtT m d = true → Same F H → Vr X.K X.mg xc F H v d → tyV X.K T v H)
    (ho : PE X o (tE X xc W G a)) (ha : PA X (e :: as) (tL X xc W G es)) (hb : notC0 o = true) (hl : (apos.endLine == cpos.line) = true) (hs : (e :: as).all notSt = true) (hn : Nat.blt (e :: as).length 20 = true) :
    PE X (.Call (.Attribute o name apos) (e :: as) [] cpos) (tE X xc W G (.mth m a es)) := by
  have hs' := hs
  simp only [List.all_cons, Bool.and_eq_true] at hs'
  exact (pe_bm pa slot hty hm ho ha (base_ok hb _) (few_ok hs hn) hl (star_cons hs'.1) (star_any hs'.2)).of fun σ H Q ⟨H0, F, ρ, r, R, ev, post⟩ => mth_of R ev post hT
theorem split_ok : MtR X "str.split" (rMD X.K X.mg xc splitX) := by
  intro pins s σ H x xs v us Q I rx rs h
  obtain ⟨F, d, ds, m, z, sF, hx, hy, hf, q⟩ := h
  unfold splitX at hf
  split at hf
  · rename_i a b
    split at hf
    · rename_i hl
      cases hf
      obtain rfl := hx.str
      cases hy with
      | cons hy hn =>
        cases hn
        cases hy
        simp only [Bool.and_eq_true] at hl
        have l1 : 1 ≤ b.length := Nat.le_of_ble_eq_true hl.1
        refine mt_split pins s σ H _ _ v us Q I rx rs ⟨a, b, rfl, rfl, by simpa using Nat.ne_of_gt l1, le_line hl.2, fun p hp => ?_⟩
        refine q _ F _ (Ext.newH sF hp) ⟨p, rfl, sF.free hp, hp, _, upd_same, ?_⟩
        exact Reps.of_strs _
    · cases hf
  · cases hf
theorem part_ok : MtR X "str.partition" (rMD X.K X.mg xc partX) := by
  intro pins s σ H x xs v us Q I rx rs h
  obtain ⟨F, d, ds, m, z, sF, hx, hy, hf, q⟩ := h
  unfold partX at hf
  split at hf
  · rename_i a b
    split at hf
    · rename_i hl
      cases hf
      obtain rfl := hx.str
      cases hy with
      | cons hy hn =>
        cases hn
        cases hy
        simp only [Bool.and_eq_true] at hl
        have l1 : 1 ≤ b.length := Nat.le_of_ble_eq_true hl.1
        refine mt_partition pins s σ H _ _ v us Q I rx rs ⟨a, b, rfl, rfl, by simpa using Nat.ne_of_gt l1, le_line hl.2, fun p hp => ?_⟩
        exact q _ _ _ (Ext.newF sF hp) (.tup upd_same (.cons (.str _) (.cons (.str _) (.cons (.str _) .nil))))
    · cases hf
  · cases hf
theorem ends_ok : MtR X "str.endswith" (rMD X.K X.mg xc endsX) := by
  intro pins s σ H x xs v us Q I rx rs h
  obtain ⟨F, d, ds, m, z, sF, hx, hy, hf, q⟩ := h
  unfold endsX at hf
  split at hf
  · rename_i a b
    cases hf
    obtain rfl := hx.str
    cases hy with
    | cons hy hn =>
      cases hn
      cases hy
      exact mt_endswith pins s σ H _ _ v us Q I rx rs ⟨a, b, rfl, rfl, q _ F H (.refl sF) (.bl _)⟩
  · cases hf
theorem join_ok : MtR X "str.join" (rMD X.K X.mg xc joinX) := by
  intro pins s σ H x xs v us Q I rx rs h
  obtain ⟨F, d, ds, m, z, sF, hx, hy, hf, q⟩ := h
  unfold joinX at hf
  split at hf
  · rename_i a es
    split at hf
    · rename_i ys hys
      split at hf
      · rename_i hl
        cases hf
        obtain rfl := hx.str
        cases hy with
        | cons hy hn =>
          cases hn
          cases hy with
          | lst e r =>
            have r' := r.strs hys
            subst r'
            refine mt_join pins s σ H _ _ v us Q I rx rs ⟨a, _, ys, rfl, rfl, .inl (.of (sF _ _ e)), Nat.le_trans (Nat.le_of_ble_eq_true hl) (by decide), q _ F H (.refl sF) (.str _)⟩
      · cases hf
    · cases hf
  · cases hf
theorem tyStr {m : MT} (hm : ∀ d, mtT m d = true → ∃ x, d = .str x) : ∀ d F H v, mtT m d = true → Same F H → Vr X.K X.mg xc F H v d → tyV X.K "str" v H := fun d F H v h s hv => by
  obtain ⟨x, rfl⟩ := hm d h
  obtain rfl := hv.str
  exact rfl
theorem strT {m : MT} (h : m = .split ∨ m = .partition ∨ m = .endswith ∨ m = .join) : ∀ d, mtT m d = true → ∃ x, d = .str x := by
  rcases h with rfl | rfl | rfl | rfl <;> intro d hd <;> cases d <;> first
    | exact ⟨_, rfl⟩
    | cases hd
theorem evEs_cons {a : E} {es : Es} {q : Rl} (h : evEs G (.cons a es) ρ = some q) : (∃ c, q = .x c ∧ evE G a ρ = some (.x c)) ∨ (∃ m d, evE G a ρ = some (.v m d) ∧ m ≠ .raw ∧
    ((∃ c, evEs G es ρ = some (.x c) ∧ q = .x c) ∨ ∃ ds, evEs G es ρ = some (.v ds) ∧ q = .v (d :: ds))) := by
  have hev : evEs G (.cons a es) ρ = (match evE G a ρ with
    | some (.v .cl d) => (match evEs G es ρ with
      | some (.v ds) => some (.v (d :: ds))
      | r => r)
    | some (.v .fr d) => (match evEs G es ρ with
      | some (.v ds) => some (.v (d :: ds))
      | r => r)
    | some (.v .raw _) => none
    | some (.x c) => some (.x c)
    | none => none) := rfl
  rw [hev] at h
  have key : ∀ d, (match evEs G es ρ with
      | some (.v ds) => some (.v (d :: ds))
      | r => r) = some q → (∃ c, evEs G es ρ = some (.x c) ∧ q = .x c) ∨ ∃ ds, evEs G es ρ = some (.v ds) ∧ q = .v (d :: ds) := fun d h => by
    cases e : evEs G es ρ with
    | none => rw [e] at h; cases h
    | some z =>
      rw [e] at h
      cases z with
      | x c => cases h; exact .inl ⟨c, rfl, rfl⟩
      | v ds => cases h; exact .inr ⟨ds, rfl, rfl⟩
  cases e : evE G a ρ with
  | none => rw [e] at h; cases h
  | some z =>
    rw [e] at h
    cases z with
    | x c => cases h; exact .inl ⟨c, rfl, rfl⟩
    | v m d =>
      cases m with
      | raw => cases h
      | cl => exact .inr ⟨_, d, rfl, (fun h => nomatch h), key d h⟩
      | fr => exact .inr ⟨_, d, rfl, (fun h => nomatch h), key d h⟩
/-- d.get: from the dict, from the default -/
theorem get_at {x y z : V} {d e : D} {f : D} {F3 H3 : Hp} {r : Ro} (s : Same F3 H3) (hx : Vr X.K X.mg xc F3 H3 x d) (hy : Rep X.K X.mg xc F3 y e) (hz : Rep X.K X.mg xc F3 z f) (h : getX d [e, f] = some r) :
    ∃ a o w, x = .ref a ∧ DGet H3 a y o ∧ r = .v .cl w ∧ Rep X.K X.mg xc F3 (o.getD z) w := by
  unfold getX at h
  split at h
  · rename_i kvs ks d' heq
    cases heq
    split at h
    · rename_i ns hns
      cases h
      obtain ⟨a, kv, rfl, dg, k⟩ := dget_t s (.inl hy) hns hx
      refine ⟨a, _, _, rfl, dg, rfl, ?_⟩
      have q := k.val ns
      cases e1 : lookT ns kvs with
      | none => rw [e1] at q; rw [q]; exact hz
      | some w => rw [e1] at q; obtain ⟨v, q1, q2⟩ := q; rw [q1]; exact q2
    · cases h
  · rename_i kvs k d' heq
    cases heq
    cases h
    obtain ⟨a, kv, rfl, dg, kk⟩ := dget_k s (.inl hy) hx
    refine ⟨a, _, _, rfl, dg, rfl, ?_⟩
    have q := kk.val k
    cases e1 : lookI k kvs with
    | none => rw [e1] at q; rw [q]; exact hz
    | some w => rw [e1] at q; obtain ⟨v, q1, q2⟩ := q; rw [q1]; exact q2
  · cases h
theorem isD_of {x : V} {d : D} (s : Same F H) (hx : Vr X.K X.mg xc F H x d) (h : mtT .get d = true) : ∃ a, x = .ref a ∧ IsD H a := by
  cases d with
  | dct kvs => obtain ⟨a, kv, rfl, e, _⟩ := hx.dct s; exact ⟨a, rfl, .inr ⟨_, e⟩⟩
  | dck kvs => obtain ⟨a, kv, rfl, e, _⟩ := hx.dck s; exact ⟨a, rfl, .inl ⟨_, e⟩⟩
  | _ => cases h
theorem get_of (R : Rel X.K X.mg xc H0 F ρ σ H) {a b c : E} (ev : evE G (.mth .get a (.cons b (.cons c .nil))) ρ = some r) (post : PostE X xc W F H σ Q r) : tDGet2 (tE X xc W G a) (tE X xc W G b) (tE X xc W G c) σ H Q := by
  refine rd1 (k := fun _ x => if mtT .get x then bndL (evEs G (.cons b (.cons c .nil)) ρ) fun ds => mtD .get x ds else none) R ev post fun m0 d x F1 H1 ev1 x1 ok1 => ?_
  split at ev1
  · rename_i ht
    obtain ⟨pa, rfl, isd⟩ := isD_of x1.s ok1.vr ht
    refine ⟨pa, rfl, isd, ?_⟩
    cases hes : evEs G (.cons b (.cons c .nil)) ρ with
    | none => rw [hes] at ev1; cases ev1
    | some q =>
      rw [hes] at ev1
      rcases evEs_cons hes with ⟨k, rfl, hb⟩ | ⟨m, e, hb, hm, hq⟩
      · cases ev1
        exact ⟨H0, F1, ρ, _, R.ext x1, hb, post.later x1⟩
      · refine ⟨H0, F1, ρ, _, R.ext x1, hb, fun y F2 H2 x2 ok2 => ?_⟩
        obtain ⟨F2', x2', s2, rep2⟩ := ok2.clean x2 hm
        have R2 := (R.ext x1).ext x2'
        have hq' : ∀ q', evEs G (.cons c .nil) ρ = some q' → (q = match q' with
            | .v ds => .v (e :: ds)
            | .x k => .x k) → tE X xc W G c σ H2 fun z H3 => ∃ o, DGet H3 pa y o ∧ Q (o.getD z) H3 := fun q' hc hqq => by
          rcases evEs_cons hc with ⟨k, rfl, hc'⟩ | ⟨m3, f, hc', hm3, hq3⟩
          · subst hqq
            cases ev1
            exact ⟨H0, F2', ρ, _, R2, hc', (post.later x1).later x2'⟩
          · refine ⟨H0, F2', ρ, _, R2, hc', fun z F3 H3 x3 ok3 => ?_⟩
            obtain ⟨F3', x3', s3, rep3⟩ := ok3.clean x3 hm3
            rcases hq3 with ⟨k, hk, _⟩ | ⟨ds, hk, rfl⟩
            · cases hk
            · have hk' : some (Rl.v []) = some (Rl.v ds) := hk
              cases hk'
              subst hqq
              have ev3 : getX d [e, f] = some r := ev1
              obtain ⟨pa', o, w, e1, dg, rfl, rw'⟩ := get_at x3'.s ((ok1.vr.ext x2').ext x3') (rep2.mono x3'.f) rep3 ev3
              cases e1
              exact ⟨o, dg, post _ F3' H3 ((x1.trans x2').trans x3') rw'⟩
        rcases hq with ⟨k, hk, rfl⟩ | ⟨ds, hk, rfl⟩
        · exact hq' _ hk rfl
        · exact hq' _ hk rfl
  · cases ev1
theorem e_get (C : Ctx gc G X xc W) {a b c : E} {o e f : Expr} {apos cpos : Pos} (ho : PE X o (tE X xc W G a)) (he : PE X e (tE X xc W G b)) (hf : PE X f (tE X xc W G c)) (hb : notC0 o = true) (hl : (apos.endLine == cpos.line) = true) (hs : [e, f].all notSt = true) :
    PE X (.Call (.Attribute o "get" apos) [e, f] [] cpos) (tE X xc W G (.mth .get a (.cons b (.cons c .nil)))) := by
  have hu : X.A.units + 1 < cLine := Nat.lt_of_le_of_lt (by omega) C.hu
  have hs' := hs
  simp only [List.all_cons, Bool.and_eq_true, List.all_nil] at hs'
  exact (pe_dget2 hu ho he hf ⟨base_ok hb _, few_ok hs rfl, hl, by rw [star_cons hs'.1, star_cons hs'.2.1]; rfl⟩).of fun σ H Q ⟨H0, F, ρ, r, R, ev, post⟩ => get_of R ev post
theorem e_smth {a : E} {m : MT} {es : Es} {name : Str} {o e : Expr} {as : List Expr} {apos cpos : Pos}
    (hm : (m = .split ∧ name = "split") ∨ (m = .partition ∧ name = "partition") ∨ (m = .endswith ∧ name = "endswith") ∨ (m = .join ∧ name = "join"))
    (ho : PE X o (tE X xc W G a)) (ha : PA X (e :: as) (tL X xc W G es)) (hb : notC0 o = true) (hl : (apos.endLine == cpos.line) = true) (hs : (e :: as).all notSt = true) (hn : Nat.blt (e :: as).length 20 = true) :
    PE X (.Call (.Attribute o name apos) (e :: as) [] cpos) (tE X xc W G (.mth m a es)) := by
  rcases hm with ⟨rfl, rfl⟩ | ⟨rfl, rfl⟩ | ⟨rfl, rfl⟩ | ⟨rfl, rfl⟩
  · exact e_bm PySem.F.plainAttrs_str PySem.F.slot_str_split PySem.F.type_str_split split_ok (tyStr (strT (.inl rfl))) ho ha hb hl hs hn
  · exact e_bm PySem.F.plainAttrs_str PySem.F.slot_str_partition PySem.F.type_str_partition part_ok (tyStr (strT (.inr (.inl rfl)))) ho ha hb hl hs hn
  · exact e_bm PySem.F.plainAttrs_str PySem.F.slot_str_endswith PySem.F.type_str_endswith ends_ok (tyStr (strT (.inr (.inr (.inl rfl))))) ho ha hb hl hs hn
  · exact e_bm PySem.F.plainAttrs_str PySem.F.slot_str_join PySem.F.type_str_join join_ok (tyStr (strT (.inr (.inr (.inr rfl))))) ho ha hb hl hs hn
end
end LS

set_option Elab.async false
set_option linter.all false
set_option maxRecDepth 100000
set_option maxHeartbeats 4000000
/-! LS20: sets of a list, sorted. -/
namespace LS
open PySem PySem.Spec PyProof.Rows L2
/-- a set that was just made -/
abbrev set0 (w : World) : Obj := { cls := .type "set", dict := none, data := .set #[] 0 (.fresh 0 0 (!w.params.followText "set-order")) }
/-- the heap in which the set's loop begins -/
abbrev setH (w : World) (h : Heap) (l : Addr) : Heap := (h.push (set0 w)).push { cls := .type "list_iterator", data := .fields #[.ref l, .int 0 0] }
section
variable {P : Program} {w : World} {A : Around} {E : Value → Shared → Prop} {s : Shared}
theorem set_of_list {l : Addr} {its : Array Value} (Φ : Heap → Prop) {Q : Value → Shared → Prop} (hh : A.handled = none) (hl : s.heap.IsList l its)
    (loop : ∀ R : Result → Shared → Prop, (∀ s2, Moved [s.heap.objs.size, s.heap.objs.size + 1] (fun a b => b = a) { s with heap := setH w s.heap l } s2 → Φ s2.heap → R (.ok (.ret .none)) s2) →
      codeAny (model P w) A.in1.in1 (.builtin "set.update.loop" ⟨[.ref s.heap.objs.size, .ref (s.heap.push (set0 w)).objs.size], []⟩) R { s with heap := setH w s.heap l })
    (h : ∀ (h2 : Heap) (tk : Nat), Φ h2 → (∀ b o, s.heap.get? b = some o → h2.get? b = some o) → Q (.ref s.heap.objs.size) { s with heap := h2, toks := tk }) :
    wpAny (model P w) A (call (.type "set") [.ref l]) Q E s := by
  obtain ⟨c, tl, hm⟩ := F.called_set.mro
  have m1 := F.called_set.made
  have m2 := F.called_set.sub
  refine wpAny_call (codeAny_of_tree ?_)
  show wpAny _ _ (callAny (Value.type "set") _) _ _ _
  refine wpAny_pure ⟨Code.quiet_builtin _ (by decide +kernel), codeAny_builtin F.entry_type_call ?_⟩
  rw [Around.under_plain (weight_type_call_type "set" [Value.ref l] []) rfl]
  have m3 := F.called_set.notType
  have m4 := F.called_set.canCreate
  have m5 := F.typeCall_set_1 (.ref l)
  repeat (any_goals (first | assumption | wp_step))
  refine codeAny_mono (code_set_led1 (.ref l) (E := E) (Q₁ := fun u s1 => u = .ref s.heap.objs.size ∧ s1 = { s with heap := s.heap.push (set0 w) }) ⟨rfl, rfl⟩) fun r s1 hr => ?_
  cases r with
  | error e => exact hr
  | ok fl =>
    cases fl with
    | ret u =>
      obtain ⟨rfl, rfl⟩ := hr
      have hS : (s.heap.push (set0 w)).get? s.heap.objs.size = some (set0 w) := Heap.get?_push_size _ rfl
      have hT : Shared.TypeIs { s with heap := s.heap.push (set0 w) } (.ref s.heap.objs.size) "set" := ⟨_, hS, rfl⟩
      have m6 := F.called_set.init.lookup
      have m7 := F.called_set.init.bind (.ref s.heap.objs.size)
      repeat (any_goals (first | assumption | wp_step))
      refine codeAny_mono (codeAny_call_builtin (R := wants (fun r s2 => r = .none ∧ ∃ h2 tk, s2 = { s with heap := h2, toks := tk } ∧ Φ h2 ∧ (∀ b o, s.heap.get? b = some o → h2.get? b = some o)) E) F.called_set.init.plain F.entry_set_init (check_set_init_1 hT ?_)) fun r2 s2 hr2 => ?_
      · obtain ⟨ol, e1, e2, nl, e3⟩ := hl
        obtain ⟨oc, od, oa, os⟩ := ol
        simp only at e2 e3
        subst e2; subst e3
        have hol : (s.heap.push (set0 w)).get? l = some { cls := .type "list", dict := od, data := .seq its nl, slots := os } := Heap.get?_push_of_some _ e1
        have m8 := F.sub_list_set
        have m9 := F.sub_list_frozenset
        have hne : (Value.type "list" == Value.type "dict") = false := by decide
        have hl1 : (s.heap.push (set0 w)).IsList l its := ⟨_, hol, rfl, nl, rfl⟩
        unfold Builtin.«set.__init__» noKeywords Builtin.Frozenset.updateFrom
        generalize hPI : pyIter = PI
        wp_walk
        subst hPI
        refine wpAny_pyIter_list hl1 ?_
        refine wpAny_bind (wpAny_runValue ?_)
        refine loop _ fun s2 mv ph => ?_
        obtain ⟨h2, g2, d2, tk2, os2⟩ := s2
        have eg : g2 = s.gens := mv.gens
        have ed : d2 = s.drawn := mv.drawn
        have eo : os2 = s.os := mv.os
        subst eg; subst ed; subst eo
        show wpAny _ _ _ _ _ _
        refine wpAny_pure ?_
        show wpAny _ _ (ret Value.none) _ _ _
        refine wpAny_pure ⟨rfl, h2, tk2, rfl, ph, fun b o e => ?_⟩
        have hb := Heap.lt_size e
        refine mv.heap b o ?_ (Heap.get?_push_of_some _ (Heap.get?_push_of_some _ e))
        intro hb2
        rcases List.mem_cons.mp hb2 with z | z
        · exact absurd z (Nat.ne_of_lt hb)
        · exact absurd (List.mem_singleton.mp z) (Nat.ne_of_lt (Nat.lt_succ_of_lt hb))
      · cases r2 with
        | error e => exact hr2
        | ok fl2 =>
          cases fl2 with
          | ret r =>
            obtain ⟨rfl, h2, tk, rfl, ph, hk⟩ := hr2
            repeat (any_goals (first | assumption | wp_step))
            exact h _ _ ph hk
          | _ => exact hr2.elim
    | _ => exact hr.elim
end
end LS

set_option Elab.async false
set_option linter.all false
set_option maxRecDepth 100000
set_option maxHeartbeats 4000000
/-! LS21: sets and sorted lists, by data. -/
namespace LS
open PySem PySem.Spec PyProof.Rows L2
theorem setR_count {w : World} {h : Heap} {a : Addr} {S : Int → Bool} {n : Nat} (R : SetR w h a S n) {ns : List Int} (hs : ∀ k, S k = true ↔ k ∈ ns) : n = (usort leI ns).length := by
  obtain ⟨o, es, ep, t, ho, hx, hd, g, nd, hm, hb, hf, hn, _⟩ := R
  have h1 : ∀ k, k ∈ es.toList.map keyOf ↔ k ∈ usort leI ns := fun k => ((hm k).symm.trans (hs k)).trans (mem_usort k ns).symm
  have h2 := nodup_le _ _ nd fun x hx => (h1 x).mp hx
  have h3 := nodup_le _ _ (usort_nodup ordI ns) fun x hx => (h1 x).mpr hx
  simp only [List.length_map, Array.length_toList] at h2 h3
  omega
section
variable {X : Cx}
def rSetI (K : PySem.W.Frag) (w : World) : List V → Hp → VK → Prop := fun vs H Q => ∃ (l : Addr) (ns : List Int), vs = [V.ref l] ∧ SqL K H l (ns.map V.int) ∧ ns.length + 1 < scanBound ∧
  ∀ a, H a = none → Q (.ref a) (upd H a (SetO w a (fun j => decide (j ∈ ns)) (usort leI ns).length))
theorem setI_ok (hc : X.calm = true) : CallR X (.type "set") (rSetI X.K X.w) := by
  intro pins s σ H xs us Q I r h
  obtain ⟨l, ns, rfl, hl, hb, q⟩ := h
  rw [Vals.ref1 r]
  obtain ⟨its, rv, pl, hz⟩ := I.list hl
  have isI : IntsAre its ns := rv.ints
  have hisz : its.toArray.size = ns.length := by rw [List.size_toArray, ← rv.length, List.length_map]
  refine set_of_list (P := X.prog) (w := X.w) (fun h2 => ∃ c, SetR X.w h2 s.heap.objs.size (fun j => decide (j ∈ ns)) c) (I.ok.hd hc) pl.isList (fun R hR => ?_) fun h2 tk ⟨c, hS⟩ k => ?_
  · have hlS : l < s.heap.objs.size := by
      obtain ⟨o, e, _⟩ := pl.isList
      exact Heap.lt_size e
    have hh : X.A.in1.in1.in1.handled = none := by simp [I.ok.hd hc]
    have ne1 : l ≠ (s.heap.push (set0 X.w)).objs.size := by rw [Heap.size_push]; exact Nat.ne_of_lt (Nat.lt_succ_of_lt hlS)
    have nf : s.heap.objs.size ∉ [(s.heap.push (set0 X.w)).objs.size, l] := by
      rw [Heap.size_push]
      intro z
      rcases List.mem_cons.mp z with z | z
      · exact absurd z (Nat.ne_of_lt (Nat.lt_succ_self _))
      · exact absurd (List.mem_singleton.mp z) (Nat.ne_of_gt hlS)
    have hv : ∀ (i : Nat) (v : Value), its.toArray[i]? = some v → ∃ k t, ns[i]? = some k ∧ v = .int k t := fun i v e => by
      have lt : i < ns.length := by rw [← hisz]; exact (Array.getElem?_eq_some_iff.mp e).1
      obtain ⟨t, e2⟩ := PyProof.Rows.IntsAre.int_at isI i v (by simpa using e)
      refine ⟨ns[i], t, List.getElem?_eq_getElem lt, ?_⟩
      rw [e2, List.getD_eq_getElem?_getD, List.getElem?_eq_getElem lt] <;> rfl
    have l1 : (s.heap.push (set0 X.w)).IsList l its.toArray := pl.isList.push _
    have g0 : (setH X.w s.heap l).get? s.heap.objs.size = some (set0 X.w) := Heap.get?_push_of_some _ (Heap.get?_push_size _ rfl)
    refine set_update_ints ((Walks.list hh _ l ne1 its.toArray).toS) s.heap.objs.size nf ns hisz hb hv its.toArray.size 0 _ (by omega) (Nat.zero_le _)
      ⟨⟨_, Heap.get?_push_size _ rfl, rfl, rfl⟩, l1.push _⟩ ⟨0, Nat.le_refl 0, setR_new_at g0⟩ fun s2 c mv _ hS => hR s2 ?_ ⟨c, hS⟩
    rw [Heap.size_push] at mv
    exact mv
  · refine ⟨.ref s.heap.objs.size, upd H s.heap.objs.size (SetO X.w s.heap.objs.size (fun j => decide (j ∈ ns)) c), I.laid (t' := tk) k (Nat.le_refl _) (setO_new hS), rfl, ?_⟩
    rw [setR_count hS (ns := ns) (fun k => by simp)]
    exact q _ (I.hok.fresh (Nat.le_refl _))
end
/-! ### sets of tuples: only the distinct ones are counted -/
theorem got_few {ks L : List (Addr × List Int)} {i : Nat} {us : List (List Int)} (g : Got ks i L) (nd : (L.map (·.2)).Nodup) (hu : ∀ p ∈ ks, p.2 ∈ us) : L.length ≤ us.length := by
  have h := nodup_le (L.map (·.2)) us nd fun x hx => by
    obtain ⟨p, hp, e⟩ := List.mem_map.mp hx
    rw [← e]
    exact hu p (List.mem_of_mem_take (g.sub p hp))
  rw [List.length_map] at h
  exact h
section
variable {P : Program} {w : World} {A : Around} {E : Value → Shared → Prop} {s : Shared}
theorem set_loop_few {I : Addr} {fp wr : List Addr} {G : Array GenState → Array GenState → Prop} {n : Nat} {Pv : Nat → Value → Prop} {St : Nat → Shared → Prop} {R : Result → Shared → Prop}
    (Wk : WalksS P w A.in1 I fp wr G n Pv St) (S : Addr) (nf : S ∉ fp) (ks : List (Addr × List Int)) (us : List (List Int)) (hn : n = ks.length) (few : us.length < 63) (hus : ∀ p ∈ ks, p.2 ∈ us)
    (hv : ∀ i v, Pv i v → ∃ p, ks[i]? = some p ∧ v = .ref p.1) (h0 : Heap) (hk : ∀ p ∈ ks, IsT P w h0 p.2 p.1) (hS0 : h0.get? S = none) (hw0 : ∀ b ∈ wr, h0.get? b = none) (hu : A.in1.units < cLine) :
    ∀ (k i : Nat) (s : Shared), n - i = k → i ≤ n → St i s → (∀ b o, h0.get? b = some o → s.heap.get? b = some o) → (∃ L es ep t, SetTR P w s.heap S L es ep t ∧ Got ks i L) →
      (∀ s2 L es ep t, Moved (S :: wr) G s s2 → SetTR P w s2.heap S L es ep t → Got ks n L → R (.ok (.ret .none)) s2) →
      codeAny (model P w) A (.builtin "set.update.loop" ⟨[.ref S, .ref I], []⟩) R s := by
  have nw : S ∉ wr := fun h => nf (Wk.sub _ h)
  have sub : ∀ b ∈ wr, b ∈ S :: wr := fun b hb => List.mem_cons_of_mem _ hb
  have kept : ∀ {s s2 : Shared}, Moved wr G s s2 → (∀ b o, h0.get? b = some o → s.heap.get? b = some o) → ∀ b o, h0.get? b = some o → s2.heap.get? b = some o := fun mv hp b o e =>
    mv.heap b o (fun hb => by rw [hw0 b hb] at e; cases e) (hp b o e)
  intro k
  induction k with
  | zero =>
    intro i s hk2 hi st hp ⟨L, es, ep, t, hS, g⟩ hR
    obtain rfl : i = n := by omega
    refine codeAny_builtin F.entry_set_update_loop ?_
    rw [Around.under_plainId F.plain_set_update_loop _]
    show wpAny _ A.in1 (pyNext (.ref I) >>= _) _ _ s
    refine wpAny_bind (Wk.done s _ _ st fun s2 mv => ?_)
    show wpAny _ A.in1 (ret Value.none) _ _ s2
    exact wpAny_pure (hR s2 L es ep t (mv.mono sub) (hS.keep (fun o e => mv.heap S o nw e) fun p pm => isT_keep (hk p (List.mem_of_mem_take (g.sub p pm))) (kept mv hp)) g)
  | succ k ih =>
    intro i s hk2 hi st hp ⟨L, es, ep, t, hS, g⟩ hR
    refine codeAny_builtin F.entry_set_update_loop ?_
    rw [Around.under_plainId F.plain_set_update_loop _]
    show wpAny _ A.in1 (pyNext (.ref I) >>= _) _ _ s
    have lt : i < n := by omega
    refine wpAny_bind (Wk.item i s _ _ lt st fun v s2 pv st2 mv => ?_)
    obtain ⟨p, hpi, rfl⟩ := hv i v pv
    have hp2 := kept mv hp
    have hS2 : SetTR P w s2.heap S L es ep t := hS.keep (fun o e => mv.heap S o nw e) fun q hq => isT_keep (hk q (List.mem_of_mem_take (g.sub q hq))) hp2
    have hx : IsT P w s2.heap p.2 p.1 := isT_keep (hk p (List.mem_of_getElem? hpi)) hp2
    have fewL : L.length + 1 < 64 := by
      have := got_few g hS2.nd hus
      omega
    show wpAny _ A.in1 (holding [Value.ref p.1] (setAdd S (.ref p.1)) >>= _) _ _ s2
    refine wpAny_bind (wpAny_holding ?_)
    unfold setAdd
    refine wpAny_holding ?_
    refine wpAny_bind (wpAny_pyHash_tuple hu hx ?_)
    refine add_at (s := { s2 with toks := s2.toks + (p.2.length + 1) }) hS2 hx hu fewL fun b h3 L3 es3 ep3 t3 sb hS3 c1 c2 => ?_
    have g3 : Got ks (i + 1) L3 := by
      rcases Classical.em (p.2 ∈ L.map (·.2)) with c | c
      · rw [c1 c]; exact g.same hpi c
      · exact g.more hpi (c2 c)
    have hp3 : ∀ b o, h0.get? b = some o → h3.get? b = some o := fun b o e => (sb.2 b (fun z => by rw [z, hS0] at e; cases e)).trans (hp2 b o e)
    refine wpAny_pure ⟨plainId_quiet F.plain_set_update_loop _, ih (i + 1) _ (by omega) lt (Wk.frame _ s2 _ _ st2 (Nat.le_add_right _ _) fun b hb o e => ?_) hp3 ⟨L3, es3, ep3, t3, hS3, g3⟩ fun s4 L4 es4 ep4 t4 mv4 hS4 g4 => ?_⟩
    · rw [sb.2 b (fun h : b = S => nf (by rw [← h]; exact hb))]; exact e
    · refine hR s4 L4 es4 ep4 t4 (Moved.trans Wk.gtrans ((mv.mono sub).then_heap (Nat.le_add_right _ _) fun b o hb e => ?_) mv4) hS4 g4
      rw [sb.2 b (fun h : b = S => hb (by rw [h]; exact List.mem_cons_self))]; exact e
end
section
variable {X : Cx}
def rSetT (K : PySem.W.Frag) (P : Program) (w : World) : List V → Hp → VK → Prop := fun xs H Q => ∃ (l : Addr) (ks : List (Addr × List Int)) (us : List (List Int)), xs = [V.ref l] ∧ SqL K H l (ks.map fun p => V.ref p.1) ∧ (∀ p ∈ ks, SqT K H p.1 (p.2.map V.int)) ∧ us.length < 63 ∧ (∀ p ∈ ks, p.2 ∈ us) ∧
  ∀ a L, H a = none → (∀ p ∈ L, p ∈ ks) → (∀ p ∈ ks, p.2 ∈ L.map (·.2)) → Q (.ref a) (upd H a (SetTO P w a L))
theorem setT_ok (hc : X.calm = true) (hu : X.A.units + 64 < cLine) : CallR X (.type "set") (rSetT X.K X.prog X.w) := by
  intro pins s σ H xs us Q I r h
  obtain ⟨l, ks, ds, rfl, hl, hk, few, hds, q⟩ := h
  rw [Vals.ref1 r]
  obtain ⟨its, rv, pl, hz⟩ := I.list hl
  have hit : its = ks.map fun p => Value.ref p.1 := refs_of_vals rv
  have hisz : its.toArray.size = ks.length := by rw [List.size_toArray, hit, List.length_map]
  refine set_of_list (P := X.prog) (w := X.w) (fun h2 => ∃ L es ep t, SetTR X.prog X.w h2 s.heap.objs.size L es ep t ∧ Got ks ks.length L) (I.ok.hd hc) pl.isList (fun R hR => ?_) fun h2 tk ⟨L, es, ep, t, hS, g⟩ k => ?_
  · have hlS : l < s.heap.objs.size := by
      obtain ⟨o, e, _⟩ := pl.isList
      exact Heap.lt_size e
    have hh : X.A.in1.in1.in1.handled = none := by simp [I.ok.hd hc]
    have ne1 : l ≠ (s.heap.push (set0 X.w)).objs.size := by rw [Heap.size_push]; exact Nat.ne_of_lt (Nat.lt_succ_of_lt hlS)
    have nf : s.heap.objs.size ∉ [(s.heap.push (set0 X.w)).objs.size, l] := by
      rw [Heap.size_push]
      intro z
      rcases List.mem_cons.mp z with z | z
      · exact absurd z (Nat.ne_of_lt (Nat.lt_succ_self _))
      · exact absurd (List.mem_singleton.mp z) (Nat.ne_of_gt hlS)
    have hv : ∀ (i : Nat) (v : Value), its.toArray[i]? = some v → ∃ p, ks[i]? = some p ∧ v = .ref p.1 := fun i v e => by
      have e2 : its[i]? = some v := by simpa using e
      rw [hit, List.getElem?_map] at e2
      obtain ⟨p, hp, e3⟩ := Option.map_eq_some_iff.mp e2
      exact ⟨p, hp, e3.symm⟩
    have free : ∀ b, s.heap.objs.size ≤ b → s.heap.get? b = none := fun b hb => by
      cases z : s.heap.get? b with
      | none => rfl
      | some o => exact absurd (Nat.lt_of_lt_of_le (Heap.lt_size z) hb) (Nat.lt_irrefl _)
    have l1 : (s.heap.push (set0 X.w)).IsList l its.toArray := pl.isList.push _
    have g0 : (setH X.w s.heap l).get? s.heap.objs.size = some (set0 X.w) := Heap.get?_push_of_some _ (Heap.get?_push_size _ rfl)
    refine set_loop_few ((Walks.list hh _ l ne1 its.toArray).toS) s.heap.objs.size nf ks ds hisz few hds hv s.heap (fun p hp => I.isT (hk p hp)) (free _ (Nat.le_refl _)) (fun b hb => free b ?_) ?_ its.toArray.size 0 _ (by omega) (Nat.zero_le _)
      ⟨⟨_, Heap.get?_push_size _ rfl, rfl, rfl⟩, l1.push _⟩ (fun b o e => Heap.get?_push_of_some _ (Heap.get?_push_of_some _ e)) ⟨[], #[], 0, _, setTR_fresh g0, Got.zero ks⟩ fun s2 L es ep t mv hS g => hR s2 ?_ ⟨L, es, ep, t, hS, ?_⟩
    · rw [List.mem_singleton.mp hb, Heap.size_push]
      exact Nat.le_succ _
    · show X.A.units + 3 < cLine
      omega
    · rw [Heap.size_push] at mv
      exact mv
    · rw [hisz] at g
      exact g
  · refine ⟨.ref s.heap.objs.size, upd H s.heap.objs.size (SetTO X.prog X.w s.heap.objs.size L), I.laid (t' := tk) k (Nat.le_refl _) (setTO_new hS.t0), rfl, q _ L (I.hok.fresh (Nat.le_refl _)) (fun p hp => ?_) fun p hp => ?_⟩
    · exact List.mem_of_mem_take (g.sub p hp)
    · exact g.all p (by rw [List.take_length]; exact hp)
end
end LS

set_option Elab.async false
set_option linter.all false
set_option maxRecDepth 100000
set_option maxHeartbeats 4000000
/-! LS22: sorted, by data. -/
namespace LS
open PySem PySem.Spec PyProof.Rows L2
/-! ### the code's order is the tuples' order -/
theorem code_bd : ∀ {ns : List Int}, TS.Bd 64 ns → 0 ≤ TS.code 64 ns ∧ TS.code 64 ns < 64 ^ ns.length
  | [], _ => by show 0 ≤ (0 : Int) ∧ (0 : Int) < 64 ^ 0; decide
  | d :: r, h => by
    obtain ⟨c0, c1⟩ := code_bd h.tail
    obtain ⟨d0, d1⟩ := h.head
    have q := TS.num1 c0 c1 d0 d1
    show 0 ≤ d * 64 ^ r.length + TS.code 64 r ∧ d * 64 ^ r.length + TS.code 64 r < 64 ^ (r.length + 1)
    rw [Int.pow_succ]
    exact q
theorem code_le : ∀ {ns ms : List Int}, ns.length = ms.length → TS.Bd 64 ns → TS.Bd 64 ms → TS.code 64 ns ≤ TS.code 64 ms → leT ns ms = true
  | [], ms, _, _, _, _ => leT_nil ms
  | d :: r, [], e, _, _, _ => by simp at e
  | d :: r, f :: s, e, h1, h2, h => by
    have e2 : r.length = s.length := by simpa using e
    rw [leT_cons]
    obtain ⟨c0, c1⟩ := code_bd h1.tail
    obtain ⟨k0, k1⟩ := code_bd h2.tail
    have h' : d * 64 ^ r.length + TS.code 64 r ≤ f * 64 ^ s.length + TS.code 64 s := h
    rw [← e2] at h' k1
    generalize (64 : Int) ^ r.length = P at h' c1 k1
    rcases Int.lt_trichotomy d f with z | z | z
    · exact .inl z
    · refine .inr ⟨z, code_le e2 h1.tail h2.tail ?_⟩
      rw [z] at h'
      omega
    · exfalso
      have hp : 0 < P := by omega
      have q : (f + 1) * P ≤ d * P := Int.mul_le_mul_of_nonneg_right (by omega) (by omega)
      rw [Int.add_mul, Int.one_mul] at q
      omega
theorem dims_bd {ks : List (List Int)} (h : dims ks = true) : ∃ d, 1 ≤ d ∧ ∀ k ∈ ks, k.length = d ∧ TS.Bd 64 k := by
  cases ks with
  | nil => exact ⟨1, Nat.le_refl _, fun k hk => by cases hk⟩
  | cons k ks =>
    have h' : (Nat.ble 1 k.length && (k :: ks).all fun j => (j.length == k.length) && j.all fun m => decide (0 ≤ m) && decide (m < 64)) = true := h
    rw [Bool.and_eq_true] at h'
    refine ⟨k.length, Nat.le_of_ble_eq_true h'.1, fun j hj => ?_⟩
    have q := List.all_eq_true.mp h'.2 j hj
    rw [Bool.and_eq_true] at q
    refine ⟨by simpa using q.1, fun m hm => ?_⟩
    have q2 := List.all_eq_true.mp q.2 m hm
    simpa using q2
theorem intsD_inv : ∀ {ds : List D} {ns : List Int}, intsD ds = some ns → ds = ns.map .int
  | [], _, e => by
    have e' : some [] = some _ := e
    cases e'; rfl
  | d :: ds, _, e => by
    cases d with
    | int i =>
      have e' : (intsD ds).map (i :: ·) = some _ := e
      obtain ⟨ms, h, e2⟩ := Option.map_eq_some_iff.mp e'
      subst e2
      rw [intsD_inv h]
      rfl
    | _ => cases e
theorem tupsD_inv : ∀ {ds : List D} {ks : List (List Int)}, tupsD ds = some ks → ds = ks.map tupI
  | [], _, e => by
    have e' : some [] = some _ := e
    cases e'; rfl
  | d :: ds, _, e => by
    cases d with
    | tup xs =>
      have e' : ((intsD xs).bind fun ns => (tupsD ds).map (ns :: ·)) = some _ := e
      obtain ⟨ns, h1, e2⟩ := Option.bind_eq_some_iff.mp e'
      obtain ⟨ms, h2, e3⟩ := Option.map_eq_some_iff.mp e2
      subst e3
      rw [tupsD_inv h2, intsD_inv h1]
      rfl
    | _ => cases e
section
variable {K : PySem.W.Frag} {mg : Str → Option Value} {xc : V → Str → Prop} {F H : Hp}
theorem rep_tup {v : V} {ns : List Int} (h : Rep K mg xc F v (tupI ns)) : ∃ t, v = .ref t ∧ F t = some (.tup (ns.map V.int)) := by
  cases h with
  | tup e r =>
    have q := r.ints (ns := ns) (by
      clear r e
      induction ns with
      | nil => rfl
      | cons n ns ih =>
        show (intsD (ns.map D.int)).map (n :: ·) = _
        rw [ih]
        rfl)
    subst q
    exact ⟨_, rfl, e⟩
theorem reps_tups : ∀ {vs : List V} {ks : List (List Int)}, Reps K mg xc F vs (ks.map tupI) → ∃ ps : List (Addr × List Int), vs = ps.map (fun p => V.ref p.1) ∧ ps.map (·.2) = ks ∧ ∀ p ∈ ps, F p.1 = some (.tup (p.2.map V.int))
  | [], [], _ => ⟨[], rfl, rfl, fun p h => by cases h⟩
  | v :: vs, k :: ks, .cons a b => by
    obtain ⟨t, e, h⟩ := rep_tup a
    obtain ⟨ps, e1, e2, h2⟩ := reps_tups b
    refine ⟨(t, k) :: ps, by rw [e, e1]; rfl, by rw [← e2]; rfl, fun p hp => ?_⟩
    rcases List.mem_cons.mp hp with z | z
    · subst z; exact h
    · exact h2 p z
theorem reps_of_tups : ∀ {ps : List (Addr × List Int)}, (∀ p ∈ ps, F p.1 = some (.tup (p.2.map V.int))) → Reps K mg xc F (ps.map fun p => V.ref p.1) ((ps.map (·.2)).map tupI)
  | [], _ => .nil
  | p :: ps, h => .cons (.tup (h p List.mem_cons_self) (Reps.of_ints p.2)) (reps_of_tups fun q hq => h q (List.mem_cons_of_mem _ hq))
end
/-- the set at a whose sorted items are z -/
def SetD (P : Program) (w : World) (F : Hp) (a : Addr) (o : HO) (z : D) : Prop :=
  (∃ ns : List Int, o = SetO w a (fun j => decide (j ∈ ns)) (usort leI ns).length ∧ (usort leI ns).length ≤ 60 ∧ z = .lst ((usort leI ns).map .int)) ∨
  (∃ (ks : List (List Int)) (L : List (Addr × List Int)), o = SetTO P w a L ∧ (∀ p ∈ L, F p.1 = some (.tup (p.2.map V.int))) ∧ (∀ k, k ∈ L.map (·.2) ↔ k ∈ ks) ∧ dims (usort leT ks) = true ∧ z = .lst ((usort leT ks).map tupI))
section
variable {X : Cx} {xc : V → Str → Prop}
def rSetD (K : PySem.W.Frag) (mg : Str → Option Value) (xc : V → Str → Prop) (P : Program) (w : World) : List V → Hp → VK → Prop := fun xs H Q => ∃ F x d m z, xs = [x] ∧ Same F H ∧ Vr K mg xc F H x d ∧ ssetX d = some (.v m z) ∧
  ∀ a o, H a = none → SetD P w F a o z → m = .fr → Q (.ref a) (upd H a o)
theorem setD_ok (hc : X.calm = true) (hu : X.A.units + 64 < cLine) : CallR X (.type "set") (rSetD X.K X.mg xc X.prog X.w) := by
  intro pins s σ H xs us Q I r h
  obtain ⟨F, x, d, m, z, rfl, sF, hx, hf, q⟩ := h
  cases d with
  | lst ds =>
    obtain ⟨a, vs, rfl, h1, r1⟩ := hx.list sF
    have hf' : (match intsD ds with
      | some ns => if (Nat.ble ns.length 4000 && Nat.ble (usort leI ns).length 60) = true then fr (.lst ((usort leI ns).map .int)) else none
      | none => (match tupsD ds with
        | some ks => if (Nat.ble (usort leT ks).length 60 && dims (usort leT ks)) = true then fr (.lst ((usort leT ks).map tupI)) else none
        | none => none)) = some (.v m z) := hf
    split at hf'
    · rename_i ns hn
      split at hf'
      · rename_i hb
        rw [Bool.and_eq_true] at hb
        cases hf'
        have e := r1.ints hn
        subst e
        exact setI_ok hc pins s σ H _ us Q I r ⟨a, ns, rfl, .of h1, by have := Nat.le_of_ble_eq_true hb.1; unfold scanBound; omega, fun b hb2 => q b _ hb2 (.inl ⟨ns, rfl, Nat.le_of_ble_eq_true hb.2, rfl⟩) rfl⟩
      · cases hf'
    · split at hf'
      · rename_i ks hk
        split at hf'
        · rename_i hb
          rw [Bool.and_eq_true] at hb
          cases hf'
          have e := tupsD_inv hk
          subst e
          obtain ⟨ps, e1, e2, e3⟩ := reps_tups r1
          subst e1 e2
          have few := Nat.le_of_ble_eq_true hb.1
          refine setT_ok hc hu pins s σ H _ us Q I r ⟨a, ps, usort leT (ps.map (·.2)), rfl, .of h1, fun p hp => .of (sF _ _ (e3 p hp)), by omega, fun p hp => (mem_usort _ _).mpr (List.mem_map.mpr ⟨p, hp, rfl⟩), fun b L hb2 l1 l2 => ?_⟩
          refine q b _ hb2 (.inr ⟨ps.map (·.2), L, rfl, fun p hp => e3 p (l1 p hp), fun k => ⟨fun hk => ?_, fun hk => ?_⟩, hb.2, rfl⟩) rfl
          · obtain ⟨p, hp, e⟩ := List.mem_map.mp hk
            exact List.mem_map.mpr ⟨p, l1 p hp, e⟩
          · obtain ⟨p, hp, e⟩ := List.mem_map.mp hk
            rw [← e]
            exact l2 p hp
        · cases hf'
      · cases hf'
  | _ => cases hf
end
section
variable {X : Cx} {xc : V → Str → Prop}
def rSortD (K : PySem.W.Frag) (mg : Str → Option Value) (xc : V → Str → Prop) (P : Program) (w : World) : List V → Hp → VK → Prop := fun xs H Q => ∃ F a o z, xs = [.ref a] ∧ Same F H ∧ H a = some o ∧ SetD P w F a o z ∧
  ∀ v F' H', Ext F H F' H' → Vok K mg xc H F' H' .fr v z → Q v H'
theorem sortD_ok (hc : X.calm = true) : CallR X (.builtin "sorted") (rSortD X.K X.mg xc X.prog X.w) := by
  intro pins s σ H xs us Q I r h
  obtain ⟨F, a, o, z, rfl, sF, ha, hd, q⟩ := h
  rcases hd with ⟨ns, rfl, few, rfl⟩ | ⟨ks, L, rfl, hL, hm, hdim, rfl⟩
  · refine cr_sortedSet hc pins s σ H _ us Q I r ⟨a, _, _, rfl, ha, by omega, fun ns2 p pw mem len hp => ?_⟩
    have e : ns2 = usort leI ns := usort_of ordI (pw.imp fun h => by simp only [leI, decide_eq_true_eq]; omega) (pw.imp fun h => by omega) fun x => by rw [mem]; simp
    subst e
    exact q _ F _ (.newH sF hp) ⟨p, rfl, sF.free hp, hp, _, upd_same, Reps.of_ints _⟩
  · obtain ⟨d, hd1, hd2⟩ := dims_bd hdim
    have hB : ∀ p ∈ L, p.2.length = d ∧ TS.Bd 64 p.2 := fun p hp => hd2 _ ((mem_usort _ _).mpr ((hm _).mp (List.mem_map.mpr ⟨p, hp, rfl⟩)))
    refine cr_sortedT hc pins s σ H _ us Q I r ⟨a, L, d, 64, rfl, ha, fun p hp => .of (sF _ _ (hL p hp)), hd1, hB, fun L2 p pm nd few pw hp => ?_⟩
    have e : L2.map (·.2) = usort leT ks := by
      refine usort_of ordT ?_ nd fun x => ((pm.map (·.2)).mem_iff).trans (hm x)
      rw [List.pairwise_map]
      refine List.Pairwise.imp_of_mem (fun {x y} hx hy h => ?_) pw
      obtain ⟨l1, b1⟩ := hB x (pm.mem_iff.mp hx)
      obtain ⟨l2, b2⟩ := hB y (pm.mem_iff.mp hy)
      exact code_le (l1.trans l2.symm) b1 b2 h
    rw [← e] at q
    exact q _ F _ (.newH sF hp) ⟨p, rfl, sF.free hp, hp, _, upd_same, reps_of_tups fun x hx => hL x (pm.mem_iff.mp hx)⟩
end
section
variable {X : Cx} {xc : V → Str → Prop} {W : WX} {G : Fns} {gc : GC}
theorem e_sset (C : Ctx gc G X xc W) (hh : gc.hot = false) {a : E} {e : Expr} {p p2 q pos : Pos} (hg : glB X.env.scope "sorted" = true) (hg2 : glB X.env.scope "set" = true) (ha : PE X e (tE X xc W G a)) (hs : notSt e = true) :
    PE X (.Call (.Name "sorted" p) [.Call (.Name "set" p2) [e] [] q] [] pos) (tE X xc W G (.b1 .sset a)) := by
  obtain ⟨g1, g2, g3⟩ := glB_ok hg
  obtain ⟨k1, k2, k3⟩ := glB_ok hg2
  have hu : X.A.units + 64 < cLine := by have := C.hu; omega
  have inner := pe_callTy (p := p2) (pos := q) (setD_ok (xc := xc) (C.calm hh) hu) k1 (C.bl "set" (by decide)) PyProof.Rows.boot_set (pa_cons ha pa_nil (star_cons hs)) k3 k2 (star_cons hs) rfl
  refine (pe_callB (p := p) (pos := pos) (sortD_ok (xc := xc) (C.calm hh)) g1 (C.bl "sorted" (by decide)) (by decide +kernel) (pa_cons inner pa_nil (star_cons rfl)) g3 g2 (star_cons rfl) rfl).of fun σ H Q ⟨H0, F, ρ, r, R, ev, post⟩ => ?_
  refine rd1 R ev post fun m d x F1 H1 ev1 x1 ok1 => ?_
  obtain ⟨m2, z, rfl⟩ := b1D_v (o := .sset) ev1
  refine ⟨F1, x, d, m2, z, rfl, x1.s, ok1.vr, ev1, fun b o hn sd em => ⟨F1, b, o, z, rfl, x1.s.trans (same_upd hn), upd_same, sd, fun v F' H' x3 ok => ?_⟩⟩
  subst em
  exact post v F' H' (x1.trans ((Ext.newH x1.s hn).trans x3)) (ok.start (x1.h.trans (same_upd hn)))
end
end LS

set_option Elab.async false
set_option linter.all false
set_option maxRecDepth 100000
set_option maxHeartbeats 4000000
/-! LS23: sorted(list), sorted(dict), len(set(list)). -/
namespace LS
open PySem PySem.Spec PyProof.Rows L2
section
variable {K : PySem.W.Frag} {mg : Str → Option Value} {xc : V → Str → Prop} {F H : Hp}
theorem refs_perm {ps : List (Addr × List Int)} {ys : List V} (h : ys.Perm (ps.map fun p => V.ref p.1)) : ∃ qs : List (Addr × List Int), qs.Perm ps ∧ ys = qs.map fun p => V.ref p.1 := by
  have key : ∀ {xs ys : List V}, xs.Perm ys → ∀ ps : List (Addr × List Int), xs = ps.map (fun p => V.ref p.1) → ∃ qs : List (Addr × List Int), qs.Perm ps ∧ ys = qs.map fun p => V.ref p.1 := by
    intro xs ys h
    induction h with
    | nil => intro ps e; cases ps with
      | nil => exact ⟨[], .refl _, rfl⟩
      | cons p ps => cases e
    | cons x _ ih =>
      intro ps e
      cases ps with
      | nil => cases e
      | cons p ps =>
        rw [List.map_cons] at e
        injection e with e1 e2
        obtain ⟨qs, h1, h2⟩ := ih ps e2
        exact ⟨p :: qs, h1.cons p, by rw [e1, h2, List.map_cons]⟩
    | swap x y l =>
      intro ps e
      cases ps with
      | nil => cases e
      | cons p ps =>
        cases ps with
        | nil => cases e
        | cons q ps =>
          rw [List.map_cons, List.map_cons] at e
          injection e with e1 e2
          injection e2 with e2 e3
          exact ⟨q :: p :: ps, .swap p q ps, by rw [e1, e2, e3, List.map_cons, List.map_cons]⟩
    | trans _ _ ih1 ih2 =>
      intro ps e
      obtain ⟨qs, h1, h2⟩ := ih1 ps e
      obtain ⟨rs, h3, h4⟩ := ih2 qs h2
      exact ⟨rs, h3.trans h1, h4⟩
  exact key h.symm ps rfl
end
theorem vrefs_perm {ps : List (Addr × List Int)} {ys : List Value} (h : ys.Perm (ps.map fun p => Value.ref p.1)) : ∃ qs : List (Addr × List Int), qs.Perm ps ∧ ys = qs.map fun p => Value.ref p.1 := by
  have key : ∀ {xs ys : List Value}, xs.Perm ys → ∀ ps : List (Addr × List Int), xs = ps.map (fun p => Value.ref p.1) → ∃ qs : List (Addr × List Int), qs.Perm ps ∧ ys = qs.map fun p => Value.ref p.1 := by
    intro xs ys h
    induction h with
    | nil => intro ps e; cases ps with
      | nil => exact ⟨[], .refl _, rfl⟩
      | cons p ps => cases e
    | cons x _ ih =>
      intro ps e
      cases ps with
      | nil => cases e
      | cons p ps =>
        rw [List.map_cons] at e
        injection e with e1 e2
        obtain ⟨qs, h1, h2⟩ := ih ps e2
        exact ⟨p :: qs, h1.cons p, by rw [e1, h2, List.map_cons]⟩
    | swap x y l =>
      intro ps e
      cases ps with
      | nil => cases e
      | cons p ps =>
        cases ps with
        | nil => cases e
        | cons q ps =>
          rw [List.map_cons, List.map_cons] at e
          injection e with e1 e2
          injection e2 with e2 e3
          exact ⟨q :: p :: ps, .swap p q ps, by rw [e1, e2, e3, List.map_cons, List.map_cons]⟩
    | trans _ _ ih1 ih2 =>
      intro ps e
      obtain ⟨qs, h1, h2⟩ := ih1 ps e
      obtain ⟨rs, h3, h4⟩ := ih2 qs h2
      exact ⟨rs, h3.trans h1, h4⟩
  exact key h.symm ps rfl
section
variable {X : Cx} {xc : V → Str → Prop}
theorem sorted_list_ok {pins : List (Addr × Obj)} {s : Shared} {σ : L2.St} {H : Hp} {us : List Value} {Q : VK} {F : Hp} {x : V} {ds : List D} {m : Mk} {z : D} (I : L2.Inv X pins σ H s) (r : Vals [x] us) (sF : Same F H) (hx : Vr X.K X.mg xc F H x (.lst ds))
    (hf : sortedX (.lst ds) = some (.v m z)) (q : ∀ v F' H', Ext F H F' H' → Vok X.K X.mg xc H F' H' m v z → Q v H') : wpAny (model X.prog X.w) X.A (call (.builtin "sorted") us) (EP X pins σ Q) X.xe s := by
  obtain ⟨a, vs, rfl, h1, r1⟩ := hx.list sF
  have hf' : (match intsD ds with
    | some ns => fr (.lst ((isort leI ns).map .int))
    | none => (match tupsD ds with
      | some ks => if (Nat.ble ks.length 60 && dims ks) = true then fr (.lst ((isort leT ks).map tupI)) else none
      | none => none)) = some (.v m z) := hf
  split at hf'
  · rename_i ns hn
    cases hf'
    have e := r1.ints hn
    subst e
    refine cr_sortedI pins s σ H _ us Q I r ⟨a, ns, rfl, .of h1, fun ns2 p pm pw hp => ?_⟩
    have e : ns2 = isort leI ns := isort_of ordI pm (pw.imp fun h => by simp only [leI, decide_eq_true_eq]; exact h)
    subst e
    exact q _ F _ (.newH sF hp) ⟨p, rfl, sF.free hp, hp, _, upd_same, Reps.of_ints _⟩
  · split at hf'
    · rename_i ks hk
      split at hf'
      · rename_i hb
        rw [Bool.and_eq_true] at hb
        cases hf'
        have e := tupsD_inv hk
        subst e
        obtain ⟨ps, e1, e2, e3⟩ := reps_tups r1
        subst e1 e2
        obtain ⟨d, hd1, hd2⟩ := dims_bd hb.2
        have few := Nat.le_of_ble_eq_true hb.1
        rw [List.length_map] at few
        have tup : ∀ y ∈ ps, TupI X.K H (V.ref y.1) y.2 := fun y hy => ⟨y.1, rfl, .of (sF _ _ (e3 y hy))⟩
        refine cr_sortT (d := d) (B := 64) hd1 pins s σ H _ us Q I r ⟨a, _, rfl, .of h1, by rw [List.length_map]; omega, fun y hy => ?_, fun ys p pm pw hp => ?_⟩
        · obtain ⟨w, hw, rfl⟩ := List.mem_map.mp hy
          obtain ⟨l, b⟩ := hd2 w.2 (List.mem_map.mpr ⟨w, hw, rfl⟩)
          exact ⟨w.2, tup w hw, l, b⟩
        · obtain ⟨qs, hq, rfl⟩ := refs_perm pm
          have e : qs.map (·.2) = isort leT (ps.map (·.2)) := by
            refine isort_of ordT (hq.map _) ?_
            rw [List.pairwise_map]
            refine List.Pairwise.imp_of_mem (fun {u w} hu hw h => ?_) (List.pairwise_map.mp pw)
            obtain ⟨l1, b1⟩ := hd2 u.2 (List.mem_map.mpr ⟨u, hq.mem_iff.mp hu, rfl⟩)
            obtain ⟨l2, b2⟩ := hd2 w.2 (List.mem_map.mpr ⟨w, hq.mem_iff.mp hw, rfl⟩)
            exact code_le (l1.trans l2.symm) b1 b2 (h _ _ (tup u (hq.mem_iff.mp hu)) (tup w (hq.mem_iff.mp hw)))
          rw [← e] at q
          exact q _ F _ (.newH sF hp) ⟨p, rfl, sF.free hp, hp, _, upd_same, reps_of_tups fun y hy => e3 y (hq.mem_iff.mp hy)⟩
      · cases hf'
    · cases hf'
end
section
variable {X : Cx} {xc : V → Str → Prop}
/-- sorted(d), d a dict whose keys are tuples of ints -/
def rSortDT (K : PySem.W.Frag) : List V → Hp → VK → Prop := fun xs H Q => ∃ (d : Addr) (kvs : List (List Key × V)) (ks : List (List Int)) (n : Nat), xs = [V.ref d] ∧ Rd H d (.dT kvs) ∧ kvs.map (·.1) = ks.map (fun k => k.map Sum.inl) ∧ ks.length < 64 ∧ 1 ≤ n ∧
  (∀ k ∈ ks, k.length = n ∧ TS.Bd 64 k) ∧
  ∀ (p : Addr) (ps : List (Addr × List Int)), (ps.map (·.2)).Perm ks → ps.Pairwise (fun x y => TS.code 64 x.2 ≤ TS.code 64 y.2) → H p = none → (∀ q ∈ ps, H q.1 = some (.tup (q.2.map V.int))) → Q (.ref p) (upd H p (.lst (ps.map fun q => V.ref q.1)))
theorem paired_zip {H : Hp} : ∀ {kvs : List (List Key × V)} {bs : List Addr} {ks : List (List Int)}, IsKeys H kvs bs → kvs.map (·.1) = ks.map (fun k => k.map Sum.inl) → bs.length = ks.length ∧ ∀ q ∈ bs.zip ks, H q.1 = some (.tup (q.2.map V.int))
  | _, _, [], .nil, _ => ⟨rfl, fun q h => by cases h⟩
  | _, _, k :: ks, .nil, e => by cases e
  | _, _, [], .cons _ _, e => by cases e
  | _, _, k :: ks, .cons h t, e => by
    rw [List.map_cons, List.map_cons] at e
    injection e with e1 e2
    obtain ⟨h1, h2⟩ := paired_zip t e2
    refine ⟨by rw [List.length_cons, List.length_cons, h1], fun q hq => ?_⟩
    rw [List.zip_cons_cons] at hq
    rcases List.mem_cons.mp hq with rfl | hq
    · rw [h, e1, List.map_map]
      rfl
    · exact h2 q hq
theorem sortDT_ok (hc : X.calm = true) : CallR X (.builtin "sorted") (rSortDT X.K) := by
  intro pins s σ H xs us Q I r h
  obtain ⟨d, kvs, kk, n, rfl, hd, hkk, h64, hn1, hB, q⟩ := h
  obtain ⟨u, rfl, rx⟩ := r.one
  cases rx
  obtain ⟨z, hs, ks, pr, o, es, ep, ho, hx, hdt, he, hn⟩ := (show ObjOk X.prog X.w H s.heap d (.dT kvs) from hd.ok I.hok)
  have l1 : es.size = ks.length := size_of_entries he
  have l2 : kvs.length = ks.length := Paired.length pr
  have l3 : kvs.length = kk.length := by
    have e := congrArg List.length hkk
    rwa [List.length_map, List.length_map] at e
  obtain ⟨l4, htup⟩ := paired_zip (isKeys_of pr) hkk
  rw [List.length_map] at l4
  refine Calls.call_function_entry PyProof.Rows.kind_sorted PyProof.Rows.plain_sorted PyProof.Rows.entry_sorted (PyProof.Rows.args_sorted1 _) ?_
  unfold Builtin.«sorted»
  refine wpAny_bind (m := checkCount "sorted" 1 1 _) (wpAny_pure ?_)
  refine wpAny_bind (PySem.W.kdu_collect (A := X.A.in1) (kdl_raw hs hx hdt) (I.ok.hd hc) ho (by rw [sizeLine_eq]; omega) fun h' tk acc hk it => ?_)
  have ea : acc.toList = (ks.map fun x => x.2.1).map Value.ref := by
    have hl : acc.toList.length = ks.length := by rw [Array.length_toList, it.1]; exact l1
    rw [List.map_map]
    apply List.ext_getElem?
    intro j
    rw [List.getElem?_map]
    cases hj : acc.toList[j]? with
    | none =>
      have h1 := List.getElem?_eq_none_iff.mp hj
      rw [List.getElem?_eq_none (by omega)]
      all_goals rfl
    | some v =>
      obtain ⟨en, hen, hv⟩ := it.2 j v (by rw [← Array.getElem?_toList]; exact hj)
      have qe := entry_at he j
      rw [hen] at qe
      cases hb : ks[j]? with
      | none =>
        rw [hb] at qe
        exact nomatch (show some en = none from qe)
      | some b =>
        rw [hb] at qe
        have e2 : en = entryOfKey (tupleKind (mixKind X.prog X.w)) b := Option.some.inj qe
        rw [hv, e2]
        all_goals rfl
  obtain ⟨ps, hps⟩ : ∃ ps, ps = (ks.map fun x => x.2.1).zip kk := ⟨_, rfl⟩
  have e1 : ps.map (·.1) = ks.map fun x => x.2.1 := by rw [hps]; exact List.map_fst_zip (by rw [List.length_map]; omega)
  have e2 : ps.map (·.2) = kk := by rw [hps]; exact List.map_snd_zip (by rw [List.length_map]; omega)
  have eb : acc.toList = ps.map fun p => Value.ref p.1 := by rw [ea, ← e1, List.map_map]; rfl
  have hacc : acc.toList.length = kk.length := by rw [eb, List.length_map, ← e2, List.length_map]
  rw [← hps] at htup
  have I1 : L2.Inv X pins σ H { s with heap := h', toks := tk } := I.kept hk
  have J1 : L2.Inv X pins σ H { s with heap := h'.push (seqObj "list" acc.toList.toArray 0), toks := tk } := I.kept fun b u e => Heap.get?_push_of_some _ (hk b u e)
  refine wpAny_bind (wpAny_newList ?_ (by rw [hacc, sizeLine_eq]; omega))
  have hoL : (h'.push (seqObj "list" acc.toList.toArray 0)).get? h'.objs.size = some (seqObj "list" acc.toList.toArray 0) := Heap.get?_push_size _ rfl
  show wpAny _ _ _ _ _ { s with heap := h'.push (seqObj "list" acc.toList.toArray 0), toks := tk }
  have tk1 : ∀ q ∈ ps, TS.TupInts (h'.push (seqObj "list" acc.toList.toArray 0)) (.ref q.1) q.2 := fun q hq => tupI_raw J1 (.of (htup q hq))
  have x : TS.TupsOk (h'.push (seqObj "list" acc.toList.toArray 0)) n 64 acc.toList := fun v hv => by
    rw [eb] at hv
    obtain ⟨q, hq, rfl⟩ := List.mem_map.mp hv
    obtain ⟨b1, b2⟩ := hB q.2 (by rw [← e2]; exact List.mem_map.mpr ⟨q, hq, rfl⟩)
    exact ⟨q.2, tk1 q hq, b1, b2⟩
  refine wpAny_bind (wpAny_holding (TS.call_sort_tups (s := { s with heap := h'.push (seqObj "list" acc.toList.toArray 0), toks := tk }) hoL (by rw [hacc]; exact h64) hn1 x fun out a1 a2 => ?_))
  obtain ⟨c, hc2⟩ := PyProof.Rows.sortedHeap_at (vs := acc.toList) (out := out) hoL
  rw [eb] at a1
  obtain ⟨qs, hq, eq⟩ := vrefs_perm a1
  rw [eq] at a2
  have pw : qs.Pairwise (fun x y => TS.code 64 x.2 ≤ TS.code 64 y.2) := by
    refine List.Pairwise.imp_of_mem (fun {u w} hu hw hle => ?_) (List.pairwise_map.mp a2)
    have f1 := (tk1 u (hq.mem_iff.mp hu)).ints
    have f2 := (tk1 w (hq.mem_iff.mp hw)).ints
    rw [← f1, ← f2]
    exact hle
  have hlen : (qs.map fun q => V.ref q.1).length ≤ sizeLine := by
    rw [List.length_map, hq.length_eq, ← List.length_map (f := (·.2)), e2, sizeLine_eq]
    omega
  have hv : Vals (qs.map fun q => V.ref q.1) out.toList := by rw [eq]; exact vals_of_refs qs
  refine wpAny_pure ⟨_, rfl, .ref h'.objs.size, upd H h'.objs.size (.lst (qs.map fun q => V.ref q.1)), I1.laid (t' := tk) (fun b u e => ?_) (Nat.le_refl _)
    (show ObjOk X.prog X.w _ _ _ (.lst (qs.map fun q => V.ref q.1)) from ⟨hlen, out.toList, c, hv, by rw [Array.toArray_toList]; exact hc2⟩), rfl, q _ qs ?_ pw (I1.hok.fresh (Nat.le_refl _)) fun y hy => htup y (hq.mem_iff.mp hy)⟩
  · have hb : b < h'.objs.size := Heap.lt_size e
    rw [PyProof.Rows.sortedHeap_old (Nat.ne_of_lt hb) (by rw [size_push']; exact Nat.lt_succ_of_lt hb)]
    exact Heap.get?_push_of_some _ e
  · rw [← e2]
    exact hq.map _
end
section
variable {X : Cx} {xc : V → Str → Prop} {F H : Hp}
theorem kts_keys {kvs : List (List Key × V)} {es : List (List Int × D)} : KTs X.K X.mg xc F kvs es → kvs.map (·.1) = (es.map (·.1)).map fun k => k.map Sum.inl
  | .nil => rfl
  | .cons _ t => by rw [List.map_cons, List.map_cons, List.map_cons, kts_keys t]
def rSorted (K : PySem.W.Frag) (mg : Str → Option Value) (xc : V → Str → Prop) : List V → Hp → VK → Prop := fun xs H Q => ∃ F x d m z, xs = [x] ∧ Same F H ∧ Vr K mg xc F H x d ∧ sortedX d = some (.v m z) ∧
  ∀ v F' H', Ext F H F' H' → Vok K mg xc H F' H' m v z → Q v H'
theorem sorted_ok (hc : X.calm = true) : CallR X (.builtin "sorted") (rSorted X.K X.mg xc) := by
  intro pins s σ H xs us Q I r h
  obtain ⟨F, x, d, m, z, rfl, sF, hx, hf, q⟩ := h
  cases d with
  | lst ds => exact sorted_list_ok I r sF hx hf q
  | dct es =>
    obtain ⟨a, kvs, rfl, hd, hk⟩ := hx.dct sF
    have hf' : (if (Nat.ble es.length 60 && dims (es.map (·.1))) = true then fr (.lst ((isort leT (es.map (·.1))).map tupI)) else none) = some (.v m z) := hf
    split at hf'
    · rename_i hb
      rw [Bool.and_eq_true] at hb
      cases hf'
      obtain ⟨n, hn1, hn2⟩ := dims_bd hb.2
      have few := Nat.le_of_ble_eq_true hb.1
      refine sortDT_ok hc pins s σ H _ us Q I r ⟨a, kvs, es.map (·.1), n, rfl, hd, kts_keys hk, by rw [List.length_map]; omega, hn1, hn2, fun p ps pm pw hp ht => ?_⟩
      have e : ps.map (·.2) = isort leT (es.map (·.1)) := by
        refine isort_of ordT pm ?_
        rw [List.pairwise_map]
        refine List.Pairwise.imp_of_mem (fun {u w} hu hw h => ?_) pw
        obtain ⟨l1, b1⟩ := hn2 u.2 (pm.mem_iff.mp (List.mem_map.mpr ⟨u, hu, rfl⟩))
        obtain ⟨l2, b2⟩ := hn2 w.2 (pm.mem_iff.mp (List.mem_map.mpr ⟨w, hw, rfl⟩))
        exact code_le (l1.trans l2.symm) b1 b2 h
      rw [← e] at q
      obtain ⟨F2, hF2⟩ : ∃ F2 : Hp, F2 = fun b => if b ∈ ps.map (·.1) then H b else F b := ⟨_, rfl⟩
      have f1 : Same F F2 := fun b o e => by
        rw [hF2]
        show (if b ∈ ps.map (·.1) then H b else F b) = some o
        split
        · exact sF b o e
        · exact e
      have f2 : Same F2 H := fun b o e => by
        rw [hF2] at e
        have e' : (if b ∈ ps.map (·.1) then H b else F b) = some o := e
        split at e'
        · exact e'
        · exact sF b o e'
      have f3 : ∀ b o, F2 b = some o → F b = some o ∨ ∃ xs, o = .tup xs := fun b o e => by
        rw [hF2] at e
        have e' : (if b ∈ ps.map (·.1) then H b else F b) = some o := e
        split at e'
        · rename_i hb2
          obtain ⟨y, hy, rfl⟩ := List.mem_map.mp hb2
          rw [ht y hy] at e'
          cases e'
          exact .inr ⟨_, rfl⟩
        · exact .inl e'
      have f4 : ∀ y ∈ ps, F2 y.1 = some (.tup (y.2.map V.int)) := fun y hy => by
        rw [hF2]
        show (if y.1 ∈ ps.map (·.1) then H y.1 else F y.1) = _
        rw [if_pos (List.mem_map.mpr ⟨y, hy, rfl⟩)]
        exact ht y hy
      refine q _ F2 _ (((Ext.refl sF).tups f1 f2 f3).trans (.newH f2 hp)) ⟨p, rfl, f2.free hp, hp, _, upd_same, reps_of_tups f4⟩
    · cases hf'
  | _ => cases hf
theorem lenSet_ok : CallR X (.builtin "len") (fun xs H Q => ∃ (a : Addr) (S : Int → Bool) (n : Nat), xs = [V.ref a] ∧ H a = some (SetO X.w a S n) ∧ Q (.int n) H) := by
  intro pins s σ H xs us Q I r h
  obtain ⟨a, S, n, rfl, ha, q⟩ := h
  obtain ⟨o, es, ep, t, ho, hx, hd, g, nd, hm, hb, hf, hn, _⟩ := setO_get I ha
  rw [Vals.ref1 r]
  subst hn
  have hb' : es.size < scanBound := hb
  refine call_len_set ho hx hd hf (by unfold scanBound at hb'; omega) ⟨.int es.size, H, I.tok _, ⟨_, rfl⟩, q⟩
end
section
variable {X : Cx} {xc : V → Str → Prop} {W : WX} {G : Fns} {gc : GC}
theorem e_sorted (C : Ctx gc G X xc W) (hh : gc.hot = false) {a : E} {e : Expr} {p pos : Pos} (hg : glB X.env.scope "sorted" = true) (ha : PE X e (tE X xc W G a)) (hs : notSt e = true) :
    PE X (.Call (.Name "sorted" p) [e] [] pos) (tE X xc W G (.b1 .sorted a)) := by
  obtain ⟨g1, g2, g3⟩ := glB_ok hg
  refine (pe_callB (p := p) (pos := pos) (sorted_ok (xc := xc) (C.calm hh)) g1 (C.bl "sorted" (by decide)) (by decide +kernel) (pa_cons ha pa_nil (star_cons hs)) g3 g2 (star_cons hs) rfl).of fun σ H Q ⟨H0, F, ρ, r, R, ev, post⟩ => ?_
  refine rd1 R ev post fun m d x F1 H1 ev1 x1 ok1 => ?_
  obtain ⟨m2, z, rfl⟩ := b1D_v (o := .sorted) ev1
  exact ⟨F1, x, d, m2, z, rfl, x1.s, ok1.vr, ev1, fun v F' H' x3 ok => post v F' H' (x1.trans x3) (ok.start x1.h)⟩
theorem e_lset (C : Ctx gc G X xc W) (hh : gc.hot = false) {a : E} {e : Expr} {p p2 q pos : Pos} (hg : glB X.env.scope "len" = true) (hg2 : glB X.env.scope "set" = true) (ha : PE X e (tE X xc W G a)) (hs : notSt e = true) :
    PE X (.Call (.Name "len" p) [.Call (.Name "set" p2) [e] [] q] [] pos) (tE X xc W G (.b1 .lset a)) := by
  obtain ⟨g1, g2, g3⟩ := glB_ok hg
  obtain ⟨k1, k2, k3⟩ := glB_ok hg2
  have inner := pe_callTy (p := p2) (pos := q) (setI_ok (C.calm hh)) k1 (C.bl "set" (by decide)) PyProof.Rows.boot_set (pa_cons ha pa_nil (star_cons hs)) k3 k2 (star_cons hs) rfl
  refine (pe_callB (p := p) (pos := pos) lenSet_ok g1 (C.bl "len" (by decide)) PySem.boot_len (pa_cons inner pa_nil (star_cons rfl)) g3 g2 (star_cons rfl) rfl).of fun σ H Q ⟨H0, F, ρ, r, R, ev, post⟩ => ?_
  refine rd1 R ev post fun m d x F1 H1 ev1 x1 ok1 => ?_
  cases d with
  | lst ds =>
    obtain ⟨b, vs, rfl, h1, r1⟩ := ok1.vr.list x1.s
    have ev' : (match intsD ds with
      | some ns => if Nat.ble ns.length 4000 then cl (.int (usort leI ns).length) else none
      | none => none) = some r := ev1
    split at ev'
    · rename_i ns hn
      split at ev'
      · rename_i hb
        cases ev'
        have e := r1.ints hn
        subst e
        refine ⟨b, ns, rfl, .of h1, by have := Nat.le_of_ble_eq_true hb; unfold scanBound; omega, fun c hc => ⟨c, _, _, rfl, upd_same, ?_⟩⟩
        exact post _ F1 _ (x1.trans (Ext.newH x1.s hc)) (.int _)
      · cases ev'
    · cases ev'
  | _ => cases ev1
end
end LS

set_option Elab.async false
set_option linter.all false
set_option maxRecDepth 100000
/-! LS9: enumerate and zip of lists and tuples, as the hand layer's iterators. -/
namespace PySem
open Sem (wp)
set_option maxHeartbeats 1000000 in
theorem ls_meets_enum1 {v : Value} {o : Obj} {H : Heap → Prop} (B : Begins v o H) :
    Meets (Builtin.«enumerate.__new__» ⟨[.type "enumerate", v], []⟩) (fun _ R s => H s.heap ∧
      R (.ok (.ret (.ref (s.heap.push o).objs.size))) { s with heap := (s.heap.push o).push { cls := .type "enumerate", data := .fields #[.none, .bool false, .ref s.heap.objs.size, rawInt 0, .none, .none] } }) :=
  .of_wp fun prog w A R s h => by
    obtain ⟨hp, g, d, tk, os⟩ := s; obtain ⟨h1, h⟩ := h
    have hsub := sub_enumerate
    have q1 : ∀ {A' : Around} {E : Value → Shared → Prop} {Q : Value → Shared → Prop}, Q (.ref hp.objs.size) ⟨hp.push o, g, d, tk, os⟩ → wpAny (model prog w) A' (pyIter v) Q E ⟨hp, g, d, tk, os⟩ :=
      fun q => B.iter prog w _ _ ⟨hp, g, d, tk, os⟩ _ h1 q
    wp_walk using q1
    refine wpAny_stack_any fun st => wpAny_pure ?_
    split
    · rename_i c _ _ _ _ _
      cases (c == Value.type "enumerate")
      · wp_walk using q1
        exact ⟨_, rfl, h⟩
      · wp_walk using q1
        exact ⟨_, rfl, h⟩
    · wp_walk using q1
      exact ⟨_, rfl, h⟩
section
variable {prog : Program} {w : World} {A : Around} {E : Value → Shared → Prop} {s : Shared}
theorem ls_enum_begins {v : Value} {o : Obj} {H : Heap → Prop} {Q : Value → Shared → Prop} (B : Begins v o H) (h1 : H s.heap)
    (h : ∀ h', IsEnum h' (s.heap.objs.size + 1) s.heap.objs.size 0 .none → h'.get? s.heap.objs.size = some o → h'.objs.size = s.heap.objs.size + 2 →
      (∀ b o, s.heap.get? b = some o → h'.get? b = some o) → Q (.ref (s.heap.objs.size + 1)) { s with heap := h' }) :
    wpAny (model prog w) A (call (.type "enumerate") [v]) Q E s := by
  refine callType_new F.called_enumerate (by decide) (F.typeCall_enumerate_1 _) (F.newCall_enumerate_1 _) (fun obj => F.args_object_init_2 obj _) F.entry_enumerate_new
    (ls_meets_enum1 B) ⟨h1, ?_⟩
  have hz : (s.heap.push o).objs.size = s.heap.objs.size + 1 := Heap.size_push ..
  show _ ∧ _
  rw [hz]
  have he : IsEnum ((s.heap.push o).push { cls := .type "enumerate", data := .fields #[.none, .bool false, .ref s.heap.objs.size, rawInt 0, .none, .none] }) (s.heap.objs.size + 1) s.heap.objs.size 0 .none := by
    have := Heap.get?_push_size (s.heap.push o) (o := { cls := .type "enumerate", data := .fields #[.none, .bool false, .ref s.heap.objs.size, rawInt 0, .none, .none] }) rfl
    rw [hz] at this; exact this
  refine ⟨⟨_, he, rfl⟩, h _ he (Heap.get?_push_of_some _ (Heap.get?_push_size _ B.free)) (by rw [Heap.size_push, hz]) fun b o x => Heap.get?_push_of_some _ (Heap.get?_push_of_some _ x)⟩
end
end PySem

namespace LS
open PySem PySem.Spec PyProof.Rows L2
/-- a tuple (true) or a list -/
def SqB (b : Bool) (K : PySem.W.Frag) (H : Hp) (a : Addr) (xs : List V) : Prop := match b with
  | true => SqT K H a xs
  | false => SqL K H a xs
def ItB (b : Bool) (h : Heap) (it a : Addr) (i : Nat) : Prop := match b with
  | true => h.IsTupleIter it a i
  | false => h.IsListIter it a i
def HdB (b : Bool) (h : Heap) (a : Addr) (items : Array Value) : Prop := match b with
  | true => h.IsTuple a items
  | false => h.IsList a items
def ObB (b : Bool) (a : Addr) : Obj := match b with
  | true => { cls := .type "tuple_iterator", data := .fields #[.ref a, .int 0 0] }
  | false => { cls := .type "list_iterator", data := .fields #[.ref a, .int 0 0] }
section
variable {X : Cx} {pins : List (Addr × Obj)} {σ : L2.St} {H : Hp} {s : Shared} {a it : Addr} {xs ys : List V} {b : Bool} {h h' : Heap} {i : Nat} {items : Array Value}
theorem inv_seqB (I : L2.Inv X pins σ H s) (q : SqB b X.K H a xs) : ∃ its : List Value, Vals xs its ∧ HdB b s.heap a its.toArray ∧ xs.length ≤ sizeLine := by
  cases b with
  | true => obtain ⟨its, rv, p, z⟩ := I.tuple q; exact ⟨its, rv, p, z⟩
  | false => obtain ⟨its, rv, p, z⟩ := I.list q; exact ⟨its, rv, p.isList, z⟩
theorem inv_injB (I : L2.Inv X pins σ H s) (q : SqB b X.K H a xs) (q' : SqB b X.K H a ys) : xs = ys := by
  cases b with
  | true => exact I.tuple_inj q q'
  | false => exact I.list_inj q q'
theorem drawsB {prog : Program} {w : World} {A : Around} (b : Bool) (hh : A.handled = none) (it a : Addr) (hne : a ≠ it) (items : Array Value) :
    Draws prog w A it [it, a] items.size (fun i v => items[i]? = some v) (fun i h => ItB b h it a i ∧ HdB b h a items) := by
  cases b with
  | true => exact Draws.tuple hh it a hne items
  | false => exact Draws.list hh it a hne items
theorem begB (b : Bool) (a : Addr) (items : Array Value) : Begins (.ref a) (ObB b a) fun h => HdB b h a items := by
  cases b with
  | true => exact begins_tuple a items
  | false => exact begins_list a items
theorem ItB.obj (q : ItB b h it a i) : ∃ o, h.get? it = some o ∧ ∀ v, o.data ≠ .cell v := by
  cases b with
  | true => obtain ⟨o, e, _, d⟩ := q; exact ⟨o, e, fun v z => by rw [d] at z; cases z⟩
  | false => obtain ⟨o, e, _, d⟩ := q; exact ⟨o, e, fun v z => by rw [d] at z; cases z⟩
theorem ItB.at (q : ItB b h it a i) (k : ∀ o, h.get? it = some o → h'.get? it = some o) : ItB b h' it a i := by
  cases b with
  | true => obtain ⟨o, e, r⟩ := q; exact ⟨o, k o e, r⟩
  | false => obtain ⟨o, e, r⟩ := q; exact ⟨o, k o e, r⟩
theorem ItB.new (e : h.get? it = some (ObB b a)) : ItB b h it a 0 := by
  cases b with
  | true => exact ⟨_, e, rfl, rfl⟩
  | false => exact ⟨_, e, rfl, rfl⟩
theorem HdB.lt (q : HdB b h a items) : a < h.objs.size := by
  cases b with
  | true => obtain ⟨o, e, _⟩ := q; exact Heap.lt_size e
  | false => obtain ⟨o, e, _⟩ := q; exact Heap.lt_size e
end
/-- enumerate -/
def IteB (b : Bool) (K : PySem.W.Frag) (a : Addr) : L2.It :=
  ⟨fun i H => ∃ (xs : List V) (x : V), SqB b K H a xs ∧ xs[i]? = some x, fun i H v H' => ∃ T x, v = .ref T ∧ H T = none ∧ H' = upd H T (.tup [.int (i : Nat), x]) ∧ ∀ xs, SqB b K H a xs → xs[i]? = some x, fun i H => ∃ xs : List V, SqB b K H a xs ∧ xs.length = i⟩
theorem turn_enumB {b : Bool} {P : Program} {w : World} {K : PySem.W.Frag} {elts : List Expr} {kk : Nat} {tpos : Pos} (a e it : Addr) :
    Turn P w K (.Tuple elts kk tpos) (IteB b K a) [e, it] e (fun i h => (∃ old, IsEnum h e it ((i : Nat) : Int) old) ∧ ItB b h it a i ∧ e ≠ it ∧ a ≠ it ∧ a ≠ e) where
  mem := by simp
  obj := fun i h st b hb => by
    obtain ⟨⟨old, he⟩, hit, _⟩ := st
    have e' : b = e ∨ b = it := by simpa using hb
    rcases e' with z | z
    · rw [z]; exact ⟨_, he, fun v q => nomatch q⟩
    · rw [z]; exact hit.obj
  keep := fun i h h' st k => let ⟨⟨old, he⟩, hi, hne⟩ := st; ⟨⟨old, k e (by simp) _ he⟩, hi.at fun o q => k it (by simp) o q, hne⟩
  item := by
    intro X hP hw hK hc i pins s σ H E I hf st hg
    subst hP hw hK
    obtain ⟨⟨old, he⟩, hit, hne, hai, hae⟩ := st
    obtain ⟨xs, x, hq, hx⟩ := hg
    obtain ⟨its, rv, p, hz⟩ := inv_seqB I hq
    obtain ⟨u, hu, ru⟩ := rv.get hx
    have hel : e < s.heap.objs.size := Heap.lt_size he
    have hil : it < s.heap.objs.size := by obtain ⟨_, q, _⟩ := hit.obj; exact Heap.lt_size q
    have hlt : i < its.toArray.size := by
      have := (List.getElem?_eq_some_iff.mp hu).1
      simpa using this
    refine wpAny_pyNext_enum_itemD (drawsB b (show X.A.in1.handled = none from I.ok.hd hc) it a hai its.toArray) he ⟨hit, p⟩ hlt hne (by simp [hne, Ne.symm hae]) fun x' h' tk hP ho hst' hT hsz hk => ?_
    have ex : x' = u := by
      have q : its[i]? = some x' := by simpa using hP
      rw [hu] at q; exact (Option.some.inj q).symm
    subst ex
    refine ⟨_, rfl, wpAny_letOwnedTupleGo_enum (s := { s with heap := h', toks := tk + 1 }) ho fun h'' he' sb => ?_⟩
    have hT2 : h''.get? s.heap.objs.size = some { cls := .type "tuple", data := .seq #[.int i tk, x'] } := (sb.2 _ (Nat.ne_of_gt hel)).trans hT
    have new : ObjOk X.prog X.w (upd H s.heap.objs.size (.tup [.int (i : Nat), x])) h'' s.heap.objs.size (.tup [.int (i : Nat), x]) :=
      ⟨by show 2 ≤ sizeLine; decide, [.int i tk, x'], .cons ⟨_, rfl⟩ (.cons ru .nil), ⟨_, hT2, rfl, _, rfl⟩⟩
    have I1 : L2.Inv X pins σ (upd H s.heap.objs.size (.tup [.int (i : Nat), x])) { s with heap := h'', toks := tk + 1 } :=
      I.turnedNew (ch := [e, it]) (fun b ob hb q => (sb.2 b (fun z => hb (by simp [z]))).trans (hk b ob (fun z => hb (by simp [z])) (fun z => hb (by simp [z])) q)) hf (Nat.le_refl _) new
    refine ⟨.ref s.heap.objs.size, _, I1, rfl, ⟨_, x, rfl, I.hok.fresh (Nat.le_refl _), rfl, fun ys hy => by rw [inv_injB I hy hq]; exact hx⟩, ⟨⟨x', ?_⟩, hst'.1.at fun o q => (sb.2 it (Ne.symm hne)).trans q, hne, hai, hae⟩, fun b hb => ?_⟩
    · have e1 : ((i + 1 : Nat) : Int) = (i : Int) + 1 := by omega
      rw [e1]; exact he'
    · have hb' : b < s.heap.objs.size := by
        have e' : b = e ∨ b = it := by simpa using hb
        rcases e' with z | z
        · rw [z]; exact hel
        · rw [z]; exact hil
      rw [upd_ne (Nat.ne_of_lt hb')]
      exact (hf b hb).1
  done := by
    intro X hP hw hK hc i pins s σ H E I hf st hg
    subst hP hw hK
    obtain ⟨⟨old, he⟩, hit, hne, hai, hae⟩ := st
    obtain ⟨xs, hq, hx⟩ := hg
    obtain ⟨its, rv, p, hz⟩ := inv_seqB I hq
    obtain ⟨f0, f1, f2, f3, f4, f5⟩ := hf it (by simp)
    have hl := rv.length
    have hi : i = its.toArray.size := by simp; omega
    have st' : ItB b s.heap it a its.toArray.size ∧ HdB b s.heap a its.toArray := ⟨hi ▸ hit, p⟩
    exact wpAny_pyNext_enum_endD (drawsB b (show X.A.in1.handled = none from I.ok.hd hc) it a hai its.toArray) he st' fun h' eb => ⟨rfl, I.turned (t' := s.toks) (fun b o hb q => eb b o hb q) f0 f1 f3 f4 f5⟩
  self := fun A i s Q E st h => let ⟨⟨_, he⟩, _⟩ := st; wpAny_pyIter_enum he h
def iEnumB (K : PySem.W.Frag) (ta : TA) : TI := fun σ H R => ta σ H fun vs H1 => ∃ b a xs, vs = [.ref a] ∧ SqB b K H1 a xs ∧ R (IteB b K a) H1
theorem pi_enumB {X : Cx} {e : Expr} {ta : TA} {p pos tpos : Pos} {elts : List Expr} {kk : Nat} (hg : Gl X "enumerate") (hm : X.mg "enumerate" = none) (ha : PA X [e] ta) (hs : starEach [e] X.env = [(false, eval e X.env)]) :
    PI X (.Tuple elts kk tpos) (.Call (.Name "enumerate" p) [e] [] pos) (iEnumB X.K ta) := by
  refine ⟨fun pins s σ H R I h => ?_⟩
  refine Call_ (ld_blt I hg hm boot_enumerate (PyProof.Rows.callWith_type1 (thn (ha.run pos pins s σ H _ I h) fun us s1 ⟨vs, H1, I1, r1, q1⟩ => ?_) hs rfl))
  obtain ⟨b, a, xs, ex, hq, q⟩ := q1
  subst ex
  cases r1 with
  | cons r rr =>
    cases rr
    cases r
    obtain ⟨its, rv, p', hz⟩ := inv_seqB I1 hq
    have hal : a < s1.heap.objs.size := p'.lt
    refine ls_enum_begins (begB b a its.toArray) p' fun h' he hit hsz hk => wpAny_pyIter_enum he ?_
    have I2 : L2.Inv X pins σ H1 { s1 with heap := h' } := I1.kept (t' := s1.toks) hk
    refine ⟨s1.heap.objs.size + 1, [s1.heap.objs.size + 1, s1.heap.objs.size], _, _, H1, rfl, I2, turn_enumB (b := b) a (s1.heap.objs.size + 1) s1.heap.objs.size, ⟨⟨.none, he⟩, ItB.new hit, Nat.succ_ne_self _, Nat.ne_of_lt hal, Nat.ne_of_lt (Nat.lt_succ_of_lt hal)⟩, fun b hb => ?_, q⟩
    have e' : b = s1.heap.objs.size + 1 ∨ b = s1.heap.objs.size := by simpa using hb
    have hle : s1.heap.objs.size ≤ b := by
      rcases e' with z | z
      · rw [z]; exact Nat.le_add_right _ _
      · rw [z]; exact Nat.le_refl _
    exact I1.fpOk hle (I1.hok.fresh hle)
/-- zip -/
def ItzB (b c : Bool) (K : PySem.W.Frag) (a1 a2 : Addr) : L2.It :=
  ⟨fun i H => ∃ (xs ys : List V) (x y : V), SqB b K H a1 xs ∧ SqB c K H a2 ys ∧ xs[i]? = some x ∧ ys[i]? = some y,
    fun i H v H' => ∃ T x y, v = .ref T ∧ H T = none ∧ H' = upd H T (.tup [x, y]) ∧ (∀ xs, SqB b K H a1 xs → xs[i]? = some x) ∧ ∀ ys, SqB c K H a2 ys → ys[i]? = some y,
    fun i H => ∃ xs ys : List V, SqB b K H a1 xs ∧ SqB c K H a2 ys ∧ i ≤ xs.length ∧ i ≤ ys.length ∧ (i = xs.length ∨ i = ys.length)⟩
structure Apart (z TI TO i1 i2 a b : Addr) : Prop where
  s : ZipSep2 z TI TO i1 i2 [i1, a] [i2, b]
  n1 : a ≠ i1
  n2 : b ≠ i2
  m1 : TI ≠ i1
  m2 : TI ≠ i2
  ii : i1 ≠ i2
theorem turn_zipB {b c : Bool} {P : Program} {w : World} {K : PySem.W.Frag} {elts : List Expr} {kk : Nat} {tpos : Pos} {a1 a2 z TI TO i1 i2 : Addr} (D : Apart z TI TO i1 i2 a1 a2) :
    Turn P w K (.Tuple elts kk tpos) (ItzB b c K a1 a2) [z, TI, TO, i1, i2] z (fun i h => IsZip h z TI TO .none ∧ IsTupOf2 h TI (.ref i1) (.ref i2) ∧ (∃ x y, IsTupOf2 h TO x y) ∧ ItB b h i1 a1 i ∧ ItB c h i2 a2 i) where
  mem := by simp
  obj := fun i h st k hk => by
    obtain ⟨hz, hTI, ⟨x, y, hTO⟩, h1, h2⟩ := st
    have e' : k = z ∨ k = TI ∨ k = TO ∨ k = i1 ∨ k = i2 := by simpa using hk
    rcases e' with q | q | q | q | q
    · rw [q]; exact ⟨_, hz, fun v q => nomatch q⟩
    · rw [q]; exact ⟨_, hTI, fun v q => nomatch q⟩
    · rw [q]; exact ⟨_, hTO, fun v q => nomatch q⟩
    · rw [q]; exact h1.obj
    · rw [q]; exact h2.obj
  keep := fun i h h' st k => by
    obtain ⟨hz, hTI, ⟨x, y, hTO⟩, h1, h2⟩ := st
    exact ⟨k z (by simp) _ hz, k TI (by simp) _ hTI, ⟨x, y, k TO (by simp) _ hTO⟩, h1.at fun o q => k i1 (by simp) o q, h2.at fun o q => k i2 (by simp) o q⟩
  item := by
    intro X hP hw hK hc i pins s σ H E I hf st hg
    subst hP hw hK
    obtain ⟨hz, hTI, ⟨x0, y0, hTO⟩, h1, h2⟩ := st
    obtain ⟨xs, ys, x, y, hqx, hqy, hx, hy⟩ := hg
    obtain ⟨its, rv, p, _⟩ := inv_seqB I hqx
    obtain ⟨its2, rv2, p2, _⟩ := inv_seqB I hqy
    obtain ⟨u, hu, ru⟩ := rv.get hx
    obtain ⟨u2, hu2, ru2⟩ := rv2.get hy
    have hzl : z < s.heap.objs.size := Heap.lt_size hz
    have hlt : i < its.toArray.size := by
      have := (List.getElem?_eq_some_iff.mp hu).1
      simpa using this
    have hlt2 : i < its2.toArray.size := by
      have := (List.getElem?_eq_some_iff.mp hu2).1
      simpa using this
    refine wpAny_pyNext_zipD2_item D.s (drawsB b (show X.A.in1.handled = none from I.ok.hd hc) i1 a1 D.n1 its.toArray) (drawsB c (show X.A.in1.handled = none from I.ok.hd hc) i2 a2 D.n2 its2.toArray) hz hTI hTO ⟨h1, p⟩ ⟨h2, p2⟩ hlt hlt2 fun v1 v2 h' tk g1 g2 z' TO' st1' st2' hT hsz hk => ?_
    have ex : v1 = u := by
      have q : its[i]? = some v1 := by simpa using g1
      rw [hu] at q; exact (Option.some.inj q).symm
    have ex2 : v2 = u2 := by
      have q : its2[i]? = some v2 := by simpa using g2
      rw [hu2] at q; exact (Option.some.inj q).symm
    subst ex ex2
    refine ⟨_, rfl, wpAny_letOwnedTupleGo_zip (s := { s with heap := h', toks := tk }) z' fun h'' z'' sb => ?_⟩
    have hT2 : h''.get? s.heap.objs.size = some { cls := .type "tuple", data := .seq #[v1, v2] } := (sb.2 _ (Nat.ne_of_gt hzl)).trans hT
    have new : ObjOk X.prog X.w (upd H s.heap.objs.size (.tup [x, y])) h'' s.heap.objs.size (.tup [x, y]) :=
      ⟨by show 2 ≤ sizeLine; decide, [v1, v2], .cons ru (.cons ru2 .nil), ⟨_, hT2, rfl, _, rfl⟩⟩
    have I1 : L2.Inv X pins σ (upd H s.heap.objs.size (.tup [x, y])) { s with heap := h'', toks := tk } :=
      I.turnedNew (t' := tk) (ch := [z, TI, TO, i1, i2]) (fun c o hb q => (sb.2 c (fun q' => hb (by simp [q']))).trans (hk c o (fun q' => hb (by simp [q'])) (fun q' => hb (by simp [q'])) (fun q' => hb (by simp [q'])) (fun q' => hb (by simp [q'])) q)) hf (Nat.le_refl _) new
    refine ⟨.ref s.heap.objs.size, _, I1, rfl, ⟨_, x, y, rfl, I.hok.fresh (Nat.le_refl _), rfl, fun l hl => by rw [inv_injB I hl hqx]; exact hx, fun l hl => by rw [inv_injB I hl hqy]; exact hy⟩, ⟨z'', ?_, ⟨v1, v2, ?_⟩, ?_, ?_⟩, fun c hcm => ?_⟩
    · exact (sb.2 _ D.s.TIz).trans (hk _ _ D.s.TIz D.s.TITO D.m1 D.m2 hTI)
    · exact (sb.2 _ D.s.TOz).trans TO'
    · exact st1'.1.at fun o q => (sb.2 _ (Ne.symm D.s.zi1)).trans q
    · exact st2'.1.at fun o q => (sb.2 _ (Ne.symm D.s.zi2)).trans q
    · have hlt : c < s.heap.objs.size := by
        have e' : c = z ∨ c = TI ∨ c = TO ∨ c = i1 ∨ c = i2 := by simpa using hcm
        rcases e' with q | q | q | q | q
        · rw [q]; exact hzl
        · rw [q]; exact Heap.lt_size hTI
        · rw [q]; exact Heap.lt_size hTO
        · rw [q]; obtain ⟨_, e1, _⟩ := h1.obj; exact Heap.lt_size e1
        · rw [q]; obtain ⟨_, e2, _⟩ := h2.obj; exact Heap.lt_size e2
      rw [upd_ne (Nat.ne_of_lt hlt)]
      exact (hf c hcm).1
  done := by
    intro X hP hw hK hc i pins s σ H E I hf st hg
    subst hP hw hK
    obtain ⟨hz, hTI, ⟨x0, y0, hTO⟩, h1, h2⟩ := st
    obtain ⟨xs, ys, hqx, hqy, hl1, hl2, hend⟩ := hg
    obtain ⟨its, rv, p, _⟩ := inv_seqB I hqx
    obtain ⟨its2, rv2, p2, _⟩ := inv_seqB I hqy
    have l1 := rv.length
    have l2 := rv2.length
    refine wpAny_pyNext_zipD2_end D.s (drawsB b (show X.A.in1.handled = none from I.ok.hd hc) i1 a1 D.n1 its.toArray) (drawsB c (show X.A.in1.handled = none from I.ok.hd hc) i2 a2 D.n2 its2.toArray) hz hTI hTO ⟨h1, p⟩ ⟨h2, p2⟩ (by simp; omega) (by simp; omega) ?_ fun h' tk hk => ⟨rfl, I.turnedL (t' := tk) (ch := [z, TI, TO, i1, i2]) (fun c o hb q =>
      hk c o (fun q' => hb (by simp [q'])) (fun q' => hb (by simp [q'])) (fun q' => hb (by simp [q'])) (fun q' => hb (by simp [q'])) q) hf⟩
    rcases hend with q | q
    · exact .inl (by simp; omega)
    · exact .inr (by simp; omega)
  self := fun A i s Q E st h => wpAny_pyIter_zip st.1 h
def iZipB (K : PySem.W.Frag) (ta : TA) : TI := fun σ H R => ta σ H fun vs H1 => ∃ b c a1 a2 xs ys, vs = [.ref a1, .ref a2] ∧ SqB b K H1 a1 xs ∧ SqB c K H1 a2 ys ∧ R (ItzB b c K a1 a2) H1
theorem nmem2 {z i a : Nat} (h1 : z ≠ i) (h2 : z ≠ a) : z ∉ [i, a] := by simp [h1, h2]
theorem apart_new (N a b : Nat) (ha : a < N) (hb : b < N) : Apart (N + 4) (N + 2) (N + 3) N (N + 1) a b := by
  have f1 : ∀ k l : Nat, k ≠ l → N + k ≠ N + l := fun k l h e => h (by omega)
  have f2 : ∀ k : Nat, N + k ≠ a := fun k e => by omega
  have f3 : ∀ k : Nat, N + k ≠ b := fun k e => by omega
  have z : ∀ k : Nat, 0 ≠ k → N + k ≠ N := fun k h e => h (by omega)
  exact ⟨⟨f1 2 4 (by decide), f1 3 4 (by decide), f1 2 3 (by decide), z 2 (by decide), List.mem_cons_self, nmem2 (z 4 (by decide)) (f2 4), nmem2 (z 3 (by decide)) (f2 3), f1 2 1 (by decide), List.mem_cons_self,
    nmem2 (f1 4 1 (by decide)) (f3 4), nmem2 (f1 3 1 (by decide)) (f3 3), nmem2 (fun e => z 1 (by decide) e.symm) (f3 0), nmem2 (z 1 (by decide)) (f2 1)⟩, fun e => f2 0 e.symm, fun e => f3 1 e.symm, z 2 (by decide), f1 2 1 (by decide), fun e => z 1 (by decide) e.symm⟩
theorem pi_zipB {X : Cx} {e e2 : Expr} {ta : TA} {p pos tpos : Pos} {elts : List Expr} {kk : Nat} (hg : Gl X "zip") (hm : X.mg "zip" = none) (ha : PA X [e, e2] ta)
    (hs : starEach [e, e2] X.env = (false, eval e X.env) :: starEach [e2] X.env) (hpl : (backTo pos (starEach [e2] X.env)).any (·.1) = false) :
    PI X (.Tuple elts kk tpos) (.Call (.Name "zip" p) [e, e2] [] pos) (iZipB X.K ta) := by
  refine ⟨fun pins s σ H R I h => ?_⟩
  refine Call_ (ld_blt I hg hm PyProof.Rows.boot_zip (PyProof.Rows.callWith_type1 (thn (ha.run pos pins s σ H _ I h) fun us s1 ⟨vs, H1, I1, r1, q1⟩ => ?_) hs hpl))
  obtain ⟨b, c, a1, a2, xs, ys, ex, hqx, hqy, q⟩ := q1
  subst ex
  cases r1 with
  | cons r rr =>
    cases rr with
    | cons r' rr =>
      cases rr
      cases r
      cases r'
      obtain ⟨its, rv, p1, _⟩ := inv_seqB I1 hqx
      obtain ⟨its2, rv2, p2, _⟩ := inv_seqB I1 hqy
      refine zip_begins2 (begB b a1 its.toArray) (begB c a2 its2.toArray) p1 p2 fun h' hz hTI hTO h1 h2 hsz hk => wpAny_pyIter_zip hz ?_
      have I2 : L2.Inv X pins σ H1 { s1 with heap := h' } := I1.kept (t' := s1.toks) hk
      refine ⟨s1.heap.objs.size + 4, [s1.heap.objs.size + 4, s1.heap.objs.size + 2, s1.heap.objs.size + 3, s1.heap.objs.size, s1.heap.objs.size + 1], _, _, H1, rfl, I2, turn_zipB (b := b) (c := c) (apart_new s1.heap.objs.size a1 a2 p1.lt p2.lt), ⟨hz, hTI, ⟨_, _, hTO⟩, ItB.new h1, ItB.new h2⟩, fun k hcm => ?_, q⟩
      have e' : k = s1.heap.objs.size + 4 ∨ k = s1.heap.objs.size + 2 ∨ k = s1.heap.objs.size + 3 ∨ k = s1.heap.objs.size ∨ k = s1.heap.objs.size + 1 := by simpa using hcm
      have hle : s1.heap.objs.size ≤ k := by
        rcases e' with z | z | z | z | z
        · rw [z]; exact Nat.le_add_right _ _
        · rw [z]; exact Nat.le_add_right _ _
        · rw [z]; exact Nat.le_add_right _ _
        · rw [z]; exact Nat.le_refl _
        · rw [z]; exact Nat.le_add_right _ _
      exact I1.fpOk hle (I1.hok.fresh hle)
end LS

set_option Elab.async false
set_option linter.all false
set_option maxRecDepth 100000
set_option maxHeartbeats 1000000
/-! LS10: targets, iterators by data, comprehensions. -/
namespace LS
open PySem PySem.Spec PyProof.Rows L2
section
variable {K : PySem.W.Frag} {mg : Str → Option Value} {xc : V → Str → Prop} {H0 : Hp × Hp} {F H : Hp} {ρ : En} {σ : L2.St}
theorem getElem?_set_cases {α : Type} {l : List α} {i j : Nat} {a x : α} (h : (l.set i a)[j]? = some x) : (i = j ∧ x = a) ∨ (i ≠ j ∧ l[j]? = some x) := by
  by_cases e : i = j
  · subst e
    by_cases hl : i < l.length
    · rw [List.getElem?_set_self hl] at h; exact .inl ⟨rfl, (Option.some.inj h).symm⟩
    · rw [List.getElem?_eq_none (by simpa using hl)] at h; cases h
  · rw [List.getElem?_set_ne e] at h; exact .inr ⟨e, h⟩
/-- a slot is set to a kept value -/
theorem Rel.set_fz (r : Rel K mg xc H0 F ρ σ H) {i : Nat} {v : V} {d : D} (h : Rep K mg xc F v d) : Rel K mg xc H0 F (ρ.set i (.fz d)) (σ.set i (some v)) H := by
  have hl := r.len
  refine ⟨r.base, by simp [hl], fun j => ?_, fun j k d' e' p hjk hj hk hsj hsk => ?_⟩
  · by_cases e : i = j
    · subst e
      by_cases hi : i < ρ.length
      · rw [look_set_self hi]
        exact ⟨v, by rw [List.getElem?_set_self (by omega)], h⟩
      · rw [look_big (by simp; omega)]; trivial
    · rw [look_set_ne e]
      have q := r.slot j
      cases z : look ρ j with
      | un => trivial
      | fz d' => rw [z] at q; obtain ⟨w, h1, h2⟩ := q; exact ⟨w, by rw [List.getElem?_set_ne e]; exact h1, h2⟩
      | ow d' => rw [z] at q; obtain ⟨p, h1, h2⟩ := q; exact ⟨p, by rw [List.getElem?_set_ne e]; exact h1, h2⟩
      | bg w d' => rw [z] at q; obtain ⟨p, h1, h2⟩ := q; exact ⟨p, by rw [List.getElem?_set_ne e]; exact h1, h2⟩
  · have key : ∀ {m : Nat} {dd : D}, look (ρ.set i (.fz d)) m = .ow dd → i ≠ m := fun {m dd} hm e => by
      subst e
      by_cases hi : i < ρ.length
      · rw [look_set_self hi] at hm; cases hm
      · rw [look_big (by simp; omega)] at hm; cases hm
    have n1 := key hj
    have n2 := key hk
    rw [look_set_ne n1] at hj
    rw [look_set_ne n2] at hk
    rw [List.getElem?_set_ne n1] at hsj
    rw [List.getElem?_set_ne n2] at hsk
    exact r.disj j k d' e' p hjk hj hk hsj hsk
/-- a slot is forgotten -/
theorem Rel.set_un (r : Rel K mg xc H0 F ρ σ H) {i : Nat} {o : Option V} : Rel K mg xc H0 F (ρ.set i .un) (σ.set i o) H := by
  have hl := r.len
  refine ⟨r.base, by simp [hl], fun j => ?_, fun j k d' e' p hjk hj hk hsj hsk => ?_⟩
  · by_cases e : i = j
    · subst e
      by_cases hi : i < ρ.length
      · rw [look_set_self hi]; trivial
      · rw [look_big (by simp; omega)]; trivial
    · rw [look_set_ne e]
      have q := r.slot j
      cases z : look ρ j with
      | un => trivial
      | fz d' => rw [z] at q; obtain ⟨w, h1, h2⟩ := q; exact ⟨w, by rw [List.getElem?_set_ne e]; exact h1, h2⟩
      | ow d' => rw [z] at q; obtain ⟨p, h1, h2⟩ := q; exact ⟨p, by rw [List.getElem?_set_ne e]; exact h1, h2⟩
      | bg w d' => rw [z] at q; obtain ⟨p, h1, h2⟩ := q; exact ⟨p, by rw [List.getElem?_set_ne e]; exact h1, h2⟩
  · have key : ∀ {m : Nat} {dd : D}, look (ρ.set i .un) m = .ow dd → i ≠ m := fun {m dd} hm e => by
      subst e
      by_cases hi : i < ρ.length
      · rw [look_set_self hi] at hm; cases hm
      · rw [look_big (by simp; omega)] at hm; cases hm
    have n1 := key hj
    have n2 := key hk
    rw [look_set_ne n1] at hj
    rw [look_set_ne n2] at hk
    rw [List.getElem?_set_ne n1] at hsj
    rw [List.getElem?_set_ne n2] at hsk
    exact r.disj j k d' e' p hjk hj hk hsj hsk
theorem Rel.wipe (r : Rel K mg xc H0 F ρ σ H) : ∀ is : List Nat, Rel K mg xc H0 F (wipes ρ is) (L2.wipe σ is) H
  | [] => r
  | i :: is => (r.wipe is).set_un
/-- tuple targets -/
theorem Rel.setAll : ∀ {is : List Nat} {ds : List D} {vs : List V} {ρ : En} {σ : L2.St}, Rel K mg xc H0 F ρ σ H → Reps K mg xc F vs ds → is.length = ds.length →
    Rel K mg xc H0 F (setAll is ds ρ) ((is.zip vs).foldl (fun s p => s.set p.1 (some p.2)) σ) H
  | [], [], _, _, _, r, .nil, _ => r
  | i :: is, d :: ds, _, _, _, r, .cons h t, e => by
    show Rel K mg xc H0 F (LS.setAll is ds _) _ H
    exact Rel.setAll (r.set_fz h) t (by simpa using e)
  | [], _ :: _, _, _, _, _, _, e => by simp at e
  | _ :: _, [], _, _, _, _, _, e => by simp at e
end
/-- the owned slots stay what they were -/
def Sub (ρ' : En) (σ' : L2.St) (ρ : En) (σ : L2.St) : Prop := ∀ i d, look ρ' i = .ow d → look ρ i = .ow d ∧ σ'[i]? = σ[i]?
theorem Sub.refl {ρ : En} {σ : L2.St} : Sub ρ σ ρ σ := fun _ _ h => ⟨h, rfl⟩
theorem Sub.trans {ρ1 ρ2 ρ3 : En} {σ1 σ2 σ3 : L2.St} (a : Sub ρ1 σ1 ρ2 σ2) (b : Sub ρ2 σ2 ρ3 σ3) : Sub ρ1 σ1 ρ3 σ3 := fun i d h => by
  obtain ⟨h1, h2⟩ := a i d h
  obtain ⟨h3, h4⟩ := b i d h1
  exact ⟨h3, h2.trans h4⟩
theorem Sub.set {ρ : En} {σ : L2.St} (i : Nat) (s : SV) (o : Option V) (hs : ∀ d, s ≠ .ow d) : Sub (ρ.set i s) (σ.set i o) ρ σ := fun j d h => by
  by_cases e : i = j
  · subst e
    by_cases hi : i < ρ.length
    · rw [look_set_self hi] at h; exact absurd h (hs d)
    · rw [look_big (by simp; omega)] at h; cases h
  · rw [look_set_ne e] at h
    exact ⟨h, List.getElem?_set_ne e⟩
theorem Sub.wipe {ρ : En} {σ : L2.St} : ∀ is : List Nat, Sub (wipes ρ is) (L2.wipe σ is) ρ σ
  | [] => .refl
  | i :: is => (Sub.set i .un none fun _ h => nomatch h).trans (Sub.wipe is)
theorem Sub.setAll : ∀ (is : List Nat) (ds : List D) (vs : List V) (ρ : En) (σ : L2.St), is.length = ds.length → vs.length = ds.length → Sub (setAll is ds ρ) ((is.zip vs).foldl (fun s p => s.set p.1 (some p.2)) σ) ρ σ
  | [], [], [], _, _, _, _ => .refl
  | i :: is, d :: ds, v :: vs, ρ, σ, h, h' => by
    show Sub (LS.setAll is ds (ρ.set i (.fz d))) ((is.zip vs).foldl _ (σ.set i (some v))) ρ σ
    exact (Sub.setAll is ds vs _ _ (by simpa using h) (by simpa using h')).trans (Sub.set i _ _ fun _ h => nomatch h)
  | [], _ :: _, _, _, _, h, _ => by simp at h
  | _ :: _, [], _, _, _, h, _ => by simp at h
  | [], [], _ :: _, _, _, _, h => by simp at h
  | _ :: _, _ :: _, [], _, _, _, h => by simp at h
/-- the slots at a later time: the kept ones as they are, the owned ones from before -/
theorem Rel.later {K : PySem.W.Frag} {mg : Str → Option Value} {xc : V → Str → Prop} {H0 : Hp × Hp} {F H F3 H3 F' H' : Hp} {ρ ρ' : En} {σ σ' : L2.St} (R : Rel K mg xc H0 F ρ σ H) (x : Ext F H F' H') (R' : Rel K mg xc H0 F3 ρ' σ' H3) (s : Same F3 F') (b : Sub ρ' σ' ρ σ) : Rel K mg xc H0 F' ρ' σ' H' := by
  have Rx := R.ext x
  refine ⟨Rx.base, R'.len, fun i => ?_, R'.disj⟩
  cases e : look ρ' i with
  | un => trivial
  | bg w d =>
    obtain ⟨p, h1, hw, h2, h3⟩ := R'.behind e
    exact ⟨p, h1, hw, Rx.base.free h3 (R'.base.f.free h2), h3.mono s fun o z => z⟩
  | fz d =>
    obtain ⟨v, h1, h2⟩ := R'.var e
    exact ⟨v, h1, h2.mono s⟩
  | ow d =>
    obtain ⟨h1, h2⟩ := b i d e
    obtain ⟨p, q1, q2, q3, q4⟩ := Rx.own h1
    exact ⟨p, by rw [h2]; exact q1, q2, q3, q4⟩
def tgIx : Tg → List Nat
  | .one i => [i]
  | .many is => is
  | .two i is => i :: is
/-- wiping forgets what was set within -/
theorem wipe_set {vs : List Nat} {i : Nat} (h : i ∈ vs) (σ : L2.St) (o : Option V) : L2.wipe (σ.set i o) vs = L2.wipe σ vs := by
  induction vs with
  | nil => cases h
  | cons v vs ih =>
    show (L2.wipe (σ.set i o) vs).set v none = (L2.wipe σ vs).set v none
    by_cases hm : i ∈ vs
    · rw [ih hm]
    · have hv : i = v := by
        rcases List.mem_cons.mp h with q | q
        · exact q
        · exact absurd q hm
      subst hv
      have key : ∀ us : List Nat, i ∉ us → L2.wipe (σ.set i o) us = (L2.wipe σ us).set i o := fun us => by
        induction us with
        | nil => intro _; rfl
        | cons u us ihu =>
          intro hu
          simp only [List.mem_cons, not_or] at hu
          show (L2.wipe (σ.set i o) us).set u none = ((L2.wipe σ us).set u none).set i o
          rw [ihu hu.2, List.set_comm _ _ hu.1]
      rw [key vs hm, List.set_set]
theorem wipe_sets {vs : List Nat} : ∀ (is : List Nat) (ws : List V) (σ : L2.St), (∀ i ∈ is, i ∈ vs) → L2.wipe ((is.zip ws).foldl (fun s p => s.set p.1 (some p.2)) σ) vs = L2.wipe σ vs
  | [], _, _, _ => by simp [List.zip]
  | _ :: _, [], _, _ => by simp [List.zip]
  | i :: is, w :: ws, σ, h => by
    show L2.wipe ((is.zip ws).foldl _ (σ.set i (some w))) vs = _
    rw [wipe_sets is ws _ fun j hj => h j (List.mem_cons_of_mem _ hj), wipe_set (h i List.mem_cons_self)]
/-- a target takes a value -/
def tG (X : Cx) (xc : V → Str → Prop) (tg : Tg) : TG := fun v σ H Q => ∃ H0 F ρ d ρ', Rel X.K X.mg xc H0 F ρ σ H ∧ Rep X.K X.mg xc F v d ∧ bindT tg d ρ = some ρ' ∧
  ∀ σ', Rel X.K X.mg xc H0 F ρ' σ' H → (∀ vs, (∀ i ∈ tgIx tg, i ∈ vs) → L2.wipe σ' vs = L2.wipe σ vs) → Sub ρ' σ' ρ σ → Q σ' H
def asgB (gc : GC) (N : List Str) (sc : Scope) (i : Nat) (e : Expr) : Bool := match e with
  | .Name x _ => decide (N[i]? = some x) && (match sc.names.lookup x with
    | some .local => true
    | some .cell => gc.asg x
    | _ => false)
  | _ => false
def asgsB (gc : GC) (N : List Str) (sc : Scope) : List Nat → List Expr → Bool
  | [], [] => true
  | i :: is, e :: es => asgB gc N sc i e && asgsB gc N sc is es
  | _, _ => false
def ckG (gc : GC) (N : List Str) (sc : Scope) : Tg → Expr → Bool
  | .one i, e => asgB gc N sc i e
  | .many is, e => (match asTup e with
    | some es => asgsB gc N sc is es
    | none => false)
  | .two i is, e => (match asTup e with
    | some [a, b] => asgB gc N sc i a && (match asTup b with
      | some es => asgsB gc N sc is es
      | none => false)
    | _ => false)
section
variable {X : Cx} {xc : V → Str → Prop} {W : WX} {G : Fns} {gc : GC} {H0 : Hp × Hp} {F H : Hp} {ρ : En} {σ : L2.St} {Q : VK} {r : Ro}
theorem _root_.L2.PG.of {e : Expr} {t t' : TG} (h : PG X e t) (i : ∀ v σ H Q, t' v σ H Q → t v σ H Q) : PG X e t' := ⟨fun pins s σ H v u Q I r w => h.run pins s σ H v u Q I r (i _ _ _ _ w)⟩
theorem g_name (C : Ctx gc G X xc W) {i : Nat} {e : Expr} (h : asgB gc X.N X.env.scope i e = true) : PG X e (gName i) ∧ ∀ env rest, (assignEach (e :: rest) env) = (false, assign e env) :: assignEach rest env := by
  unfold asgB at h
  split at h
  · rename_i x p
    simp only [Bool.and_eq_true, decide_eq_true_eq] at h
    refine ⟨?_, fun env rest => rfl⟩
    have h2 := h.2
    split at h2
    · rename_i hl
      exact pg_name C.nd h.1 (.inl hl) (.inr hl)
    · rename_i hl
      exact pg_name C.nd h.1 (.inr hl) (.inl (C.fnl x h2))
    · cases h2
  · cases h
/-- names in a row -/
def gAll (is : List Nat) : TGs := fun vs σ H Q => is.length = vs.length ∧ Q ((is.zip vs).foldl (fun s p => s.set p.1 (some p.2)) σ) H
theorem g_names (C : Ctx gc G X xc W) : ∀ {is : List Nat} {es : List Expr}, asgsB gc X.N X.env.scope is es = true → PGs X es (gAll is) ∧ (assignEach es X.env).length = is.length ∧ (assignEach es X.env).findIdx? (·.1) = none
  | [], [], _ => ⟨⟨fun pins s σ H vs us Q I r ⟨e, q⟩ => by
      have : vs = [] := List.length_eq_zero_iff.mp (by simpa using e.symm)
      subst this
      exact pgs_nil.run pins s σ H [] us Q I r ⟨rfl, q⟩⟩, rfl, rfl⟩
  | i :: is, e :: es, h => by
    simp only [asgsB, Bool.and_eq_true] at h
    obtain ⟨g1, g2⟩ := g_name C h.1
    obtain ⟨k1, k2, k3⟩ := g_names C h.2
    refine ⟨⟨fun pins s σ H vs us Q I r ⟨el, q⟩ => ?_⟩, ?_, ?_⟩
    · cases vs with
      | nil => simp at el
      | cons v vs => exact (pgs_cons g1 k1 (by rw [g2]; rfl)).run pins s σ H _ us Q I r ⟨v, vs, rfl, by simpa using el, q⟩
    · rw [g2]; simp [k2]
    · rw [g2]; simp [List.findIdx?_cons, k3]
  | [], _ :: _, h => by simp [asgsB] at h
  | _ :: _, [], h => by simp [asgsB] at h
theorem reps_len {vs : List V} {ds : List D} {K : PySem.W.Frag} {mg : Str → Option Value} (h : Reps K mg xc F vs ds) : vs.length = ds.length := h.length
theorem g_tg (C : Ctx gc G X xc W) (hc : X.calm = true) : ∀ {tg : Tg} {e : Expr}, ckG gc X.N X.env.scope tg e = true → PG X e (tG X xc tg)
  | .one i, e, h => by
    refine (g_name C h).1.of fun v σ H Q ⟨H0, F, ρ, d, ρ', R, rep, hb, q⟩ => ?_
    have hb' : some (ρ.set i (.fz d)) = some ρ' := hb
    cases hb'
    exact q _ (R.set_fz rep) (fun vs hv => wipe_set (hv i List.mem_cons_self) σ _) (Sub.set i _ _ fun _ h => nomatch h)
  | .many is, e, h => by
    simp only [ckG] at h
    split at h
    · rename_i es he
      obtain ⟨k, p, rfl⟩ := asTup_ok he
      obtain ⟨k1, k2, k3⟩ := g_names C h
      refine (pg_tup hc k1 k2 k3).of fun v σ H Q ⟨H0, F, ρ, d, ρ', R, rep, hb, q⟩ => ?_
      cases d with
      | tup ds =>
        have hb' : (if is.length = ds.length then some (setAll is ds ρ) else none) = some ρ' := hb
        split at hb'
        · rename_i hl
          cases hb'
          cases rep with
          | tup ea rs =>
            have e1 := rs.length
            exact ⟨_, _, rfl, .of (R.sub _ _ ea), by rw [e1, hl], by rw [e1, hl], q _ (R.setAll rs hl) (fun vs hv => wipe_sets is _ σ hv) (Sub.setAll is ds _ _ _ hl e1)⟩
        · cases hb'
      | _ => cases hb
    · cases h
  | .two i is, e, h => by
    simp only [ckG] at h
    split at h
    · rename_i a b he
      obtain ⟨k, p, rfl⟩ := asTup_ok he
      simp only [Bool.and_eq_true] at h
      obtain ⟨h1, h2⟩ := h
      split at h2
      · rename_i es hb2
        obtain ⟨k', p', rfl⟩ := asTup_ok hb2
        obtain ⟨g1, g2⟩ := g_name C h1
        obtain ⟨k1, k2, k3⟩ := g_names C h2
        have inner := pg_tup (k := k') (pos := p') hc k1 k2 k3
        have both : PGs X [a, .Tuple es k' p'] (gCons (gName i) (gCons (gTup X.K is.length (gAll is)) gNil)) := pgs_cons g1 (pgs_cons inner pgs_nil rfl) (by rw [g2]; rfl)
        refine (pg_tup (n := 2) hc both (by rw [g2]; rfl) (by rw [g2]; rfl)).of fun v σ H Q ⟨H0, F, ρ, d, ρ', R, rep, hb, q⟩ => ?_
        have hb' : ∃ d1 ds, d = .tup [d1, .tup ds] ∧ is.length = ds.length ∧ ρ' = setAll is ds (ρ.set i (.fz d1)) := by
          have hb : bind2 i is d ρ = some ρ' := hb
          unfold bind2 at hb
          split at hb
          · split at hb
            · rename_i hl
              cases hb
              exact ⟨_, _, rfl, hl, rfl⟩
            · cases hb
          · cases hb
        obtain ⟨d1, ds, rfl, hl, rfl⟩ := hb'
        cases rep with
        | tup ea rs =>
          cases rs with
          | cons r1 rs =>
            cases rs with
            | cons r2 rs =>
              cases rs
              cases r2 with
              | tup eb rs2 =>
                have e1 := rs2.length
                refine ⟨_, _, rfl, .of (R.sub _ _ ea), rfl, _, _, rfl, _, _, rfl, ⟨_, _, rfl, .of (R.sub _ _ eb), by rw [e1, hl], by rw [e1, hl], rfl, ?_⟩⟩
                refine q _ ((R.set_fz r1).setAll rs2 hl) (fun vs hv => ?_) ((Sub.setAll is ds _ _ _ hl e1).trans (Sub.set i _ _ fun _ h => nomatch h))
                rw [wipe_sets is _ _ fun j hj => hv j (List.mem_cons_of_mem _ hj), wipe_set (hv i List.mem_cons_self)]
      · cases h2
    · cases h
end
end LS

set_option Elab.async false
set_option linter.all false
set_option maxRecDepth 100000
set_option maxHeartbeats 1000000
/-! LS11: iterators by data, comprehensions. -/
namespace LS
open PySem PySem.Spec PyProof.Rows L2
/-- an iterator gives these data -/
def ItD (K : PySem.W.Frag) (mg : Str → Option Value) (xc : V → Str → Prop) (J : L2.It) (F : Hp) (ds : List D) : Prop := ∀ i F' H', Same F F' → Same F' H' →
  (i < ds.length → J.go i H' ∧ ∀ x H2, J.yld i H' x H2 → ∃ F2 d, Ext F' H' F2 H2 ∧ ds[i]? = some d ∧ Rep K mg xc F2 x d) ∧ (i = ds.length → J.stop i H')
def tI (X : Cx) (xc : V → Str → Prop) (G : Fns) (it : It) : TI := fun σ H R => ∃ H0 F ρ ds, Rel X.K X.mg xc H0 F ρ σ H ∧ evI G it ρ = some ds ∧ ∀ J F' H', Ext F H F' H' → ItD X.K X.mg xc J F' ds → R J H'
section
variable {K : PySem.W.Frag} {mg : Str → Option Value} {xc : V → Str → Prop} {F H : Hp} {v : V} {d : D} {ds : List D} {a : Addr} {xs : List V}
def FB (b : Bool) (F : Hp) (a : Addr) (xs : List V) : Prop := match b with
  | true => F a = some (.tup xs)
  | false => F a = some (.lst xs)
theorem FB.sq {b : Bool} (h : FB b F a xs) (s : Same F H) : SqB b K H a xs := by
  cases b with
  | true => exact .of (s _ _ h)
  | false => exact .of (s _ _ h)
theorem rep_seqB (h : Rep K mg xc F v d) (e : seqB d = some ds) : ∃ b a xs, v = .ref a ∧ FB b F a xs ∧ Reps K mg xc F xs ds := by
  cases d with
  | tup l => cases e; cases h with | tup ea rs => exact ⟨true, _, _, rfl, ea, rs⟩
  | lst l => cases e; cases h with | lst ea rs => exact ⟨false, _, _, rfl, ea, rs⟩
  | _ => cases e
theorem reps_get {i : Nat} (r : Reps K mg xc F xs ds) (h : i < ds.length) : ∃ x d, xs[i]? = some x ∧ ds[i]? = some d ∧ Rep K mg xc F x d := by
  have e : ds[i]? = some ds[i] := List.getElem?_eq_getElem h
  obtain ⟨x, h1, h2⟩ := r.get e
  exact ⟨x, _, h1, e, h2⟩
theorem itd_list (ea : F a = some (.lst xs)) (r : Reps K mg xc F xs ds) : ItD K mg xc (Itl K a) F ds := fun i F' H' s1 s2 => by
  have hq : SqL K H' a xs := .of (s2 _ _ (s1 _ _ ea))
  refine ⟨fun hi => ?_, fun hi => ⟨xs, hq, by rw [r.length]; omega⟩⟩
  obtain ⟨x, d, h1, h2, h3⟩ := reps_get r hi
  refine ⟨⟨xs, x, hq, h1⟩, fun y H2 ⟨e1, e2⟩ => ?_⟩
  subst e1
  have q := e2 xs hq
  rw [h1] at q; cases q
  exact ⟨F', d, .refl s2, h2, h3.mono s1⟩
theorem itd_tup (ea : F a = some (.tup xs)) (r : Reps K mg xc F xs ds) : ItD K mg xc (Itt K a) F ds := fun i F' H' s1 s2 => by
  have hq : SqT K H' a xs := .of (s2 _ _ (s1 _ _ ea))
  refine ⟨fun hi => ?_, fun hi => ⟨xs, hq, by rw [r.length]; omega⟩⟩
  obtain ⟨x, d, h1, h2, h3⟩ := reps_get r hi
  refine ⟨⟨xs, x, hq, h1⟩, fun y H2 ⟨e1, e2⟩ => ?_⟩
  subst e1
  have q := e2 xs hq
  rw [h1] at q; cases q
  exact ⟨F', d, .refl s2, h2, h3.mono s1⟩
theorem kts_get : ∀ {kvs : List (List Key × V)} {es : List (List Int × D)} {i : Nat} {k : List Key} {v : V}, KTs K mg xc F kvs es → kvs[i]? = some (k, v) → ∃ ns d, k = ns.map Sum.inl ∧ es[i]? = some (ns, d)
  | _, _, _, _, _, .nil, h => by simp at h
  | _, _, 0, _, _, .cons (ks := ks) (d := d) _ _, h => by
    simp only [List.getElem?_cons_zero, Option.some.injEq, Prod.mk.injEq] at h
    exact ⟨ks, d, h.1.symm, rfl⟩
  | _, _, i + 1, _, _, .cons _ t, h => by
    simp only [List.getElem?_cons_succ] at h ⊢
    exact kts_get t h
theorem kts_len : ∀ {kvs : List (List Key × V)} {es : List (List Int × D)}, KTs K mg xc F kvs es → kvs.length = es.length
  | _, _, .nil => rfl
  | _, _, .cons _ t => congrArg (· + 1) (kts_len t)
theorem itd_keys {o : Obj} {kvs : List (List Key × V)} {es : List (List Int × D)} (ea : F a = some (.frz o (.dT kvs))) (r : KTs K mg xc F kvs es) : ItD K mg xc (Itkt a o kvs) F (es.map fun kv => tupI kv.1) := fun i F' H' s1 s2 => by
  have hq : H' a = some (.frz o (.dT kvs)) := s2 _ _ (s1 _ _ ea)
  have hl := kts_len r
  rw [List.length_map]
  refine ⟨fun hi => ⟨⟨hq, by omega⟩, fun y H2 ⟨e1, k, v, q, e2, e3, e4⟩ => ?_⟩, fun hi => ⟨hq, by omega⟩⟩
  subst e1 e3
  obtain ⟨ns, d, rfl, h2⟩ := kts_get r e2
  have hv : H2 q = some (.tup (ns.map V.int)) := by rw [e4, kv_ints]
  have hd : (es.map fun kv => tupI kv.1)[i]? = some (tupI ns) := by rw [List.getElem?_map, h2]; rfl
  cases z : F' q with
  | some u =>
    have e := s2 _ _ z
    rw [hv] at e
    cases e
    exact ⟨F', _, .refl s2, hd, .tup z (Reps.of_ints ns)⟩
  | none =>
    refine ⟨upd F' q (.tup (ns.map V.int)), _, (Ext.refl s2).tups (same_upd z) (fun b x e => ?_) (fun b x e => ?_), hd, .tup upd_same (Reps.of_ints ns)⟩
    · by_cases hb : b = q
      · subst hb; rw [upd_same] at e; cases e; exact hv
      · rw [upd_ne hb] at e; exact s2 _ _ e
    · by_cases hb : b = q
      · subst hb; rw [upd_same] at e; cases e; exact .inr ⟨_, rfl⟩
      · rw [upd_ne hb] at e; exact .inl e
theorem itd_str (z : Str) : ItD K mg xc (Its z) F (strItems z) := fun i F' H' s1 s2 => by
  have hl : (strItems z).length = z.cps.size := by simp [strItems]
  refine ⟨fun hi => ?_, fun hi => ?_⟩
  · refine ⟨by show i < z.cps.size; omega, fun y H2 ⟨e1, c, e2, e3⟩ => ?_⟩
    subst e1 e3
    refine ⟨F', .str ⟨#[c]⟩, .refl s2, ?_, .str _⟩
    simp only [strItems, List.getElem?_map]
    have : z.cps.toList[i]? = some c := by simpa using e2
    rw [this]; rfl
  · show z.cps.size ≤ i
    omega
theorem itd_rng (lo hi : Int) : ItD K mg xc (Itr lo (hi - lo).toNat) F (rangeD lo hi) := fun i F' H' s1 s2 => by
  have hl : (rangeD lo hi).length = (hi - lo).toNat := by simp [rangeD]
  refine ⟨fun h => ⟨by show i < _; omega, fun y H2 ⟨e1, e2⟩ => ?_⟩, fun h => by show _ ≤ i; omega⟩
  subst e1 e2
  refine ⟨F', .int (lo + (i : Int)), .refl s2, ?_, .int _⟩
  simp only [rangeD, List.getElem?_map]
  rw [List.getElem?_range (by omega)]
  rfl
theorem enumFrom_get : ∀ (ds : List D) (k i : Nat), (enumFrom k ds)[i]? = (ds[i]?).map fun d => .tup [.int ((k + i : Nat) : Int), d]
  | [], _, _ => by simp [enumFrom]
  | d :: ds, k, 0 => by simp [enumFrom]
  | d :: ds, k, i + 1 => by
    simp only [enumFrom, List.getElem?_cons_succ]
    rw [enumFrom_get ds (k + 1) i]
    have : k + 1 + i = k + (i + 1) := by omega
    rw [this]
theorem enumFrom_length : ∀ (ds : List D) (k : Nat), (enumFrom k ds).length = ds.length
  | [], _ => rfl
  | d :: ds, k => by simp [enumFrom, enumFrom_length ds]
theorem itd_enum {b : Bool} (ea : FB b F a xs) (r : Reps K mg xc F xs ds) : ItD K mg xc (IteB b K a) F (enumFrom 0 ds) := fun i F' H' s1 s2 => by
  have hq : SqB b K H' a xs := ea.sq (s1.trans s2)
  rw [enumFrom_length]
  refine ⟨fun hi => ?_, fun hi => ⟨xs, hq, by rw [r.length]; omega⟩⟩
  obtain ⟨x, d, h1, h2, h3⟩ := reps_get r hi
  refine ⟨⟨xs, x, hq, h1⟩, fun y H2 ⟨T, x', e0, e1, e2, e3⟩ => ?_⟩
  subst e0 e2
  have q := e3 xs hq
  rw [h1] at q; cases q
  refine ⟨_, .tup [.int ((0 + i : Nat) : Int), d], Ext.newF s2 e1, by rw [enumFrom_get, h2]; rfl, .tup (xs := [.int (i : Nat), x]) upd_same (.cons ?_ (.cons ((h3.mono s1).mono (same_upd (s2.free e1))) .nil))⟩
  rw [Nat.zero_add]
  exact .int _
theorem zipD_get : ∀ (xs ys : List D) (i : Nat) {x y : D}, xs[i]? = some x → ys[i]? = some y → (zipD xs ys)[i]? = some (.tup [x, y])
  | [], _, _, _, _, h, _ => by simp at h
  | _ :: _, [], _, _, _, _, h => by simp at h
  | x :: xs, y :: ys, 0, _, _, h, h' => by simp at h h'; subst h h'; rfl
  | x :: xs, y :: ys, i + 1, _, _, h, h' => by
    simp only [List.getElem?_cons_succ] at h h'
    simp only [zipD, List.getElem?_cons_succ]
    exact zipD_get xs ys i h h'
theorem zipD_length : ∀ xs ys : List D, (zipD xs ys).length = min xs.length ys.length
  | [], _ => by simp [zipD]
  | _ :: _, [] => by simp [zipD]
  | x :: xs, y :: ys => by simp [zipD, zipD_length xs ys]
theorem itd_zip {b c : Bool} {a1 a2 : Addr} {xs ys : List V} {ds es : List D} (ea : FB b F a1 xs) (eb : FB c F a2 ys) (r : Reps K mg xc F xs ds) (r2 : Reps K mg xc F ys es) : ItD K mg xc (ItzB b c K a1 a2) F (zipD ds es) := fun i F' H' s1 s2 => by
  have hq : SqB b K H' a1 xs := ea.sq (s1.trans s2)
  have hq2 : SqB c K H' a2 ys := eb.sq (s1.trans s2)
  have l1 := r.length
  have l2 := r2.length
  rw [zipD_length]
  refine ⟨fun hi => ?_, fun hi => ⟨xs, ys, hq, hq2, by omega, by omega, by omega⟩⟩
  obtain ⟨x, d, h1, h2, h3⟩ := reps_get r (show i < ds.length by omega)
  obtain ⟨y, e, k1, k2, k3⟩ := reps_get r2 (show i < es.length by omega)
  refine ⟨⟨xs, ys, x, y, hq, hq2, h1, k1⟩, fun w H2 ⟨T, x', y', e0, e1, e2, e3, e4⟩ => ?_⟩
  subst e0 e2
  have q := e3 xs hq
  rw [h1] at q; cases q
  have q := e4 ys hq2
  rw [k1] at q; cases q
  have sT := same_upd (o := HO.tup [x, y]) (s2.free e1)
  exact ⟨_, .tup [d, e], Ext.newF s2 e1, zipD_get _ _ _ h2 k2, .tup upd_same (.cons ((h3.mono s1).mono sT) (.cons ((k3.mono s1).mono sT) .nil))⟩
end
section
variable {X : Cx} {xc : V → Str → Prop} {W : WX} {G : Fns} {gc : GC} {H0 : Hp × Hp} {F H : Hp} {ρ : En} {σ : L2.St} {Q : VK} {r : Ro}
/-- a kept value -/
theorem rdC (R : Rel X.K X.mg xc H0 F ρ σ H) {a : E} {k : D → Option (List D)} {ds : List D} (ev : (match evE G a ρ with
    | some (.v .cl d) => k d
    | some (.v .fr d) => k d
    | _ => none) = some ds) : ∃ m d, evE G a ρ = some (.v m d) ∧ k d = some ds ∧ ∀ S : V → Hp → Prop, (∀ x F1 H1, Ext F H F1 H1 → Rep X.K X.mg xc F1 x d → S x H1) → tE X xc W G a σ H S := by
  have key : ∀ m d, evE G a ρ = some (.v m d) → m ≠ .raw → k d = some ds → ∃ m d, evE G a ρ = some (.v m d) ∧ k d = some ds ∧ ∀ S : V → Hp → Prop, (∀ x F1 H1, Ext F H F1 H1 → Rep X.K X.mg xc F1 x d → S x H1) → tE X xc W G a σ H S := fun m d he hm hk' => by
    refine ⟨m, d, he, hk', fun S hk => ⟨H0, F, ρ, _, R, he, fun v F' H' x ok => ?_⟩⟩
    obtain ⟨F2, x2, _, rep⟩ := ok.clean x hm
    exact hk v F2 H' x2 rep
  split at ev
  · rename_i d he
    exact key _ d he (fun h => nomatch h) ev
  · rename_i d he
    exact key _ d he (fun h => nomatch h) ev
  · cases ev
theorem i_seq {a : E} {e tg : Expr} (ha : PE X e (tE X xc W G a)) : PI X tg e (tI X xc G (.seq a)) := by
  refine ⟨fun pins s σ H R' I ⟨H0, F, ρ, ds, R, ev, post⟩ => ?_⟩
  have ev' : (match evE G a ρ with
    | some (.v .cl d) => seqD d
    | some (.v .fr d) => seqD d
    | _ => none) = some ds := ev
  obtain ⟨m, d, he, hd, go⟩ := rdC (W := W) R ev'
  cases d with
  | tup l =>
    cases hd
    refine (pi_tup ha).run pins s σ H R' I (go _ fun x F1 H1 x1 rep => ?_)
    cases rep with
    | tup ea rs => exact ⟨_, rfl, ⟨_, .of (x1.s _ _ ea)⟩, post _ F1 H1 x1 (itd_tup ea rs)⟩
  | lst l =>
    cases hd
    refine (pi_list ha).run pins s σ H R' I (go _ fun x F1 H1 x1 rep => ?_)
    cases rep with
    | lst ea rs => exact ⟨_, rfl, ⟨_, .of (x1.s _ _ ea)⟩, post _ F1 H1 x1 (itd_list ea rs)⟩
  | str z =>
    cases hd
    refine (pi_str ha).run pins s σ H R' I (go _ fun x F1 H1 x1 rep => ?_)
    cases rep
    exact ⟨_, rfl, post _ F1 H1 x1 (itd_str _)⟩
  | ldt es =>
    cases hd
    refine (pi_keys ha).run pins s σ H R' I (go _ fun x F1 H1 x1 rep => ?_)
    cases rep with
    | ldt ea rs => exact ⟨_, _, rfl, .inr ⟨_, x1.s _ _ ea, post _ F1 H1 x1 (itd_keys ea rs)⟩⟩
  | _ => cases hd
theorem rangeOk_ok {i : Int} (h : rangeOk i = true) : -(2 ^ 62) ≤ i ∧ i < 2 ^ 62 := by
  unfold rangeOk at h
  simp only [Bool.and_eq_true, decide_eq_true_eq] at h
  omega
theorem i_rng (C : Ctx gc G X xc W) {a : E} {e tg : Expr} {p pos : Pos} (hg : glB X.env.scope "range" = true) (ha : PE X e (tE X xc W G a)) (hs : notSt e = true) : PI X tg (.Call (.Name "range" p) [e] [] pos) (tI X xc G (.rng a)) := by
  refine ⟨fun pins s σ H R' I ⟨H0, F, ρ, ds, R, ev, post⟩ => ?_⟩
  obtain ⟨g1, g2, g3⟩ := glB_ok hg
  have ev' : (match evE G a ρ with
    | some (.v _ (.int i)) => if rangeOk i then some (rangeD 0 i) else none
    | _ => none) = some ds := ev
  split at ev'
  · rename_i m i he
    split at ev'
    · rename_i hr
      cases ev'
      refine (pi_range1 g1 (C.bl "range" (by decide)) (pa_cons ha pa_nil (star_cons hs)) (star_cons hs)).run pins s σ H R' I ⟨H0, F, ρ, _, R, he, fun v F1 H1 x1 ok => ?_⟩
      obtain rfl := ok.vr.int
      obtain ⟨b1, b2⟩ := rangeOk_ok hr
      refine ⟨i, rfl, b1, b2, post _ F1 H1 x1 ?_⟩
      have := itd_rng (K := X.K) (mg := X.mg) (xc := xc) (F := F1) 0 i
      rw [Int.sub_zero] at this
      exact this
    · cases ev'
  · cases ev'
theorem i_rng2 (C : Ctx gc G X xc W) {a b : E} {e f tg : Expr} {p pos : Pos} (hg : glB X.env.scope "range" = true) (ha : PE X e (tE X xc W G a)) (hb : PE X f (tE X xc W G b)) (hs : notSt e = true) (hs2 : notSt f = true) :
    PI X tg (.Call (.Name "range" p) [e, f] [] pos) (tI X xc G (.rng2 a b)) := by
  refine ⟨fun pins s σ H R' I ⟨H0, F, ρ, ds, R, ev, post⟩ => ?_⟩
  obtain ⟨g1, g2, g3⟩ := glB_ok hg
  have ev' : (match evE G a ρ with
    | some (.v _ (.int i)) => match evE G b ρ with
      | some (.v _ (.int j)) => if rangeOk i && rangeOk j then some (rangeD i j) else none
      | _ => none
    | _ => none) = some ds := ev
  split at ev'
  · rename_i m i he
    split at ev'
    · rename_i m2 j hf
      split at ev'
      · rename_i hr
        cases ev'
        simp only [Bool.and_eq_true] at hr
        refine (pi_range2 g1 (C.bl "range" (by decide)) (pa_cons ha (pa_cons hb pa_nil (star_cons hs2)) (star_cons hs)) (by rw [star_cons hs, star_cons hs2]; rfl) (star_cons hs2)).run pins s σ H R' I ⟨H0, F, ρ, _, R, he, fun v F1 H1 x1 ok => ⟨H0, F1, ρ, _, R.ext x1, hf, fun w F2 H2 x2 ok2 => ?_⟩⟩
        obtain rfl := ok.vr.int
        obtain rfl := ok2.vr.int
        obtain ⟨b1, b2⟩ := rangeOk_ok hr.1
        obtain ⟨b3, b4⟩ := rangeOk_ok hr.2
        exact ⟨i, j, rfl, ⟨b1, b2, b3, b4⟩, post _ F2 H2 (x1.trans x2) (itd_rng i j)⟩
      · cases ev'
    · cases ev'
  · cases ev'
theorem i_enum (C : Ctx gc G X xc W) {a : E} {e : Expr} {elts : List Expr} {kk : Nat} {p pos tpos : Pos} (hg : glB X.env.scope "enumerate" = true) (ha : PE X e (tE X xc W G a)) (hs : notSt e = true) :
    PI X (.Tuple elts kk tpos) (.Call (.Name "enumerate" p) [e] [] pos) (tI X xc G (.enum a)) := by
  refine ⟨fun pins s σ H R' I ⟨H0, F, ρ, ds, R, ev, post⟩ => ?_⟩
  obtain ⟨g1, g2, g3⟩ := glB_ok hg
  have ev' : (match evE G a ρ with
    | some (.v .cl d) => enumD d
    | some (.v .fr d) => enumD d
    | _ => none) = some ds := ev
  obtain ⟨m, d, he, hd, go⟩ := rdC (W := W) R ev'
  refine (pi_enumB g1 (C.bl "enumerate" (by decide)) (pa_cons ha pa_nil (star_cons hs)) (star_cons hs)).run pins s σ H R' I (go _ fun x F1 H1 x1 rep => ?_)
  unfold enumD at hd
  split at hd
  · rename_i l hl
    cases hd
    obtain ⟨b, a, xs, rfl, ea, rs⟩ := rep_seqB rep hl
    exact ⟨b, a, xs, rfl, ea.sq x1.s, post _ F1 H1 x1 (itd_enum ea rs)⟩
  · cases hd
theorem i_zip (C : Ctx gc G X xc W) {es : Es} {e f : Expr} {elts : List Expr} {kk : Nat} {p pos tpos : Pos} (hg : glB X.env.scope "zip" = true) (ha : PA X [e, f] (tL X xc W G es)) (hs : notSt e = true) (hs2 : notSt f = true) :
    PI X (.Tuple elts kk tpos) (.Call (.Name "zip" p) [e, f] [] pos) (tI X xc G (.zip es)) := by
  refine ⟨fun pins s σ H R' I ⟨H0, F, ρ, ds, R, ev, post⟩ => ?_⟩
  obtain ⟨g1, g2, g3⟩ := glB_ok hg
  have ev' : (match evEs G es ρ with
    | some (.v [x, y]) => zip2 x y
    | _ => none) = some ds := ev
  split at ev'
  · rename_i d1 d2 he
    refine (pi_zipB g1 (C.bl "zip" (by decide)) ha (star_cons hs) (star_any (by simp [hs2]))).run pins s σ H R' I ⟨H0, F, ρ, _, R, he, fun vs F1 H1 x1 rs => ?_⟩
    unfold zip2 at ev'
    split at ev'
    · rename_i l1 hl1
      split at ev'
      · rename_i l2 hl2
        cases ev'
        cases rs with
        | cons r1 rs =>
          cases rs with
          | cons r2 rs =>
            cases rs
            obtain ⟨b, a, xs, rfl, ea, q1⟩ := rep_seqB r1 hl1
            obtain ⟨c, a2, ys, rfl, eb, q2⟩ := rep_seqB r2 hl2
            exact ⟨b, c, a, a2, xs, ys, rfl, ea.sq x1.s, eb.sq x1.s, post _ F1 H1 x1 (itd_zip ea eb q1 q2)⟩
      · cases ev'
    · cases ev'
  · cases ev'
/-! comprehensions -/
theorem turns_app (f : D → Option (List D)) : ∀ xs zs : List D, turns f (xs ++ zs) = match turns f xs with
    | some a => (match turns f zs with
      | some b => some (a ++ b)
      | none => none)
    | none => none
  | [], zs => by
    show turns f zs = match turns f zs with
      | some b => some ([] ++ b)
      | none => none
    cases turns f zs <;> rfl
  | x :: xs, zs => by
    simp only [List.cons_append, turns]
    cases f x with
    | none => rfl
    | some a =>
      rw [turns_app f xs zs]
      cases turns f xs with
      | none => rfl
      | some b => cases turns f zs <;> simp
theorem turns_at {f : D → Option (List D)} {ds ys : List D} (h : turns f ds = some ys) {i : Nat} {d : D} (hd : ds[i]? = some d) : ∃ y0 a, turns f (ds.take i) = some y0 ∧ f d = some a ∧ turns f (ds.take (i + 1)) = some (y0 ++ a) ∧ (y0 ++ a).length ≤ ys.length := by
  obtain ⟨hi, hx⟩ := List.getElem?_eq_some_iff.mp hd
  have e1 : ds = ds.take i ++ (d :: ds.drop (i + 1)) := by
    rw [← hx, List.getElem_cons_drop, List.take_append_drop]
  have e2 : ds.take (i + 1) = ds.take i ++ [d] := by rw [List.take_succ, hd]; rfl
  rw [e1, turns_app] at h
  cases h1 : turns f (ds.take i) with
  | none => rw [h1] at h; cases h
  | some y0 =>
    rw [h1] at h
    simp only [turns] at h
    cases h2 : f d with
    | none => rw [h2] at h; cases h
    | some a =>
      rw [h2] at h
      cases h3 : turns f (ds.drop (i + 1)) with
      | none => rw [h3] at h; cases h
      | some b =>
        rw [h3] at h
        cases h
        refine ⟨y0, a, rfl, rfl, ?_, by simp⟩
        rw [e2, turns_app, h1]
        simp [turns, h2]
def tC (X : Cx) (xc : V → Str → Prop) (G : Fns) (c : OE) : TT := fun σ H Q => ∃ H0 F ρ b, Rel X.K X.mg xc H0 F ρ σ H ∧ evC G c ρ = some b ∧ ∀ F' H', Ext F H F' H' → Q b H'
theorem _root_.L2.PTs.of {e : List Expr} {t t' : TT} (h : PTs X e t) (i : ∀ σ H Q, t' σ H Q → t σ H Q) : PTs X e t' := ⟨fun pins s σ H Q I w => h.run pins s σ H Q I (i _ _ _ w)⟩
theorem c_no : PTs X [] (tC X xc G .no) := pts_nil.of fun σ H Q ⟨H0, F, ρ, b, R, ev, post⟩ => by
  have ev' : some true = some b := ev
  cases ev'
  exact post F H (.refl R.sub)
theorem c_so {a : E} {e : Expr} (ha : PT X e (tT X xc W G a)) : PTs X [e] (tC X xc G (.so a)) := (pts_one ha).of fun σ H Q ⟨H0, F, ρ, b, R, ev, post⟩ => by
  have ev' : (match evE G a ρ with
    | some (.v _ (.bl b)) => some b
    | _ => none) = some b := ev
  split at ev'
  · rename_i m b' he
    cases ev'
    exact ⟨H0, F, ρ, _, R, he, fun F' H' x => post F' H' x⟩
  · cases ev'
end
end LS

set_option Elab.async false
set_option linter.all false
set_option maxRecDepth 100000
set_option maxHeartbeats 1000000
/-! LS12: comprehensions. -/
namespace LS
open PySem PySem.Spec PyProof.Rows L2
abbrev W0 : WX := fun _ _ _ _ => False
def gcB (gc : GC) (scope : Scope) : GC := { gc with asg := fun x => scope.names.lookup x == some .cell, top := false }
section
variable {X : Cx} {xc : V → Str → Prop} {W : WX} {G : Fns} {gc : GC} {H0 : Hp × Hp} {F H : Hp} {ρ : En} {σ : L2.St} {Q : VK} {r : Ro}
theorem takes_0 {X : Cx} : Takes X W0 := fun _ _ x => by
  obtain ⟨_, _, _, _, _, _, _, _, _, _, _, _, _, _, _, _, z⟩ := x
  exact z.elim
theorem Ctx.blk (C : Ctx gc G X xc W) (hh : gc.hot = false) (s : Shared) (H : Hp) (scope : Scope) (cenv : Env) (fp : List Addr) : Ctx (gcB gc scope) G (X.blk s H scope cenv fp) xc W0 :=
  ⟨C.nd, C.calm, C.hu, C.nx, fun x h => h, C.bl, C.ct, fun x g m h => ⟨(C.fn x g m h).ex⟩, C.mn, C.cl, C.mt, takes_0, PassesOwn.never, C.ex, C.ei, fun h => (by rw [show (gcB gc scope).hot = gc.hot from rfl, hh] at h; cases h), fun h => nomatch h⟩
def keepO : Option Ro → Option (List D)
  | some (.v .cl y) => some [y]
  | some (.v .fr y) => some [y]
  | _ => none
def fLc (G : Fns) (elt : E) (tg : Tg) (c : OE) (ρ : En) : D → Option (List D) := fun d => match bindT tg d ρ with
  | some ρ' => match evC G c ρ' with
    | some true => match evE G elt ρ' with
      | some (.v .cl y) => some [y]
      | some (.v .fr y) => some [y]
      | _ => none
    | some false => some []
    | none => none
  | none => none
theorem lc_last {D : Addr} {ds ys ys0 : List LS.D} {F1 H1 Fc Hc : Hp} {acc : List V} (x1 : Ext F H F1 H1) (hD : H1 D = none) (xs : Ext F1 H1 Fc Hc) (fD : Fc D = none) (hc : Hc D = some (.lst acc)) (rs : Reps X.K X.mg xc Fc acc ys)
    (post : PostE X xc W F H σ Q (.v .fr (.lst ys))) : Q (.ref D) Hc :=
  post _ Fc Hc (x1.trans xs) ⟨D, rfl, fD, x1.h.free hD, acc, hc, rs⟩
/-- an item is put behind -/
theorem lc_put {D : Addr} {F1 H1 Fc Hc F2 H2 : Hp} {acc : List V} {y : V} {d : LS.D} {ys0 : List LS.D} (hD : H1 D = none) (xs : Ext F1 H1 Fc Hc) (fD : Fc D = none) (hc : Hc D = some (.lst acc)) (rs : Reps X.K X.mg xc Fc acc ys0) (x2 : Ext Fc Hc F2 H2) (rep : Rep X.K X.mg xc F2 y d) :
    ∃ acc', H2 D = some (.lst acc') ∧ acc'.length = ys0.length ∧ Ext F1 H1 F2 (upd H2 D (.lst (acc' ++ [y]))) ∧ F2 D = none ∧ Reps X.K X.mg xc F2 (acc' ++ [y]) (ys0 ++ [d]) := by
  have x12 := xs.trans x2
  have f2 : F2 D = none := by
    cases z : F2 D with
    | none => rfl
    | some o =>
      rcases x2.n D o z with q | q | ⟨us, q⟩
      · rw [fD] at q; cases q
      · rw [hc] at q; cases q
      · subst q
        have z2 := x2.s _ _ z
        rw [x2.h _ _ hc] at z2; cases z2
  refine ⟨acc, x2.h _ _ hc, rs.length, ⟨x12.f, fun b o e => ?_, fun b o e => ?_, x12.n⟩, f2, (rs.mono x2.f).append (.cons rep .nil)⟩
  · have nb : b ≠ D := fun z => by subst z; rw [hD] at e; cases e
    rw [upd_ne nb]; exact x12.h _ _ e
  · have nb : b ≠ D := fun z => by subst z; rw [f2] at e; cases e
    rw [upd_ne nb]; exact x12.s _ _ e
theorem keep_of {G : Fns} {e : E} {a : List LS.D} (h : (match evE G e ρ with
      | some (.v .cl y) => some [y]
      | some (.v .fr y) => some [y]
      | _ => none) = some a) : ∃ m y, evE G e ρ = some (.v m y) ∧ m ≠ .raw ∧ a = [y] := by
  split at h
  · rename_i y he; cases h; exact ⟨.cl, y, he, (fun h => nomatch h), rfl⟩
  · rename_i y he; cases h; exact ⟨.fr, y, he, (fun h => nomatch h), rfl⟩
  · cases h
theorem fLc_some {elt : E} {tg : Tg} {c : OE} {d : LS.D} {a : List LS.D} (h : fLc G elt tg c ρ d = some a) : ∃ ρ' b, bindT tg d ρ = some ρ' ∧ evC G c ρ' = some b ∧ (b = false → a = []) ∧ (b = true → ∃ m y, evE G elt ρ' = some (.v m y) ∧ m ≠ .raw ∧ a = [y]) := by
  unfold fLc at h
  split at h
  · rename_i ρ' hb
    split at h
    · rename_i hc
      exact ⟨ρ', true, hb, hc, (fun h => nomatch h), fun _ => keep_of h⟩
    · rename_i hc
      cases h
      exact ⟨ρ', false, hb, hc, (fun _ => rfl), fun h => nomatch h⟩
    · cases h
  · cases h
theorem lt_line {a b : Nat} (h : a < b) (h2 : Nat.ble b LINE = true) : a < sizeLine := Nat.lt_of_lt_of_le h (le_line h2)
theorem wipe_idem {σ : L2.St} (own : List Nat) : ∀ is : List Nat, (∀ i ∈ is, i ∈ own) → L2.wipe (L2.wipe σ is) own = L2.wipe σ own
  | [], _ => rfl
  | k :: ks, hk => by
    show L2.wipe ((L2.wipe σ ks).set k none) own = _
    rw [wipe_set (hk k List.mem_cons_self), wipe_idem own ks fun j hj => hk j (List.mem_cons_of_mem _ hj)]
theorem lc_of (R : Rel X.K X.mg xc H0 F ρ σ H) {elt : E} {tg : Tg} {it : It} {c : OE} {own : List Nat} (ho : ∀ i ∈ tgIx tg, i ∈ own) (ev : evE G (.lc elt tg it c own) ρ = some r) (post : PostE X xc W F H σ Q r) :
    tLc (tI X xc G it) (tG X xc tg) (tC X xc G c) (tE X xc W0 G elt) own σ H Q := by
  have ev' : (match evI G it ρ with
    | some ds => match turns (fLc G elt tg c (wipes ρ own)) ds with
      | some ys => if Nat.ble ys.length LINE then fr (.lst ys) else none
      | none => none
    | none => none) = some r := ev
  split at ev'
  · rename_i ds hds
    split at ev'
    · rename_i ys hys
      split at ev'
      · rename_i hl
        cases ev'
        refine ⟨H0, F, ρ, ds, R, hds, fun J F1 H1 x1 itd D hD => ?_⟩
        refine ⟨fun i m Hc => m = ds.length - i ∧ i ≤ ds.length ∧ ∃ Fc acc ys0, Ext F1 H1 Fc Hc ∧ Fc D = none ∧ Hc D = some (.lst acc) ∧ Reps X.K X.mg xc Fc acc ys0 ∧ turns (fLc G elt tg c (wipes ρ own)) (ds.take i) = some ys0,
          ⟨ds.length, by simp, Nat.zero_le _, F1, [], [], Ext.newH x1.s hD, x1.s.free hD, upd_same, .nil, rfl⟩, ?_⟩
        rintro i m Hc ⟨rfl, hi, Fc, acc, ys0, xs, fD, hc, rs, ht⟩
        by_cases hlt : i < ds.length
        · obtain ⟨jg, jy⟩ := (itd i Fc Hc xs.f xs.s).1 hlt
          refine .inr ⟨jg, fun H' => ∃ F2 acc' ys1, Ext F1 H1 F2 H' ∧ F2 D = none ∧ H' D = some (.lst acc') ∧ Reps X.K X.mg xc F2 acc' ys1 ∧ turns (fLc G elt tg c (wipes ρ own)) (ds.take (i + 1)) = some ys1, fun H' p => ⟨ds.length - (i + 1), by omega, rfl, hlt, p⟩, fun x H' y => ?_⟩
          obtain ⟨F2, d, x2, hd, rep⟩ := jy x H' y
          obtain ⟨y0, a, h1, h2, h3, h4⟩ := turns_at hys hd
          rw [ht] at h1; cases h1
          obtain ⟨ρ', b, hb, hcc, hf, htr⟩ := fLc_some h2
          have R2 : Rel X.K X.mg xc H0 F2 (wipes ρ own) (L2.wipe σ own) H' := (((R.ext x1).ext xs).ext x2).wipe own
          refine ⟨H0, F2, _, d, ρ', R2, rep, hb, fun σ2 R3 hw _ => ⟨?_, H0, F2, ρ', b, R3, hcc, fun F3 H3 x3 => ?_⟩⟩
          · rw [hw own ho]
            exact wipe_idem own own fun _ h => h
          · cases b with
            | false =>
              rw [if_neg Bool.false_ne_true]
              have ha := hf rfl
              subst ha
              rw [List.append_nil] at h3
              have x23 := x2.trans x3
              refine ⟨F3, acc, ys0, xs.trans x23, ?_, x23.h _ _ hc, rs.mono x23.f, h3⟩
              cases z : F3 D with
              | none => rfl
              | some o =>
                rcases x23.n D o z with q | q | ⟨us, q⟩
                · rw [fD] at q; cases q
                · rw [hc] at q; cases q
                · subst q
                  have z2 := x23.s _ _ z
                  rw [x23.h _ _ hc] at z2; cases z2
            | true =>
              rw [if_pos rfl]
              obtain ⟨m, y, he, hm, rfl⟩ := htr rfl
              refine ⟨H0, F3, ρ', _, R3.ext x3, he, fun w F4 H4 x4 ok => ?_⟩
              obtain ⟨F5, x5, _, rep5⟩ := ok.clean x4 hm
              obtain ⟨acc', e1, e2, e3, e4, e5⟩ := lc_put hD xs fD hc rs ((x2.trans x3).trans x5) rep5
              refine ⟨acc', e1, lt_line (b := ys.length) ?_ hl, F5, _, _, e3, e4, upd_same, e5, h3⟩
              rw [e2]
              rw [List.length_append] at h4
              simp at h4
              omega
        · have e : i = ds.length := by omega
          subst e
          refine .inl ⟨(itd _ Fc Hc xs.f xs.s).2 rfl, ?_⟩
          rw [List.take_length, hys] at ht
          cases ht
          exact lc_last (ds := ds) (ys0 := ys) x1 hD xs fD hc rs post
      · cases ev'
    · cases ev'
  · cases ev'
theorem none_later {D : Addr} {Fc Hc F2 H2 : Hp} {acc : List V} (fD : Fc D = none) (hc : Hc D = some (.lst acc)) (x2 : Ext Fc Hc F2 H2) : F2 D = none := by
  cases z : F2 D with
  | none => rfl
  | some o' =>
    rcases x2.n D o' z with q | q | ⟨us, q⟩
    · rw [fD] at q; cases q
    · rw [hc] at q; cases q
    · subst q
      have z2 := x2.s _ _ z
      rw [x2.h _ _ hc] at z2; cases z2
theorem lc2_of (R : Rel X.K X.mg xc H0 F ρ σ H) {elt : E} {tg tg1 : Tg} {it it1 : It} {own own1 : List Nat} (ho : ∀ i ∈ tgIx tg, i ∈ own) (ho1 : ∀ i ∈ tgIx tg1, i ∈ own1) (hoo : ∀ i ∈ own1, i ∈ own) (ev : evE G (.lc2 elt tg it tg1 it1 own own1) ρ = some r) (post : PostE X xc W F H σ Q r) :
    tLc2 (tI X xc G it) (tG X xc tg) (tC X xc G .no) (tI X xc G it1) (tG X xc tg1) (tC X xc G .no) (tE X xc W0 G elt) own own1 σ H Q := by
  obtain ⟨f2, hf2⟩ : ∃ f2 : LS.D → Option (List LS.D), f2 = fun d => match bindT tg d (wipes ρ own) with
    | some ρ' => match evI G it1 ρ' with
      | some es => turns (fLc G elt tg1 .no (wipes ρ' own1)) es
      | none => none
    | none => none := ⟨_, rfl⟩
  have ev' : (match evI G it ρ with
    | some ds => match turns f2 ds with
      | some ys => if Nat.ble ys.length LINE then fr (.lst ys) else none
      | none => none
    | none => none) = some r := by rw [hf2]; exact ev
  split at ev'
  · rename_i ds hds
    split at ev'
    · rename_i ys hys
      split at ev'
      · rename_i hl
        cases ev'
        refine ⟨H0, F, ρ, ds, R, hds, fun J F1 H1 x1 itd D hD => ?_⟩
        refine ⟨fun i m Hc => m = ds.length - i ∧ i ≤ ds.length ∧ ∃ Fc acc ys0, Ext F1 H1 Fc Hc ∧ Fc D = none ∧ Hc D = some (.lst acc) ∧ Reps X.K X.mg xc Fc acc ys0 ∧ turns f2 (ds.take i) = some ys0,
          ⟨ds.length, by simp, Nat.zero_le _, F1, [], [], Ext.newH x1.s hD, x1.s.free hD, upd_same, .nil, rfl⟩, ?_⟩
        rintro i m Hc ⟨rfl, hi, Fc, acc, ys0, xs, fD, hc, rs, ht⟩
        by_cases hlt : i < ds.length
        · obtain ⟨jg, jy⟩ := (itd i Fc Hc xs.f xs.s).1 hlt
          refine .inr ⟨jg, fun H' => ∃ F2 acc' ys1, Ext F1 H1 F2 H' ∧ F2 D = none ∧ H' D = some (.lst acc') ∧ Reps X.K X.mg xc F2 acc' ys1 ∧ turns f2 (ds.take (i + 1)) = some ys1, fun H' p => ⟨ds.length - (i + 1), by omega, rfl, hlt, p⟩, fun x H' y => ?_⟩
          obtain ⟨F2, d, x2, hd, rep⟩ := jy x H' y
          obtain ⟨y0, a, h1, h2, h3, h4⟩ := turns_at hys hd
          rw [ht] at h1; cases h1
          rw [hf2] at h2
          simp only at h2
          split at h2
          · rename_i ρ' hb
            split at h2
            · rename_i es hes
              have R2 : Rel X.K X.mg xc H0 F2 (wipes ρ own) (L2.wipe σ own) H' := (((R.ext x1).ext xs).ext x2).wipe own
              refine ⟨H0, F2, _, d, ρ', R2, rep, hb, fun σ2 R3 hw hs => ⟨by rw [hw own ho]; exact wipe_idem own own fun _ h => h, H0, F2, ρ', true, R3, rfl, fun F3 H3 x3 => ?_⟩⟩
              show (if (true = true) then _ else _)
              rw [if_pos rfl]
              have x23 := x2.trans x3
              refine ⟨H0, F3, ρ', es, R3.ext x3, hes, fun J1 F4 H4 x4 itd1 => ?_⟩
              have x24 := x23.trans x4
              refine ⟨fun j k Hd => k = es.length - j ∧ j ≤ es.length ∧ ∃ Fd acc' ys1, Ext F1 H1 Fd Hd ∧ Same F4 Fd ∧ Fd D = none ∧ Hd D = some (.lst acc') ∧ Reps X.K X.mg xc Fd acc' (ys0 ++ ys1) ∧ turns (fLc G elt tg1 .no (wipes ρ' own1)) (es.take j) = some ys1,
                ⟨es.length, by simp, Nat.zero_le _, F4, acc, [], xs.trans x24, Same.refl _, none_later fD hc x24, x24.h _ _ hc, by rw [List.append_nil]; exact rs.mono x24.f, rfl⟩, ?_⟩
              rintro j k Hd ⟨rfl, hj, Fd, acc', ys1, xd, s4, fd, hcd, rsd, htd⟩
              by_cases hlt1 : j < es.length
              · obtain ⟨jg1, jy1⟩ := (itd1 j Fd Hd s4 xd.s).1 hlt1
                refine .inr ⟨jg1, fun H' => ∃ Fe acc'' ys2, Ext F1 H1 Fe H' ∧ Same F4 Fe ∧ Fe D = none ∧ H' D = some (.lst acc'') ∧ Reps X.K X.mg xc Fe acc'' (ys0 ++ ys2) ∧ turns (fLc G elt tg1 .no (wipes ρ' own1)) (es.take (j + 1)) = some ys2, fun H' p => ⟨es.length - (j + 1), by omega, rfl, hlt1, p⟩, fun x' H5 y' => ?_⟩
                obtain ⟨F5, d1, x5, hd1, rep1⟩ := jy1 x' H5 y'
                obtain ⟨z0, b, k1, k2, k3, k4⟩ := turns_at h2 hd1
                rw [htd] at k1; cases k1
                obtain ⟨ρ2, bb, hb1, hcc, hf, htr⟩ := fLc_some k2
                have hcc' : some true = some bb := hcc
                cases hcc'
                obtain ⟨mm, yv, he, hm, rfl⟩ := htr rfl
                have RL : Rel X.K X.mg xc H0 F5 ρ' σ2 H5 := R.later ((x1.trans xd).trans x5) R3 (((x3.f.trans x4.f).trans s4).trans x5.f) (hs.trans (Sub.wipe own))
                refine ⟨H0, F5, _, d1, ρ2, RL.wipe own1, rep1, hb1, fun σ3 R6 hw1 hs1 => ⟨by rw [hw1 own1 ho1]; exact wipe_idem own1 own1 fun _ h => h, H0, F5, ρ2, true, R6, rfl, fun F6 H6 x6 => ?_⟩⟩
                show (if (true = true) then _ else _)
                rw [if_pos rfl]
                refine ⟨H0, F6, ρ2, _, R6.ext x6, he, fun w F7 H7 x7 ok => ?_⟩
                obtain ⟨F8, x8, _, rep8⟩ := ok.clean x7 hm
                have x58 := (x5.trans x6).trans x8
                obtain ⟨acc2, e1, e2, e3, e4, e5⟩ := lc_put hD xd fd hcd rsd x58 rep8
                refine ⟨acc2, e1, lt_line (b := ys.length) ?_ hl, F8, _, ys1 ++ [yv], e3, s4.trans x58.f, e4, upd_same, by rw [← List.append_assoc]; exact e5, k3⟩
                rw [e2]
                rw [List.length_append] at h4 k4
                simp at k4
                rw [List.length_append]
                omega
              · have e : j = es.length := by omega
                subst e
                refine .inl ⟨(itd1 _ Fd Hd s4 xd.s).2 rfl, ?_⟩
                rw [List.take_length, h2] at htd
                cases htd
                exact ⟨Fd, acc', _, xd, fd, hcd, rsd, h3⟩
            · cases h2
          · cases h2
        · have e : i = ds.length := by omega
          subst e
          refine .inl ⟨(itd _ Fc Hc xs.f xs.s).2 rfl, ?_⟩
          rw [List.take_length, hys] at ht
          cases ht
          exact lc_last (ds := ds) (ys0 := ys) x1 hD xs fD hc rs post
      · cases ev'
    · cases ev'
  · cases ev'
end
end LS

set_option Elab.async false
set_option linter.all false
set_option maxRecDepth 100000
set_option maxHeartbeats 1000000
/-! LS12b: slots that change. -/
namespace LS
open PySem PySem.Spec PyProof.Rows L2
section
variable {K : PySem.W.Frag} {mg : Str → Option Value} {xc : V → Str → Prop} {H0 : Hp × Hp} {Hs F H : Hp} {ρ : En} {σ : L2.St}
/-- a value for a slot, new since Hs -/
def SvOk (K : PySem.W.Frag) (mg : Str → Option Value) (xc : V → Str → Prop) (Hs F H : Hp) (v : V) : SV → Prop
  | .un => False
  | .fz d => Rep K mg xc F v d
  | .ow d => ∃ p, v = .ref p ∧ F p = none ∧ Hs p = none ∧ Own K mg xc F H p d
  | .bg _ _ => False
def SvL (K : PySem.W.Frag) (mg : Str → Option Value) (xc : V → Str → Prop) (F H : Hp) : Hp → List V → List SV → Prop
  | _, [], [] => True
  | Hs, v :: vs, s :: ss => ∃ H1, Same Hs H1 ∧ SvOk K mg xc Hs F H v s ∧ (∀ p d, v = .ref p → s = .ow d → H1 p ≠ none) ∧ SvL K mg xc F H H1 vs ss
  | _, _, _ => False
/-- the owned slots stand in Hs -/
def OwnIn (Hs : Hp) (ρ : En) (σ : L2.St) : Prop := ∀ j d q, look ρ j = .ow d → σ[j]? = some (some (.ref q)) → Hs q ≠ none
theorem Rel.ownIn (r : Rel K mg xc H0 F ρ σ H) : OwnIn H ρ σ := fun j d q h1 h2 => by
  obtain ⟨p, e, _, _, o⟩ := r.own h1
  rw [e] at h2
  cases h2
  obtain ⟨u, hu⟩ := o.some
  rw [hu]
  exact fun z => nomatch z
theorem Rel.setS (r : Rel K mg xc H0 F ρ σ H) {i : Nat} {v : V} {s : SV} (h : SvOk K mg xc Hs F H v s) (o : OwnIn Hs ρ σ) (b : Same H0.2 Hs) : Rel K mg xc H0 F (ρ.set i s) (σ.set i (some v)) H := by
  have hl := r.len
  refine ⟨r.base, by simp [hl], fun j => ?_, fun j k d' e' p hjk hj hk hsj hsk => ?_⟩
  · by_cases e : i = j
    · subst e
      by_cases hi : i < ρ.length
      · rw [look_set_self hi]
        cases s with
        | un => exact False.elim h
        | bg w d => exact False.elim h
        | fz d => exact ⟨v, by rw [List.getElem?_set_self (by omega)], h⟩
        | ow d =>
          obtain ⟨p, rfl, h1, h2, h3⟩ := h
          exact ⟨p, by rw [List.getElem?_set_self (by omega)], h1, b.free h2, h3⟩
      · rw [look_big (by simp; omega)]; trivial
    · rw [look_set_ne e]
      have q := r.slot j
      cases z : look ρ j with
      | un => trivial
      | bg w d' => rw [z] at q; obtain ⟨p, h1, h2⟩ := q; exact ⟨p, by rw [List.getElem?_set_ne e]; exact h1, h2⟩
      | fz d' => rw [z] at q; obtain ⟨w, h1, h2⟩ := q; exact ⟨w, by rw [List.getElem?_set_ne e]; exact h1, h2⟩
      | ow d' => rw [z] at q; obtain ⟨p, h1, h2⟩ := q; exact ⟨p, by rw [List.getElem?_set_ne e]; exact h1, h2⟩
  · have key : ∀ {m n : Nat} {dm dn : D}, m ≠ n → i = m → look (ρ.set i s) m = .ow dm → look (ρ.set i s) n = .ow dn → (σ.set i (some v))[m]? = some (some (.ref p)) → (σ.set i (some v))[n]? = some (some (.ref p)) → False := fun {m n dm dn} hmn em hm hn hsm hsn => by
      subst em
      by_cases hi : i < ρ.length
      · rw [look_set_self hi] at hm
        subst hm
        rw [look_set_ne hmn] at hn
        rw [List.getElem?_set_ne hmn] at hsn
        rw [List.getElem?_set_self (by omega)] at hsm
        cases hsm
        obtain ⟨p', e1, _, h2, _⟩ := h
        cases e1
        exact o n dn p hn hsn h2
      · rw [look_big (by simp; omega)] at hm; cases hm
    by_cases e1 : i = j
    · exact key hjk e1 hj hk hsj hsk
    · by_cases e2 : i = k
      · exact key (Ne.symm hjk) e2 hk hj hsk hsj
      · rw [look_set_ne e1] at hj
        rw [look_set_ne e2] at hk
        rw [List.getElem?_set_ne e1] at hsj
        rw [List.getElem?_set_ne e2] at hsk
        exact r.disj j k d' e' p hjk hj hk hsj hsk
theorem OwnIn.set (o : OwnIn Hs ρ σ) {H1 : Hp} {i : Nat} {v : V} {s : SV} (b : Same Hs H1) (h : ∀ p d, v = .ref p → s = .ow d → H1 p ≠ none) : OwnIn H1 (ρ.set i s) (σ.set i (some v)) := fun j d q h1 h2 => by
  by_cases e : i = j
  · subst e
    by_cases hi : i < ρ.length
    · rw [look_set_self hi] at h1
      rcases getElem?_set_cases h2 with ⟨_, z⟩ | ⟨z, _⟩
      · exact h q d (Option.some.inj z).symm h1
      · exact absurd rfl z
    · rw [look_big (by simp; omega)] at h1; cases h1
  · rw [look_set_ne e] at h1
    rw [List.getElem?_set_ne e] at h2
    have q1 := o j d q h1 h2
    intro z
    exact q1 (b.free z)
theorem Rel.setL : ∀ {is : List Nat} {vs : List V} {ss : List SV} {ρ : En} {σ : L2.St} {Hs : Hp}, Rel K mg xc H0 F ρ σ H → SvL K mg xc F H Hs vs ss → OwnIn Hs ρ σ → Same H0.2 Hs → is.length = ss.length →
    Rel K mg xc H0 F (setSV is ss ρ) ((is.zip vs).foldl (fun s p => s.set p.1 (some p.2)) σ) H
  | [], [], [], _, _, _, r, _, _, _, _ => r
  | i :: is, v :: vs, s :: ss, ρ, σ, Hs, r, h, o, b, e => by
    obtain ⟨H1, h1, h2, h3, h4⟩ := h
    show Rel K mg xc H0 F (setSV is ss (ρ.set i s)) ((is.zip vs).foldl _ (σ.set i (some v))) H
    exact Rel.setL (r.setS h2 o b) h4 (o.set h1 h3) (b.trans h1) (by simpa using e)
  | [], [], _ :: _, _, _, _, _, h, _, _, _ => False.elim h
  | [], _ :: _, [], _, _, _, _, h, _, _, _ => False.elim h
  | _ :: _, [], [], _, _, _, _, _, _, _, e => by simp at e
  | _ :: _, [], _ :: _, _, _, _, _, h, _, _, _ => False.elim h
  | _ :: _, _ :: _, [], _, _, _, _, h, _, _, _ => False.elim h
  | [], _ :: _, _ :: _, _, _, _, _, _, _, _, e => by simp at e
theorem SvL.len : ∀ {vs : List V} {ss : List SV} {Hs : Hp}, SvL K mg xc F H Hs vs ss → vs.length = ss.length
  | [], [], _, _ => rfl
  | _ :: vs, _ :: ss, _, h => by obtain ⟨H1, _, _, _, h⟩ := h; simp [SvL.len h]
  | [], _ :: _, _, h => False.elim h
  | _ :: _, [], _, h => False.elim h
/-- the owned thing of a slot is written -/
theorem Rel.upd (r : Rel K mg xc H0 F ρ σ H) {i : Nat} {d d' : D} {p : Addr} {o : HO} (hi : look ρ i = .ow d) (hs : σ[i]? = some (some (.ref p))) (ho : Own K mg xc F (upd H p o) p d') : Rel K mg xc H0 F (ρ.set i (.ow d')) σ (L2.upd H p o) := by
  have hl := r.len
  obtain ⟨p', e1, n1, n2, ow⟩ := r.own hi
  rw [hs] at e1; cases e1
  have keep : ∀ b x, b ≠ p → H b = some x → L2.upd H p o b = some x := fun b x hb e => by rw [upd_ne hb]; exact e
  have lt : i < ρ.length := by
    by_cases q : i < ρ.length
    · exact q
    · rw [look_big (by omega)] at hi; cases hi
  refine ⟨⟨r.base.f, fun b x e => keep b x (fun z => by subst z; rw [n2] at e; cases e) (r.base.h _ _ e), fun b x e => keep b x (fun z => by subst z; rw [n1] at e; cases e) (r.base.s _ _ e), r.base.n⟩, by simp [hl], fun j => ?_, fun j k dj dk q hjk hj hk hsj hsk => ?_⟩
  · by_cases e : i = j
    · subst e
      rw [look_set_self lt]
      exact ⟨p, hs, n1, n2, ho⟩
    · rw [look_set_ne e]
      have q := r.slot j
      cases z : look ρ j with
      | un => trivial
      | bg w dd => rw [z] at q; exact q
      | fz dd => rw [z] at q; exact q
      | ow dd =>
        rw [z] at q
        obtain ⟨pj, h1, h2, h3, h4⟩ := q
        have hne : pj ≠ p := fun w => by subst w; exact r.disj i j d dd pj e hi z hs h1
        exact ⟨pj, h1, h2, h3, h4.mono (Same.refl _) fun o' eo => keep _ _ hne eo⟩
  · have own : ∀ {m : Nat} {dm : D}, look (ρ.set i (.ow d')) m = .ow dm → ∃ dd, look ρ m = .ow dd := fun {m dm} h => by
      by_cases e : i = m
      · subst e; exact ⟨d, hi⟩
      · rw [look_set_ne e] at h; exact ⟨dm, h⟩
    obtain ⟨d1, q1⟩ := own hj
    obtain ⟨d2, q2⟩ := own hk
    exact r.disj j k d1 d2 q hjk q1 q2 hsj hsk
/-- the owned thing of a slot is kept from now on -/
theorem Rel.frz (r : Rel K mg xc H0 F ρ σ H) {i : Nat} {d : D} (hi : look ρ i = .ow d) : ∃ F', Same F F' ∧ Rel K mg xc H0 F' (ρ.set i (.fz d)) σ H := by
  obtain ⟨p, hs, n1, n2, ow⟩ := r.own hi
  have bfree := n2
  obtain ⟨o, e, rep⟩ := ow.freeze n1
  have sF : Same F (L2.upd F p o) := same_upd n1
  have lt : i < ρ.length := by
    by_cases q : i < ρ.length
    · exact q
    · rw [look_big (by omega)] at hi; cases hi
  refine ⟨_, sF, ⟨r.base.f.trans sF, r.base.h, fun b x z => ?_, fun b x z => ?_⟩, by simp [r.len], fun j => ?_, fun j k dj dk q hjk hj hk hsj hsk => ?_⟩
  · by_cases hb : b = p
    · subst hb; rw [upd_same] at z; cases z; exact e
    · rw [upd_ne hb] at z; exact r.base.s _ _ z
  · by_cases hb : b = p
    · subst hb; exact .inr (.inl n2)
    · rw [upd_ne hb] at z; exact r.base.n _ _ z
  · by_cases ej : i = j
    · subst ej
      rw [look_set_self lt]
      exact ⟨_, hs, rep⟩
    · rw [look_set_ne ej]
      have q := r.slot j
      cases z : look ρ j with
      | un => trivial
      | bg w dd =>
        rw [z] at q
        obtain ⟨pj, h1, hw, h2, h3⟩ := q
        have hne : pj ≠ p := fun e => by
          subst e
          obtain ⟨u, hu⟩ := h3.some
          rw [bfree] at hu
          cases hu
        exact ⟨pj, h1, hw, by rw [upd_ne hne]; exact h2, h3.mono sF fun o eo => eo⟩
      | fz dd => rw [z] at q; obtain ⟨v, h1, h2⟩ := q; exact ⟨v, h1, h2.mono sF⟩
      | ow dd =>
        rw [z] at q
        obtain ⟨pj, h1, h2, h3, h4⟩ := q
        have hne : pj ≠ p := fun w => by subst w; exact r.disj i j d dd pj ej hi z hs h1
        exact ⟨pj, h1, by rw [upd_ne hne]; exact h2, h3, h4.mono sF fun o' eo => eo⟩
  · have own : ∀ {m : Nat} {dm : D}, look (ρ.set i (.fz d)) m = .ow dm → look ρ m = .ow dm := fun {m dm} h => by
      by_cases e : i = m
      · subst e; rw [look_set_self lt] at h; cases h
      · rw [look_set_ne e] at h; exact h
    exact r.disj j k dj dk q hjk (own hj) (own hk) hsj hsk
end
section
variable {K : PySem.W.Frag} {mg : Str → Option Value} {xc : V → Str → Prop} {H0 : Hp × Hp} {F H : Hp} {ρ : En} {σ : L2.St}
/-- the owned dict of a slot is locked from now on -/
theorem Rel.lck (r : Rel K mg xc H0 F ρ σ H) {i : Nat} {es : List (List Int × D)} (hi : look ρ i = .ow (.dct es)) : ∃ p kvs, H p = some (.dT kvs) ∧ ∀ od, ∃ F', Same F F' ∧ Rel K mg xc H0 F' (ρ.set i (.fz (.ldt es))) σ (L2.upd H p (.frz od (.dT kvs))) := by
  obtain ⟨p, hs, n1, n2, kvs, e, ks⟩ := r.own hi
  have bfree := n2
  refine ⟨p, kvs, e, fun od => ?_⟩
  have sF : Same F (L2.upd F p (.frz od (.dT kvs))) := same_upd n1
  have lt : i < ρ.length := by
    by_cases q : i < ρ.length
    · exact q
    · rw [look_big (by omega)] at hi; cases hi
  refine ⟨_, sF, ⟨r.base.f.trans sF, fun b x z => ?_, fun b x z => ?_, fun b x z => ?_⟩, by simp [r.len], fun j => ?_, fun j k dj dk q hjk hj hk hsj hsk => ?_⟩
  · rw [upd_ne (fun w => by rw [w, n2] at z; cases z)]
    exact r.base.h _ _ z
  · by_cases hb : b = p
    · subst hb; rw [upd_same] at z ⊢; exact z
    · rw [upd_ne hb] at z ⊢; exact r.base.s _ _ z
  · by_cases hb : b = p
    · subst hb; exact .inr (.inl n2)
    · rw [upd_ne hb] at z; exact r.base.n _ _ z
  · by_cases ej : i = j
    · subst ej
      rw [look_set_self lt]
      exact ⟨_, hs, .ldt upd_same (ks.mono sF)⟩
    · rw [look_set_ne ej]
      have q := r.slot j
      cases z : look ρ j with
      | un => trivial
      | bg w dd =>
        rw [z] at q
        obtain ⟨pj, h1, hw, h2, h3⟩ := q
        have hne : pj ≠ p := fun e => by
          subst e
          obtain ⟨u, hu⟩ := h3.some
          rw [bfree] at hu
          cases hu
        exact ⟨pj, h1, hw, by rw [upd_ne hne]; exact h2, h3.mono sF fun o eo => eo⟩
      | fz dd => rw [z] at q; obtain ⟨v, h1, h2⟩ := q; exact ⟨v, h1, h2.mono sF⟩
      | ow dd =>
        rw [z] at q
        obtain ⟨pj, h1, h2, h3, h4⟩ := q
        have hne : pj ≠ p := fun w => by subst w; exact r.disj i j _ dd pj ej hi z hs h1
        exact ⟨pj, h1, by rw [upd_ne hne]; exact h2, h3, h4.mono sF fun o' eo => by rw [upd_ne hne]; exact eo⟩
  · have own : ∀ {m : Nat} {dm : D}, look (ρ.set i (.fz (.ldt es))) m = .ow dm → look ρ m = .ow dm := fun {m dm} h => by
      by_cases e : i = m
      · subst e; rw [look_set_self lt] at h; cases h
      · rw [look_set_ne e] at h; exact h
    exact r.disj j k dj dk q hjk (own hj) (own hk) hsj hsk
end
section
variable {X : Cx} {xc : V → Str → Prop} {W : WX} {G : Fns} {gc : GC} {H0 : Hp × Hp} {F H : Hp} {ρ : En} {σ : L2.St} {Q : VK}
theorem stv_ok {m : Mk} {d : D} {s : SV} {v : V} {F' H' : Hp} (h : stv m d = some s) (ok : Vok X.K X.mg xc H F' H' m v d) : SvOk X.K X.mg xc H F' H' v s := by
  cases m with
  | cl => cases h; exact ok
  | fr =>
    cases h
    obtain ⟨p, e, h1, h2, h3⟩ := ok
    exact ⟨p, e, h1, h2, h3⟩
  | raw => cases h
theorem SvOk.ext {v : V} {s : SV} {F1 H1 F2 H2 : Hp} (h : SvOk X.K X.mg xc H F1 H1 v s) (x : Ext F1 H1 F2 H2) : SvOk X.K X.mg xc H F2 H2 v s := by
  cases s with
  | un => exact h
  | bg w d => exact h
  | fz d => exact Rep.mono x.f h
  | ow d =>
    obtain ⟨p, e, h1, h2, h3⟩ := h
    refine ⟨p, e, ?_, h2, h3.mono x.f fun o z => x.h _ _ z⟩
    cases z : F2 p with
    | none => rfl
    | some o =>
      rcases x.n p o z with w | w | ⟨us, w⟩
      · rw [h1] at w; cases w
      · obtain ⟨u, hu⟩ := h3.some
        rw [w] at hu; cases hu
      · subst w
        exact (h3.notTup x.h (x.s _ _ z)).elim
theorem SvL.ext {F1 H1 F2 H2 : Hp} (x : Ext F1 H1 F2 H2) : ∀ {vs : List V} {ss : List SV} {Hs : Hp}, SvL X.K X.mg xc F1 H1 Hs vs ss → SvL X.K X.mg xc F2 H2 Hs vs ss
  | [], [], _, _ => trivial
  | _ :: _, _ :: _, _, h => by obtain ⟨Hm, h1, h2, h3, h4⟩ := h; exact ⟨Hm, h1, h2.ext x, h3, SvL.ext x h4⟩
  | [], _ :: _, _, h => False.elim h
  | _ :: _, [], _, h => False.elim h
theorem SvOk.there {v : V} {s : SV} {F1 H1 : Hp} (h : SvOk X.K X.mg xc H F1 H1 v s) : ∀ p d, v = .ref p → s = .ow d → H1 p ≠ none := fun p d e1 e2 => by
  subst e1 e2
  obtain ⟨q, e, _, _, o⟩ := h
  cases e
  obtain ⟨u, hu⟩ := o.some
  rw [hu]
  exact fun z => nomatch z
/-- values that are stored at once -/
def tPs (X : Cx) (xc : V → Str → Prop) (G : Fns) (es : Es) : TA := fun σ H Q => ∃ H0 F ρ ss, Rel X.K X.mg xc H0 F ρ σ H ∧ evPs G es ρ = some ss ∧ ∀ vs F' H', Ext F H F' H' → SvL X.K X.mg xc F' H' H vs ss → Q vs H'
theorem p_nil : PA X [] (tPs X xc G .nil) := pa_nil.of fun σ H Q ⟨H0, F, ρ, ss, R, ev, post⟩ => by
  have ev' : some [] = some ss := ev
  cases ev'
  exact post [] F H (.refl R.sub) trivial
theorem p_cons {a : E} {es : Es} {e : Expr} {as : List Expr} (ha : PE X e (tE X xc W G a)) (hr : PA X as (tPs X xc G es)) (hs : notSt e = true) : PA X (e :: as) (tPs X xc G (.cons a es)) := (pa_cons ha hr (star_cons hs)).of fun σ H Q ⟨H0, F, ρ, ss, R, ev, post⟩ => by
  have ev' : (match evE G a ρ with
    | some (.v m d) => (match stv m d with
      | some s => (match evPs G es ρ with
        | some r => some (s :: r)
        | none => none)
      | none => none)
    | _ => none) = some ss := ev
  split at ev'
  · rename_i m d he
    split at ev'
    · rename_i s hs'
      split at ev'
      · rename_i rs hrs
        cases ev'
        exact ⟨H0, F, ρ, _, R, he, fun v F1 H1 x1 ok => ⟨H0, F1, ρ, rs, R.ext x1, hrs, fun vs F' H' x' sv => post (v :: vs) F' H' (x1.trans x') ⟨H1, x1.h, (stv_ok hs' ok).ext x', (stv_ok hs' ok).there, sv⟩⟩⟩
      · cases ev'
    · cases ev'
  · cases ev'
end
end LS

set_option Elab.async false
set_option linter.all false
set_option maxRecDepth 100000
set_option maxHeartbeats 2000000
/-! LS24: list(range(a, b)). -/
namespace LS
open PySem PySem.Spec PyProof.Rows L2
section
variable {X : Cx} {xc : V → Str → Prop} {W : WX} {G : Fns} {gc : GC} {F : Hp}
theorem rgV_rep (i j : Int) : Reps X.K X.mg xc F (rgV i j) (rangeD i j) := by
  have key : ∀ l : List Nat, Reps X.K X.mg xc F (l.map fun k => V.int (i + (k : Nat))) (l.map fun (k : Nat) => D.int (i + (k : Int))) := fun l => by
    induction l with
    | nil => exact .nil
    | cons a l ih => exact .cons (.int _) ih
  exact key _
theorem e_lrange (C : Ctx gc G X xc W) (hh : gc.hot = false) {a b : E} {e f : Expr} {p p2 q pos : Pos} (hg : glB X.env.scope "list" = true) (hg2 : glB X.env.scope "range" = true) (ha : PE X e (tE X xc W G a)) (hb : PE X f (tE X xc W G b)) (hs : notSt e = true) (hs2 : notSt f = true) :
    PE X (.Call (.Name "list" p) [.Call (.Name "range" p2) [e, f] [] q] [] pos) (tE X xc W G (.b2 .lrange a b)) := by
  obtain ⟨g1, g2, g3⟩ := glB_ok hg
  obtain ⟨k1, k2, k3⟩ := glB_ok hg2
  refine (pe_listRg (p := p) (pos := pos) (C.calm hh) g1 (C.bl "list" (by decide)) (prg_2 (p := p2) (pos := q) k1 (C.bl "range" (by decide)) ha hb (star_cons hs) (star_cons hs2) (by rw [star_cons hs2]; rfl)) (star_cons rfl)).of fun σ H Q ⟨H0, F, ρ, r, R, ev, post⟩ => ?_
  refine rd2 R ev post fun d e x y F2 H2 ev2 x2 vx vy => ?_
  have ev3 : lrangeX d e = some r := ev2
  unfold lrangeX at ev3
  split at ev3
  · rename_i i j
    split at ev3
    · rename_i hr
      cases ev3
      simp only [Bool.and_eq_true] at hr
      obtain ⟨b1, b2⟩ : -1000000 ≤ i ∧ i ≤ 1000000 := by simpa [rangeOk] using hr.1
      obtain ⟨b3, b4⟩ : -1000000 ≤ j ∧ j ≤ 1000000 := by simpa [rangeOk] using hr.2
      obtain rfl := vx.int
      obtain rfl := vy.int
      refine ⟨i, j, rfl, rfl, ⟨by omega, by omega, by omega, by omega, by omega⟩, fun c hc => ?_⟩
      exact post _ F2 _ (x2.trans (Ext.newH x2.s hc)) ⟨c, rfl, x2.s.free hc, x2.h.free hc, _, upd_same, rgV_rep i j⟩
    · cases ev3
  · cases ev3
end
end LS

set_option Elab.async false
set_option linter.all false
set_option maxRecDepth 100000
set_option maxHeartbeats 4000000
/-! LS25: zip of three. -/
namespace LS
open PySem PySem.Spec PyProof.Rows L2
def ItzC (b c d : Bool) (K : PySem.W.Frag) (a1 a2 a3 : Addr) : L2.It :=
  ⟨fun i H => ∃ (xs ys zs : List V) (x y z : V), SqB b K H a1 xs ∧ SqB c K H a2 ys ∧ SqB d K H a3 zs ∧ xs[i]? = some x ∧ ys[i]? = some y ∧ zs[i]? = some z,
    fun i H v H' => ∃ T x y z, v = .ref T ∧ H T = none ∧ H' = upd H T (.tup [x, y, z]) ∧ (∀ xs, SqB b K H a1 xs → xs[i]? = some x) ∧ (∀ ys, SqB c K H a2 ys → ys[i]? = some y) ∧ ∀ zs, SqB d K H a3 zs → zs[i]? = some z,
    fun i H => ∃ xs ys zs : List V, SqB b K H a1 xs ∧ SqB c K H a2 ys ∧ SqB d K H a3 zs ∧ i ≤ xs.length ∧ i ≤ ys.length ∧ i ≤ zs.length ∧ (i = xs.length ∨ i = ys.length ∨ i = zs.length)⟩
structure Apart3 (z TI TO i1 i2 i3 a b c : Addr) : Prop where
  s : ZipSep3 z TI TO i1 i2 i3 [i1, a] [i2, b] [i3, c]
  n1 : a ≠ i1
  n2 : b ≠ i2
  n3 : c ≠ i3
  m1 : TI ≠ i1
  m2 : TI ≠ i2
  m3 : TI ≠ i3
theorem turn_zipC {b c d : Bool} {P : Program} {w : World} {K : PySem.W.Frag} {elts : List Expr} {kk : Nat} {tpos : Pos} {a1 a2 a3 z TI TO i1 i2 i3 : Addr} (D : Apart3 z TI TO i1 i2 i3 a1 a2 a3) :
    Turn P w K (.Tuple elts kk tpos) (ItzC b c d K a1 a2 a3) [z, TI, TO, i1, i2, i3] z (fun i h => IsZip h z TI TO .none ∧ IsTupOf3 h TI (.ref i1) (.ref i2) (.ref i3) ∧ (∃ x y w, IsTupOf3 h TO x y w) ∧ ItB b h i1 a1 i ∧ ItB c h i2 a2 i ∧ ItB d h i3 a3 i) where
  mem := by simp
  obj := fun i h st k hk => by
    obtain ⟨hz, hTI, ⟨x, y, w, hTO⟩, h1, h2, h3⟩ := st
    have e' : k = z ∨ k = TI ∨ k = TO ∨ k = i1 ∨ k = i2 ∨ k = i3 := by simpa using hk
    rcases e' with q | q | q | q | q | q
    · rw [q]; exact ⟨_, hz, fun v q => nomatch q⟩
    · rw [q]; exact ⟨_, hTI, fun v q => nomatch q⟩
    · rw [q]; exact ⟨_, hTO, fun v q => nomatch q⟩
    · rw [q]; exact h1.obj
    · rw [q]; exact h2.obj
    · rw [q]; exact h3.obj
  keep := fun i h h' st k => by
    obtain ⟨hz, hTI, ⟨x, y, w, hTO⟩, h1, h2, h3⟩ := st
    exact ⟨k z (by simp) _ hz, k TI (by simp) _ hTI, ⟨x, y, w, k TO (by simp) _ hTO⟩, h1.at fun o q => k i1 (by simp) o q, h2.at fun o q => k i2 (by simp) o q, h3.at fun o q => k i3 (by simp) o q⟩
  item := by
    intro X hP hw hK hc i pins s σ H E I hf st hg
    subst hP hw hK
    obtain ⟨hz, hTI, ⟨x0, y0, w0, hTO⟩, h1, h2, h3⟩ := st
    obtain ⟨xs, ys, zs, x, y, v, hqx, hqy, hqz, hx, hy, hv⟩ := hg
    obtain ⟨its, rv, p, _⟩ := inv_seqB I hqx
    obtain ⟨its2, rv2, p2, _⟩ := inv_seqB I hqy
    obtain ⟨its3, rv3, p3, _⟩ := inv_seqB I hqz
    obtain ⟨u, hu, ru⟩ := rv.get hx
    obtain ⟨u2, hu2, ru2⟩ := rv2.get hy
    obtain ⟨u3, hu3, ru3⟩ := rv3.get hv
    have hzl : z < s.heap.objs.size := Heap.lt_size hz
    have hlt : i < its.toArray.size := by
      have := (List.getElem?_eq_some_iff.mp hu).1
      simpa using this
    have hlt2 : i < its2.toArray.size := by
      have := (List.getElem?_eq_some_iff.mp hu2).1
      simpa using this
    have hlt3 : i < its3.toArray.size := by
      have := (List.getElem?_eq_some_iff.mp hu3).1
      simpa using this
    have hh : X.A.in1.handled = none := I.ok.hd hc
    refine wpAny_pyNext_zipD3_item D.s (drawsB b hh i1 a1 D.n1 its.toArray) (drawsB c hh i2 a2 D.n2 its2.toArray) (drawsB d hh i3 a3 D.n3 its3.toArray) hz hTI hTO ⟨h1, p⟩ ⟨h2, p2⟩ ⟨h3, p3⟩ hlt hlt2 hlt3 fun v1 v2 v3 h' tk g1 g2 g3 z' TO' st1' st2' st3' hT hsz hk => ?_
    have ex : v1 = u := by
      have q : its[i]? = some v1 := by simpa using g1
      rw [hu] at q; exact (Option.some.inj q).symm
    have ex2 : v2 = u2 := by
      have q : its2[i]? = some v2 := by simpa using g2
      rw [hu2] at q; exact (Option.some.inj q).symm
    have ex3 : v3 = u3 := by
      have q : its3[i]? = some v3 := by simpa using g3
      rw [hu3] at q; exact (Option.some.inj q).symm
    subst ex ex2 ex3
    refine ⟨_, rfl, wpAny_letOwnedTupleGo_zip (s := { s with heap := h', toks := tk }) z' fun h'' z'' sb => ?_⟩
    have hT2 : h''.get? s.heap.objs.size = some { cls := .type "tuple", data := .seq #[v1, v2, v3] } := (sb.2 _ (Nat.ne_of_gt hzl)).trans hT
    have new : ObjOk X.prog X.w (upd H s.heap.objs.size (.tup [x, y, v])) h'' s.heap.objs.size (.tup [x, y, v]) :=
      ⟨by show 3 ≤ sizeLine; decide, [v1, v2, v3], .cons ru (.cons ru2 (.cons ru3 .nil)), ⟨_, hT2, rfl, _, rfl⟩⟩
    have I1 : L2.Inv X pins σ (upd H s.heap.objs.size (.tup [x, y, v])) { s with heap := h'', toks := tk } :=
      I.turnedNew (t' := tk) (ch := [z, TI, TO, i1, i2, i3]) (fun c o hb q => (sb.2 c (fun q' => hb (by simp [q']))).trans (hk c o (fun q' => hb (by simp [q'])) (fun q' => hb (by simp [q'])) (fun q' => hb (by simp [q'])) (fun q' => hb (by simp [q'])) (fun q' => hb (by simp [q'])) q)) hf (Nat.le_refl _) new
    refine ⟨.ref s.heap.objs.size, _, I1, rfl, ⟨_, x, y, v, rfl, I.hok.fresh (Nat.le_refl _), rfl, fun l hl => by rw [inv_injB I hl hqx]; exact hx, fun l hl => by rw [inv_injB I hl hqy]; exact hy, fun l hl => by rw [inv_injB I hl hqz]; exact hv⟩, ⟨z'', ?_, ⟨v1, v2, v3, ?_⟩, ?_, ?_, ?_⟩, fun c hcm => ?_⟩
    · exact (sb.2 _ D.s.TIz).trans (hk _ _ D.s.TIz D.s.TITO D.m1 D.m2 D.m3 hTI)
    · exact (sb.2 _ D.s.TOz).trans TO'
    · exact st1'.1.at fun o q => (sb.2 _ (Ne.symm D.s.zi1)).trans q
    · exact st2'.1.at fun o q => (sb.2 _ (Ne.symm D.s.zi2)).trans q
    · exact st3'.1.at fun o q => (sb.2 _ (Ne.symm D.s.zi3)).trans q
    · have hlt : c < s.heap.objs.size := by
        have e' : c = z ∨ c = TI ∨ c = TO ∨ c = i1 ∨ c = i2 ∨ c = i3 := by simpa using hcm
        rcases e' with q | q | q | q | q | q
        · rw [q]; exact hzl
        · rw [q]; exact Heap.lt_size hTI
        · rw [q]; exact Heap.lt_size hTO
        · rw [q]; obtain ⟨_, e1, _⟩ := h1.obj; exact Heap.lt_size e1
        · rw [q]; obtain ⟨_, e2, _⟩ := h2.obj; exact Heap.lt_size e2
        · rw [q]; obtain ⟨_, e3, _⟩ := h3.obj; exact Heap.lt_size e3
      rw [upd_ne (Nat.ne_of_lt hlt)]
      exact (hf c hcm).1
  done := by
    intro X hP hw hK hc i pins s σ H E I hf st hg
    subst hP hw hK
    obtain ⟨hz, hTI, ⟨x0, y0, w0, hTO⟩, h1, h2, h3⟩ := st
    obtain ⟨xs, ys, zs, hqx, hqy, hqz, hl1, hl2, hl3, hend⟩ := hg
    obtain ⟨its, rv, p, _⟩ := inv_seqB I hqx
    obtain ⟨its2, rv2, p2, _⟩ := inv_seqB I hqy
    obtain ⟨its3, rv3, p3, _⟩ := inv_seqB I hqz
    have l1 := rv.length
    have l2 := rv2.length
    have l3 := rv3.length
    have hh : X.A.in1.handled = none := I.ok.hd hc
    refine wpAny_pyNext_zipD3_end D.s (drawsB b hh i1 a1 D.n1 its.toArray) (drawsB c hh i2 a2 D.n2 its2.toArray) (drawsB d hh i3 a3 D.n3 its3.toArray) hz hTI hTO ⟨h1, p⟩ ⟨h2, p2⟩ ⟨h3, p3⟩ (by simp; omega) (by simp; omega) (by simp; omega) ?_ fun h' tk hk => ⟨rfl, I.turnedL (t' := tk) (ch := [z, TI, TO, i1, i2, i3]) (fun c o hb q =>
      hk c o (fun q' => hb (by simp [q'])) (fun q' => hb (by simp [q'])) (fun q' => hb (by simp [q'])) (fun q' => hb (by simp [q'])) (fun q' => hb (by simp [q'])) q) hf⟩
    rcases hend with q | q | q
    · exact .inl (by simp; omega)
    · exact .inr (.inl (by simp; omega))
    · exact .inr (.inr (by simp; omega))
  self := fun A i s Q E st h => wpAny_pyIter_zip st.1 h
def iZipC (K : PySem.W.Frag) (ta : TA) : TI := fun σ H R => ta σ H fun vs H1 => ∃ b c d a1 a2 a3 xs ys zs, vs = [.ref a1, .ref a2, .ref a3] ∧ SqB b K H1 a1 xs ∧ SqB c K H1 a2 ys ∧ SqB d K H1 a3 zs ∧ R (ItzC b c d K a1 a2 a3) H1
theorem apart3_new (N a b c : Nat) (ha : a < N) (hb : b < N) (hc : c < N) : Apart3 (N + 5) (N + 3) (N + 4) N (N + 1) (N + 2) a b c := by
  have f1 : ∀ k l : Nat, k ≠ l → N + k ≠ N + l := fun k l h e => h (by omega)
  have f2 : ∀ k : Nat, N + k ≠ a := fun k e => by omega
  have f3 : ∀ k : Nat, N + k ≠ b := fun k e => by omega
  have f4 : ∀ k : Nat, N + k ≠ c := fun k e => by omega
  have z : ∀ k : Nat, 0 ≠ k → N + k ≠ N := fun k h e => h (by omega)
  have y : ∀ k : Nat, 0 ≠ k → N ≠ N + k := fun k h e => h (by omega)
  exact ⟨⟨f1 3 5 (by decide), f1 4 5 (by decide), f1 3 4 (by decide), z 3 (by decide), List.mem_cons_self, nmem2 (z 5 (by decide)) (f2 5), nmem2 (z 4 (by decide)) (f2 4),
    f1 3 1 (by decide), List.mem_cons_self, nmem2 (f1 5 1 (by decide)) (f3 5), nmem2 (f1 4 1 (by decide)) (f3 4),
    f1 3 2 (by decide), List.mem_cons_self, nmem2 (f1 5 2 (by decide)) (f4 5), nmem2 (f1 4 2 (by decide)) (f4 4),
    nmem2 (y 1 (by decide)) (f3 0), nmem2 (y 2 (by decide)) (f4 0), nmem2 (z 1 (by decide)) (f2 1), nmem2 (f1 1 2 (by decide)) (f4 1), nmem2 (z 2 (by decide)) (f2 2), nmem2 (f1 2 1 (by decide)) (f3 2)⟩,
    fun e => f2 0 e.symm, fun e => f3 1 e.symm, fun e => f4 2 e.symm, z 3 (by decide), f1 3 1 (by decide), f1 3 2 (by decide)⟩
theorem pi_zipC {X : Cx} {e e2 e3 : Expr} {ta : TA} {p pos tpos : Pos} {elts : List Expr} {kk : Nat} (hg : Gl X "zip") (hm : X.mg "zip" = none) (ha : PA X [e, e2, e3] ta)
    (hs : starEach [e, e2, e3] X.env = (false, eval e X.env) :: starEach [e2, e3] X.env) (hpl : (backTo pos (starEach [e2, e3] X.env)).any (·.1) = false) :
    PI X (.Tuple elts kk tpos) (.Call (.Name "zip" p) [e, e2, e3] [] pos) (iZipC X.K ta) := by
  refine ⟨fun pins s σ H R I h => ?_⟩
  refine Call_ (ld_blt I hg hm PyProof.Rows.boot_zip (PyProof.Rows.callWith_type1 (thn (ha.run pos pins s σ H _ I h) fun us s1 ⟨vs, H1, I1, r1, q1⟩ => ?_) hs hpl))
  obtain ⟨b, c, d, a1, a2, a3, xs, ys, zs, ex, hqx, hqy, hqz, q⟩ := q1
  subst ex
  cases r1 with
  | cons r rr =>
    cases rr with
    | cons r' rr =>
      cases rr with
      | cons r'' rr =>
        cases rr
        cases r
        cases r'
        cases r''
        obtain ⟨its, rv, p1, _⟩ := inv_seqB I1 hqx
        obtain ⟨its2, rv2, p2, _⟩ := inv_seqB I1 hqy
        obtain ⟨its3, rv3, p3, _⟩ := inv_seqB I1 hqz
        refine zip_begins3 (begB b a1 its.toArray) (begB c a2 its2.toArray) (begB d a3 its3.toArray) p1 p2 p3 fun h' hz hTI hTO h1 h2 h3 hsz hk => wpAny_pyIter_zip hz ?_
        have I2 : L2.Inv X pins σ H1 { s1 with heap := h' } := I1.kept (t' := s1.toks) hk
        refine ⟨s1.heap.objs.size + 5, [s1.heap.objs.size + 5, s1.heap.objs.size + 3, s1.heap.objs.size + 4, s1.heap.objs.size, s1.heap.objs.size + 1, s1.heap.objs.size + 2], _, _, H1, rfl, I2, turn_zipC (b := b) (c := c) (d := d) (apart3_new s1.heap.objs.size a1 a2 a3 p1.lt p2.lt p3.lt), ⟨hz, hTI, ⟨_, _, _, hTO⟩, ItB.new h1, ItB.new h2, ItB.new h3⟩, fun k hcm => ?_, q⟩
        have e' : k = s1.heap.objs.size + 5 ∨ k = s1.heap.objs.size + 3 ∨ k = s1.heap.objs.size + 4 ∨ k = s1.heap.objs.size ∨ k = s1.heap.objs.size + 1 ∨ k = s1.heap.objs.size + 2 := by simpa using hcm
        have hle : s1.heap.objs.size ≤ k := by
          rcases e' with z | z | z | z | z | z
          · rw [z]; exact Nat.le_add_right _ _
          · rw [z]; exact Nat.le_add_right _ _
          · rw [z]; exact Nat.le_add_right _ _
          · rw [z]; exact Nat.le_refl _
          · rw [z]; exact Nat.le_add_right _ _
          · rw [z]; exact Nat.le_add_right _ _
        exact I1.fpOk hle (I1.hok.fresh hle)
section
variable {K : PySem.W.Frag} {mg : Str → Option Value} {xc : V → Str → Prop} {F : Hp}
theorem zip3D_get : ∀ (xs ys zs : List D) (i : Nat) {x y z : D}, xs[i]? = some x → ys[i]? = some y → zs[i]? = some z → (zip3D xs ys zs)[i]? = some (.tup [x, y, z])
  | [], _, _, _, _, _, _, h, _, _ => by simp at h
  | _ :: _, [], _, _, _, _, _, _, h, _ => by simp at h
  | _ :: _, _ :: _, [], _, _, _, _, _, _, h => by simp at h
  | x :: xs, y :: ys, z :: zs, 0, _, _, _, h, h', h'' => by
    simp only [List.getElem?_cons_zero, Option.some.injEq] at h h' h''
    subst h h' h''
    rfl
  | x :: xs, y :: ys, z :: zs, i + 1, _, _, _, h, h', h'' => by
    simp only [List.getElem?_cons_succ] at h h' h''
    simp only [zip3D, List.getElem?_cons_succ]
    exact zip3D_get xs ys zs i h h' h''
theorem zip3D_length : ∀ xs ys zs : List D, (zip3D xs ys zs).length = min (min xs.length ys.length) zs.length
  | [], _, _ => by simp [zip3D]
  | _ :: _, [], _ => by simp [zip3D]
  | _ :: _, _ :: _, [] => by simp [zip3D]
  | x :: xs, y :: ys, z :: zs => by
    have := zip3D_length xs ys zs
    simp only [zip3D, List.length_cons, this]
    omega
theorem itd_zip3 {b c d : Bool} {a1 a2 a3 : Addr} {xs ys zs : List V} {ds es fs : List D} (ea : FB b F a1 xs) (eb : FB c F a2 ys) (ec : FB d F a3 zs) (r : Reps K mg xc F xs ds) (r2 : Reps K mg xc F ys es) (r3 : Reps K mg xc F zs fs) : ItD K mg xc (ItzC b c d K a1 a2 a3) F (zip3D ds es fs) := fun i F' H' s1 s2 => by
  have hq : SqB b K H' a1 xs := ea.sq (s1.trans s2)
  have hq2 : SqB c K H' a2 ys := eb.sq (s1.trans s2)
  have hq3 : SqB d K H' a3 zs := ec.sq (s1.trans s2)
  have l1 := r.length
  have l2 := r2.length
  have l3 := r3.length
  rw [zip3D_length]
  refine ⟨fun hi => ?_, fun hi => ⟨xs, ys, zs, hq, hq2, hq3, by omega, by omega, by omega, by omega⟩⟩
  obtain ⟨x, d1, h1, h2, h3⟩ := reps_get r (show i < ds.length by omega)
  obtain ⟨y, e1, k1, k2, k3⟩ := reps_get r2 (show i < es.length by omega)
  obtain ⟨z, f1, m1, m2, m3⟩ := reps_get r3 (show i < fs.length by omega)
  refine ⟨⟨xs, ys, zs, x, y, z, hq, hq2, hq3, h1, k1, m1⟩, fun w H2 ⟨T, x', y', z', e0, e1', e2, e3, e4, e5⟩ => ?_⟩
  subst e0 e2
  have q := e3 xs hq
  rw [h1] at q; cases q
  have q := e4 ys hq2
  rw [k1] at q; cases q
  have q := e5 zs hq3
  rw [m1] at q; cases q
  have sT := same_upd (o := HO.tup [x, y, z]) (s2.free e1')
  exact ⟨_, .tup [d1, e1, f1], Ext.newF s2 e1', zip3D_get _ _ _ _ h2 k2 m2, .tup upd_same (.cons ((h3.mono s1).mono sT) (.cons ((k3.mono s1).mono sT) (.cons ((m3.mono s1).mono sT) .nil)))⟩
end
section
variable {X : Cx} {xc : V → Str → Prop} {W : WX} {G : Fns} {gc : GC}
theorem i_zip3 (C : Ctx gc G X xc W) {es : Es} {e f g : Expr} {elts : List Expr} {kk : Nat} {p pos tpos : Pos} (hg : glB X.env.scope "zip" = true) (ha : PA X [e, f, g] (tL X xc W G es)) (hs : notSt e = true) (hs2 : notSt f = true) (hs3 : notSt g = true) :
    PI X (.Tuple elts kk tpos) (.Call (.Name "zip" p) [e, f, g] [] pos) (tI X xc G (.zip3 es)) := by
  refine ⟨fun pins s σ H R' I ⟨H0, F, ρ, ds, R, ev, post⟩ => ?_⟩
  obtain ⟨g1, g2, g3⟩ := glB_ok hg
  have ev' : (match evEs G es ρ with
    | some (.v [x, y, z]) => zip3 x y z
    | _ => none) = some ds := ev
  split at ev'
  · rename_i d1 d2 d3 he
    refine (pi_zipC g1 (C.bl "zip" (by decide)) ha (star_cons hs) (star_any (by simp [hs2, hs3]))).run pins s σ H R' I ⟨H0, F, ρ, _, R, he, fun vs F1 H1 x1 rs => ?_⟩
    unfold zip3 at ev'
    split at ev'
    · rename_i l1 hl1
      split at ev'
      · rename_i l2 hl2
        split at ev'
        · rename_i l3 hl3
          cases ev'
          cases rs with
          | cons r1 rs =>
            cases rs with
            | cons r2 rs =>
              cases rs with
              | cons r3 rs =>
                cases rs
                obtain ⟨b, a, xs, rfl, ea, q1⟩ := rep_seqB r1 hl1
                obtain ⟨c, a2, ys, rfl, eb, q2⟩ := rep_seqB r2 hl2
                obtain ⟨d, a3, zs, rfl, ec, q3⟩ := rep_seqB r3 hl3
                exact ⟨b, c, d, a, a2, a3, xs, ys, zs, rfl, ea.sq x1.s, eb.sq x1.s, ec.sq x1.s, post _ F1 H1 x1 (itd_zip3 ea eb ec q1 q2 q3)⟩
        · cases ev'
      · cases ev'
    · cases ev'
  · cases ev'
end
end LS

set_option Elab.async false
set_option linter.all false
set_option maxRecDepth 100000
set_option maxHeartbeats 1000000
/-! LS26: exceptions that are caught; defs as values; list.index. -/
namespace LS
open PySem PySem.Spec PyProof.Rows L2
section
variable {K : PySem.W.Frag} {mg : Str → Option Value} {xc xc' : V → Str → Prop} {F H : Hp} {H0 : Hp × Hp} {ρ : En} {σ : L2.St}
/-! ### what tells of held exceptions, weaker -/
theorem Rep.xm (i : ∀ v c, xc v c → xc' v c) {v : V} {d : D} (h : Rep K mg xc H v d) : Rep K mg xc' H v d := by
  refine Rep.rec (motive_1 := fun v d _ => Rep K mg xc' H v d) (motive_2 := fun vs ds _ => Reps K mg xc' H vs ds) (motive_3 := fun k e _ => KTs K mg xc' H k e) (motive_4 := fun k e _ => KIs K mg xc' H k e)
    .non .bl .int .str (fun h _ q => .tup h q) (fun h _ q => .lst h q) (fun h _ q => .dct h q) (fun h _ q => .dck h q) (fun h _ q => .ldt h q) (fun h => .scr h) (fun h => .fnv h) (fun h => .exc (i _ _ h)) (fun m h z e _ q => .obj m h z e q)
    .nil (fun _ _ a b => .cons a b) .nil (fun _ _ a b => .cons a b) .nil (fun _ _ a b => .cons a b) h
theorem Reps.xm (i : ∀ v c, xc v c → xc' v c) : ∀ {vs : List V} {ds : List D}, Reps K mg xc H vs ds → Reps K mg xc' H vs ds
  | _, _, .nil => .nil
  | _, _, .cons a b => .cons (a.xm i) (Reps.xm i b)
theorem KTs.xm (i : ∀ v c, xc v c → xc' v c) : ∀ {vs ds}, KTs K mg xc H vs ds → KTs K mg xc' H vs ds
  | _, _, .nil => .nil
  | _, _, .cons a b => .cons (a.xm i) (KTs.xm i b)
theorem KIs.xm (i : ∀ v c, xc v c → xc' v c) : ∀ {vs ds}, KIs K mg xc H vs ds → KIs K mg xc' H vs ds
  | _, _, .nil => .nil
  | _, _, .cons a b => .cons (a.xm i) (KIs.xm i b)
theorem Own.xm (i : ∀ v c, xc v c → xc' v c) {p : Addr} {d : D} (h : Own K mg xc F H p d) : Own K mg xc' F H p d := by
  cases d with
  | lst ds => obtain ⟨xs, e, r⟩ := h; exact ⟨xs, e, r.xm i⟩
  | dct es => obtain ⟨xs, e, r⟩ := h; exact ⟨xs, e, r.xm i⟩
  | dck es => obtain ⟨xs, e, r⟩ := h; exact ⟨xs, e, r.xm i⟩
  | obj c ns ds => obtain ⟨C, dx, fs, vs, e, m, z, l, r⟩ := h; exact ⟨C, dx, fs, vs, e, m, z, l, r.xm i⟩
  | _ => cases h
theorem Rel.xm (i : ∀ v c, xc v c → xc' v c) (r : Rel K mg xc H0 F ρ σ H) : Rel K mg xc' H0 F ρ σ H :=
  ⟨r.base, r.len, fun j => by
    have q := r.slot j
    cases z : look ρ j with
    | un => trivial
    | fz d => rw [z] at q; obtain ⟨v, h1, h2⟩ := q; exact ⟨v, h1, h2.xm i⟩
    | ow d => rw [z] at q; obtain ⟨p, h1, h2, h3, h4⟩ := q; exact ⟨p, h1, h2, h3, h4.xm i⟩
    | bg w d => rw [z] at q; obtain ⟨p, h1, h2, h3, h4⟩ := q; exact ⟨p, h1, h2, h3, h4.xm i⟩, r.disj⟩
mutual
def noexc : D → Bool
  | .tup xs => noexcs xs
  | .lst xs => noexcs xs
  | .exc _ => false
  | .dct _ => false
  | .dck _ => false
  | .ldt _ => false
  | .obj _ _ _ => false
  | _ => true
def noexcs : List D → Bool
  | [] => true
  | d :: ds => noexc d && noexcs ds
end
mutual
theorem noexc_of : ∀ {d : D}, plain d = true → noexc d = true
  | .non, _ => rfl
  | .bl _, _ => rfl
  | .int _, _ => rfl
  | .str _, _ => rfl
  | .scr _, _ => rfl
  | .tup xs, h => noexcs_of (ds := xs) (by simpa [plain] using h)
  | .lst xs, h => noexcs_of (ds := xs) (by simpa [plain] using h)
  | .dct _, h => by simp [plain] at h
  | .dck _, h => by simp [plain] at h
  | .ldt _, h => by simp [plain] at h
  | .fnv _, h => by simp [plain] at h
  | .exc _, h => by simp [plain] at h
  | .obj _ _ _, h => by simp [plain] at h
theorem noexcs_of : ∀ {ds : List D}, plains ds = true → noexcs ds = true
  | [], _ => rfl
  | d :: ds, h => by
    simp only [plains, Bool.and_eq_true] at h
    show (noexc d && noexcs ds) = true
    rw [noexc_of h.1, noexcs_of h.2]
    rfl
end
/-- data without held exceptions does not lean on them -/
theorem Rep.nox {v : V} {d : D} (h : Rep K mg xc H v d) : noexc d = true → Rep K mg xc' H v d := by
  refine Rep.rec (motive_1 := fun v d _ => noexc d = true → Rep K mg xc' H v d) (motive_2 := fun vs ds _ => noexcs ds = true → Reps K mg xc' H vs ds) (motive_3 := fun _ _ _ => True) (motive_4 := fun _ _ _ => True)
    (fun _ => .non) (fun _ _ => .bl _) (fun _ _ => .int _) (fun _ _ => .str _) (fun h _ q z => .tup h (q z)) (fun h _ q z => .lst h (q z)) (fun h _ q z => nomatch z) (fun h _ q z => nomatch z) (fun h _ q z => nomatch z) (fun h _ => .scr h) (fun h _ => .fnv h) (fun _ z => nomatch z) (fun _ _ _ _ _ _ z => nomatch z)
    (fun _ => .nil) (fun _ _ a b z => ?_) trivial (fun _ _ _ _ => trivial) trivial (fun _ _ _ _ => trivial) h
  simp only [noexcs, Bool.and_eq_true] at z
  exact .cons (a z.1) (b z.2)
end
section
variable {X : Cx} {xc : V → Str → Prop} {W : WX} {G : Fns} {gc : GC} {H0 : Hp × Hp} {F H : Hp} {ρ : En} {σ : L2.St} {Q : VK} {r : Ro}
/-! ### list.index of bools -/
theorem findIdx_bl (b : Bool) : ∀ (bs : List Bool) (j : Nat), bs.findIdx? (· == b) = some j → bs[j]? = some b ∧ ∀ m z, m < j → bs[m]? = some z → (z == b) = false
  | [], _, h => by simp at h
  | c :: bs, j, h => by
    rw [List.findIdx?_cons] at h
    cases q : (c == b) with
    | true =>
      rw [q] at h
      cases h
      rw [beq_iff_eq.mp q]
      exact ⟨rfl, fun m z hm _ => absurd hm (by omega)⟩
    | false =>
      rw [q] at h
      cases e : bs.findIdx? (· == b) with
      | none => rw [e] at h; simp at h
      | some k =>
        rw [e] at h
        have h' : k + 1 = j := by simpa using h
        subst h'
        obtain ⟨h1, h2⟩ := findIdx_bl b bs k e
        refine ⟨by simpa using h1, fun m z hm hz => ?_⟩
        cases m with
        | zero =>
          have : c = z := by simpa using hz
          subst this
          exact q
        | succ m => exact h2 m z (by omega) (by simpa using hz)
theorem index_ok : MtR X "list.index" (rMD X.K X.mg xc indexX) := by
  intro pins s σ H x xs v us Q I rx rs h
  obtain ⟨F, d, ds, m, z, sF, hx, hy, hf, q⟩ := h
  unfold indexX at hf
  split at hf
  · rename_i es b
    split at hf
    · rename_i bs hbs
      split at hf
      · rename_i j hj
        cases hf
        obtain ⟨a, vs, rfl, e, rvs⟩ := hx.list sF
        cases hy with
        | cons hy hn =>
          cases hn
          cases hy
          have e2 := rvs.bls hbs
          subst e2
          obtain ⟨h1, h2⟩ := findIdx_bl b bs j hj
          refine mt_index pins s σ H _ _ v us Q I rx rs ⟨a, bs.map V.bl, .bl b, j, .bl b, rfl, rfl, .inl (.inl e), rfl, ?_, ?_, ?_, ?_, ?_⟩
          · rw [List.all_map]
            exact List.all_eq_true.mpr fun _ _ => rfl
          · rw [List.getElem?_map, h1]; rfl
          · cases b <;> rfl
          · intro m z' hm hz
            rw [List.getElem?_map] at hz
            cases hq : bs[m]? with
            | none => rw [hq] at hz; cases hz
            | some c =>
              rw [hq] at hz
              cases hz
              have := h2 m c hm hq
              cases c <;> cases b <;> first
                | rfl
                | cases this
          · exact q _ F _ (.refl sF) (.int _)
      · cases hf
    · cases hf
  · cases hf
theorem tyList : ∀ d F H v, mtT .index d = true → Same F H → Vr X.K X.mg xc F H v d → tyV X.K "list" v H := fun d F H v h s hv => by
  cases d with
  | lst ds =>
    obtain ⟨a, xs, rfl, e, _⟩ := hv.list s
    exact .inl ⟨rfl, xs, .inl (.inl e)⟩
  | _ => cases h
theorem e_index {a : E} {es : Es} {o e : Expr} {as : List Expr} {apos cpos : Pos} (ho : PE X o (tE X xc W G a)) (ha : PA X (e :: as) (tL X xc W G es)) (hb : notC0 o = true) (hl : (apos.endLine == cpos.line) = true) (hs : (e :: as).all notSt = true) (hn : Nat.blt (e :: as).length 20 = true) :
    PE X (.Call (.Attribute o "index" apos) (e :: as) [] cpos) (tE X xc W G (.mth .index a es)) :=
  e_bm PySem.F.plainAttrs_list PySem.F.slot_list_index PySem.F.type_list_index index_ok tyList ho ha hb hl hs hn
/-! ### defs as values -/
theorem e_fnv (C : Ctx gc G X xc W) {x : Str} (hm : gc.mkk x = false) {pos : Pos} (hg : glB X.env.scope x = true) : PE X (.Name x pos) (tE X xc W G (.fnv x)) := by
  obtain ⟨g1, g2, _⟩ := glB_ok hg
  cases hf : LS.fnOf x G with
  | none =>
    refine ⟨fun pins s σ H Q I ⟨H0, F, ρ, r, R, ev, post⟩ => ?_⟩
    have ev' : (if (LS.fnOf x G).isSome then cl (.fnv x) else none) = some r := ev
    rw [hf] at ev'
    cases ev'
  | some g =>
    obtain ⟨fa, fd, ps, k, h1, _⟩ := (C.fn x g hm hf).ex
    refine (pe_glob (v := .ref fa) g1 h1 rfl g2).of fun σ H Q ⟨H0, F, ρ, r, R, ev, post⟩ => ?_
    have ev' : (if (LS.fnOf x G).isSome then cl (.fnv x) else none) = some r := ev
    rw [hf] at ev'
    cases ev'
    exact post _ F H (.refl R.sub) (.fnv h1)
def isSub : Expr → Bool
  | .Subscript _ _ _ => true
  | _ => false
theorem Vr.fnv {K : PySem.W.Frag} {mg : Str → Option Value} {v : V} {x : Str} (h : Vr K mg xc F H v (.fnv x)) : ∃ f, v = .ref f ∧ mg x = some (.ref f) := by
  rcases h with h | ⟨p, _, h⟩
  · cases h with
    | fnv h => exact ⟨_, rfl, h⟩
  · cases h
theorem e_fnx (C : Ctx gc G X xc W) (hh : gc.hot = false) {g : E} {es : Es} {fe e : Expr} {as : List Expr} {pos : Pos} (hf : isSub fe = true) (hp : PE X fe (tE X xc W G g)) (ha : PA X (e :: as) (tL X xc W G es)) (hst : (e :: as).all notSt = true) : PE X (.Call fe (e :: as) [] pos) (tE X xc W G (.fnx g es)) := by
  refine ⟨fun pins s σ H Q I ⟨H0, F, ρ, r, R, ev, post⟩ => ?_⟩
  have ev0 : (bnd (evE G g ρ) fun _ x => match x with
    | .fnv f => match LS.fnOf f G with
      | some g => bndL (evEs G es ρ) fun ds => rrO (g ds)
      | none => none
    | _ => none) = some r := ev
  have arm : eval (.Call fe (e :: as) [] pos) X.env = (do callWith pos (← eval fe X.env) [] (backTo pos (starEach (e :: as) X.env)) (backToKw pos (keywordEach [] X.env))) := by
    cases fe with
    | Subscript _ _ _ => rfl
    | _ => cases hf
  rw [arm]
  simp only [List.all_cons, Bool.and_eq_true] at hst
  refine wpAny_bind ?_
  refine thn (hp.run pins s σ H (fun v H1 => ∃ fa fd ps k sp, v = .ref fa ∧ PySem.W.keepIn X.K (.ref fa) = true ∧ Binds X.K fd ps [] ∧ Room k X.A ∧ FnOk X.prog X.w X.K X.mg X.base (L2.CX X.prog X.w) k fa fd ps sp ∧ tL X xc W G es σ H1 fun vs H2 => sp vs H2 Q (WE W σ)) I ?_) fun u s1 ⟨v, H1, I1, r1, q1⟩ => ?_
  · refine rd1 R ev0 post fun m d x F1 H1 ev1 x1 ok1 => ?_
    split at ev1
    · rename_i f
      cases hfo : LS.fnOf f G with
      | none => rw [hfo] at ev1; cases ev1
      | some gg =>
        rw [hfo] at ev1
        obtain ⟨fb, rfl, hb⟩ := ok1.vr.fnv
        have hm : gc.mkk f = false := by
          cases q : gc.mkk f with
          | false => rfl
          | true => rw [C.mn f q] at hb; cases hb
        obtain ⟨fa, fd, ps, k, h1, h2, h3, h4, h5⟩ := (C.fn f gg hm hfo).ex
        cases h1.symm.trans hb
        exact ⟨_, fd, ps, k, _, rfl, h2, h3, h4 hh, h5, rdL (R.ext x1) ev1 (post.later x1) fun ds vs F2 H2 ev2 x2 rs => sp_of C hh x2 rs ev2 (post.later x1)⟩
    · cases ev1
  · obtain ⟨fa, fd, ps, k, sp, rfl, h2, h3, h4, h5, h6⟩ := q1
    cases r1
    refine PySem.W.callWith_K (h₀ := X.base) I.ok.mod.kin h2 (thn (ha.run pos pins s1 σ H1 _ I1 h6) fun us s2 ⟨vs, H2, I2, r2, q2⟩ => ⟨I2.kIn, ?_⟩) (star_cons hst.1) (star_any hst.2)
    exact run_fnS h5 h4 h3 (passAt C.tk σ) I2 r2 q2
/-! ### isinstance of the caught exception -/
theorem e_ise (C : Ctx gc G X xc W) (hh : gc.hot = true) {i : Nat} {x c : Str} {p p2 p3 pos : Pos} (hN : X.N[i]? = some x) (hv : visB X.env.scope x = true) (hd : dbgOk x = true) (hg : glB X.env.scope "isinstance" = true) (hgc : glB X.env.scope c = true) (hc : gc.ein.contains c = true) :
    PE X (.Call (.Name "isinstance" p) [.Name x p2, .Name c p3] [] pos) (tE X xc W G (.ise i c)) := by
  obtain ⟨g1, g2, g3⟩ := glB_ok hg
  obtain ⟨k1, k2, k3⟩ := glB_ok hgc
  have hv' := hv
  unfold dbgOk at hd
  simp only [Bool.and_eq_true, Bool.not_eq_true'] at hd
  obtain ⟨C', L', m1, m2, _⟩ := C.ei c hc
  obtain ⟨X0, a, D, oe, pn, rfl, hz, hfs, hx⟩ := C.ht hh
  refine ⟨fun pins s σ H Q I ⟨H0, F, ρ, r, R, ev, post⟩ => ?_⟩
  have ev' : (match look ρ i with
    | .fz (.exc k) => cl (.bl (k == c))
    | _ => none) = some r := ev
  split at ev'
  · rename_i k hlk
    cases ev'
    obtain ⟨v, e1, e2⟩ := R.var hlk
    cases e2 with
    | exc e2 =>
      obtain ⟨rfl, hk, hD⟩ := hx _ _ e2
      obtain ⟨Ck, Lk, n1, n2, n3, n4, n5⟩ := C.ei k hk
      cases hD.symm.trans n1
      obtain ⟨C2, n6, n7⟩ := n5 c hc
      cases m1.symm.trans n6
      have hT : PE (X0.suite a ((a, oe) :: pn)) (.Name c p3) (L2.tC (V.ref C')) := pe_glob (v := V.ref C') k1 m1 rfl k2
      have hV : PE (X0.suite a ((a, oe) :: pn)) (.Name x p2) (tVar i) := pe_var hN (visB_ok hv') hd.1.1 hd.1.2
      refine (pe_callB (call_isE n3 hz hfs) g1 (C.bl _ (by decide)) PyProof.Rows.boot_isinstance (pa_cons hV (pa_cons hT pa_nil (star_cons rfl)) (star_cons rfl)) g3 g2 (star_cons rfl) (star_any rfl)).run pins s σ H Q I ?_
      refine ⟨.ref a, e1, ?_⟩
      exact ⟨.ref C', .ref C', (k == c), rfl, (fun u hu => hu), n7, post _ F H (.refl R.sub) (.bl _)⟩
  · cases ev'
end
end LS

set_option Elab.async false
set_option linter.all false
set_option maxRecDepth 100000
set_option maxHeartbeats 1000000
/-! LS28: objects that stand behind: attributes, methods that change nothing, len. -/
namespace LS
open PySem PySem.Spec PyProof.Rows L2
section
variable {X : Cx} {xc : V → Str → Prop} {W : WX} {G : Fns} {gc : GC} {H0 : Hp × Hp} {F H : Hp} {ρ : En} {σ : L2.St} {Q : VK} {r : Ro}
theorem sel_fld {K : PySem.W.Frag} {mg : Str → Option Value} {fs : List (Str × V)} {x : Str} : ∀ {ns : List Str} {vs : List V} {ds : List D} {d : D}, ns.map (fun n => fs.lookup n) = vs.map some → Reps K mg xc F vs ds → fldD ns ds x = some d → ∃ v, fs.lookup x = some v ∧ Rep K mg xc F v d
  | [], _, _, _, _, _, h => by simp [fldD] at h
  | _ :: _, [], _, _, e, _, _ => by simp at e
  | n :: ns, v :: vs, _, d, e, .cons (d := d0) (ds := ds) a b, h => by
    simp only [List.map_cons, List.cons.injEq] at e
    have h' : (if n = x then some d0 else fldD ns ds x) = some d := h
    split at h'
    · rename_i q
      subst q
      cases h'
      exact ⟨v, e.1, a⟩
    · exact sel_fld e.2 b h'
theorem e_fld (C : Ctx gc G X xc W) {i : Nat} {c x y : Str} {fs : List Str} {p pos : Pos} (hN : X.N[i]? = some y) (hv : visB X.env.scope y = true) (hd : dbgOk y = true) (hc : gc.cls.lookup c = some fs) (hx : fs.contains x = true) :
    PE X (.Attribute (.Name y p) x pos) (tE X xc W G (.fld i c x)) := by
  obtain ⟨Cc, h1, h2, h3⟩ := C.cl c fs hc
  unfold dbgOk at hd
  simp only [Bool.and_eq_true, Bool.not_eq_true'] at hd
  refine (pe_fld (pe_var hN (visB_ok hv) hd.1.1 hd.1.2) (base_ok rfl _)).of fun σ H Q ⟨H0, F, ρ, r, R, ev, post⟩ => ?_
  have ev' : fldX c x (look ρ i) = some r := ev
  cases e : look ρ i with
  | bg w d =>
    rw [e] at ev'
    cases d with
    | obj c' ns ds =>
      have ev2 : (if c' = c then clO (fldD ns ds x) else none) = some r := ev'
      split at ev2
      · rename_i q
        subst q
        obtain ⟨d, k1, rfl⟩ := clO_v ev2
        obtain ⟨q, q1, _, _, C2, dx, gs, vs, q2, q3, _, q4, q5⟩ := R.behind e
        cases h1.symm.trans q3
        obtain ⟨v, l1, l2⟩ := sel_fld q4 q5 k1
        exact ⟨_, q1, q, Cc, dx, gs, v, rfl, R.base.h _ _ q2, h2, h3 x hx, l1, post v F H (.refl R.sub) l2⟩
      · cases ev2
    | _ => cases ev'
  | _ => rw [e] at ev'; cases ev'
theorem mclX_v {c k : Str} {s : SV} (h : mclX G c k s = some r) : ∃ w ns ds g d, s = .bg w (.obj c ns ds) ∧ LS.fnOf k G = some g ∧ g (.tup (ns.map .str) :: ds) = some (.ret d) ∧ r = .v .cl d := by
  unfold mclX at h
  split at h
  · rename_i w c' ns ds
    split at h
    · rename_i q
      subst q
      split at h
      · rename_i g hg
        split at h
        · rename_i d hd
          cases h
          exact ⟨w, ns, ds, g, d, rfl, hg, hd, rfl⟩
        · cases h
      · cases h
    · cases h
  · cases h
theorem meth_fld {K : PySem.W.Frag} {mg : Str → Option Value} {c : Str} {ns : List Str} {ds : List D} {p C f : Addr} {m : Str} (h : Own K mg xc F H p (.obj c ns ds)) (hc : mg c = some (.ref C)) (hm : Meth K C m f) : ∃ dx fs, H p = some (.ins C dx fs) ∧ fs.lookup m = none := by
  obtain ⟨C2, dx, fs, vs, q2, q3, q4, _⟩ := h
  cases hc.symm.trans q3
  refine ⟨dx, fs, q2, ?_⟩
  cases e : fs.lookup m with
  | none => rfl
  | some v =>
    have n := q4 m v e
    unfold NoAttr at n
    rw [hm.at_] at n
    cases n
theorem sp_obj (hx : xc = nox) {c : Str} {g : List D → Option Rr} {ns : List Str} {ds : List D} {p : Addr} {d : D} {Q : VK} {E : XK} (R : Rel X.K X.mg xc H0 F ρ σ H) {i : Nat} {w : Option Nat} (e : look ρ i = .bg w (.obj c ns ds)) (hs : σ[i]? = some (some (.ref p))) (hd : g (.tup (ns.map .str) :: ds) = some (.ret d))
    (q : ∀ v F' H', Ext F H F' H' → Rep X.K X.mg xc F' v d → Q v H') : spO X.K X.mg c g [.ref p] H Q E := by
  subst hx
  obtain ⟨p', h1, _, h3, h2⟩ := R.behind e
  rw [hs] at h1
  cases h1
  exact ⟨F, p, ns, ds, d, rfl, R.sub, h3, h2.mono (Same.refl _) fun o z => R.base.h _ _ z, hd, q⟩
/-- a method call, taken apart -/
theorem meth_tree {o : Expr} {m : Str} {as : List Expr} {apos pos : Pos} (hb : notC0 o = true) (hl : (apos.endLine == pos.line) = true)
    (hf : ((backTo pos (starEach as X.env)).all (fun x => !x.1) && (backToKw pos (keywordEach [] X.env)).all (fun x => x.1.isSome) && decide (as.length + ([] : List Keyword).length + (if ([] : List Keyword).isEmpty then 0 else 1) < 30)) = true) :
    ∃ pl : Sem Bool, eval (.Call (.Attribute o m apos) as [] pos) X.env = (do
      let o' ← eval o X.env
      standAt apos.atName
      let (f', l') ← holding [o'] (getMethod o' m pl)
      callWith pos f' l' (backTo pos (starEach as X.env)) (backToKw pos (keywordEach [] X.env))) := by
  have h1 : methodCallForm (as.length + ([] : List Keyword).length) (backTo pos (starEach as X.env)) (backToKw pos (keywordEach [] X.env)) = true := hf
  have h2 : methodCallPos true o X.env apos pos = pure pos := by
    unfold methodCallPos
    simp [hl]
  refine ⟨do return (← importBound o X.env).getD true, ?_⟩
  rw [arm_eval_Call, base_ok hb]
  unfold methodCall
  rw [h1, h2]
  rfl
theorem e_mcl (C : Ctx gc G X xc W) (hh : gc.hot = false) {i : Nat} {c m k y : Str} {p apos pos : Pos} (hN : X.N[i]? = some y) (hv : visB X.env.scope y = true) (hd : dbgOk y = true) (hq : gc.mth.contains (k, c, m) = true) (hl : (apos.endLine == pos.line) = true) :
    PE X (.Call (.Attribute (.Name y p) m apos) [] [] pos) (tE X xc W G (.mcl i c m k)) := by
  unfold dbgOk at hd
  simp only [Bool.and_eq_true, Bool.not_eq_true'] at hd
  refine ⟨fun pins s σ H Q I ⟨H0, F, ρ, r, R, ev, post⟩ => ?_⟩
  have ev' : mclX G c k (look ρ i) = some r := ev
  obtain ⟨w, ns, ds, g, d, e, hg, hd', rfl⟩ := mclX_v ev'
  obtain ⟨Cc, f, fd, ps, j, h1, h2, h3, h4, h5, h6⟩ := C.mt k c m hq g hg
  have hx := C.nx hh
  obtain ⟨q, q1, _, q3, q2⟩ := R.behind e
  obtain ⟨dx, fs, k1, k2⟩ := meth_fld q2 h1 h3
  have k3 := R.base.h _ _ k1
  have ht := meth_tree (X := X) (o := .Name y p) (m := m) (as := []) rfl hl rfl
  obtain ⟨pl, ht⟩ := ht
  refine PySem.W.methodCall_KW (pl := pl) (thn ((pe_var hN (visB_ok hv) hd.1.1 hd.1.2).run pins s σ H (fun v H1 => v = .ref q ∧ H1 = H) I ⟨_, q1, rfl, rfl⟩) fun u s1 ⟨v, H1, I1, rx, e1, e2⟩ => ?_) ht
  · subst e1 e2
    obtain rfl : u = Value.ref q := rx
    refine getmeth_ok I1 k3 h2 h3 k2 ?_
    refine PySem.W.callWith_K0 (first := [.ref q]) I1.kIn h3.kp (run_fnS (us := [.ref q]) (vs := [.ref q]) h6 ((h5 hh).mono (Nat.le_succ _)) h4 (passAt C.tk σ) I1 (.cons rfl .nil) ?_)
    exact sp_obj hx R e q1 hd' fun v F' H' x rep => post v F' H' x rep
theorem olen_ok (C : Ctx gc G X xc W) (hh : gc.hot = false) {c k : Str} (hq : gc.mth.contains (k, c, "__len__") = true) {g : List D → Option Rr} (hg : LS.fnOf k G = some g) :
    CallR X (.builtin "len") (fun xs H Q => ∃ F p ns ds i, xs = [.ref p] ∧ Same F H ∧ F p = none ∧ Own X.K X.mg nox F H p (.obj c ns ds) ∧ g (.tup (ns.map .str) :: ds) = some (.ret (.int i)) ∧ 0 ≤ i ∧ i < 1000000 ∧ ∀ F' H', Ext F H F' H' → Q (.int i) H') := by
  intro pins s σ H xs us Q I rs h
  obtain ⟨F, p, ns, ds, i, rfl, sF, fp, ow, hd, i0, i1, q⟩ := h
  obtain ⟨Cc, f, fd, ps, j, h1, h2, h3, h4, h5, h6⟩ := C.mt k c "__len__" hq g hg
  obtain ⟨dx, fs, k1, k2⟩ := meth_fld ow h1 h3
  obtain ⟨u, rfl, ru⟩ := vals1 rs
  obtain rfl : u = Value.ref p := ru
  obtain ⟨mA, J, _⟩ := ins_get I.hok k1
  obtain ⟨od, J, _⟩ := J.look
  obtain ⟨m, hF⟩ := I.fr
  refine PySem.W.len_K hF I.ok.mod.kin J h3.at_ h3.fn ?_
  have hsp : spO X.K X.mg c g [.ref p] H (fun v H' => v = .int i ∧ Q (.int i) H') (WE W σ) := ⟨F, p, ns, ds, _, rfl, sF, fp, ow, hd, fun v F' H' x rep => by cases rep; exact ⟨rfl, q F' H' x⟩⟩
  have e0 := (I.env0).in1
  have hl : [Value.ref p].length = ps.length := h6.len _ _ _ _ hsp
  have b := h4 s [.ref p] I.kIn (by rw [List.append_nil]; exact hl)
  rw [List.append_nil] at b
  refine wpAny_call (codeAny_mono (h6.run X.A.in1 X.stack s H ⟨[.ref p], []⟩ [.ref p] [.ref p] _ _ (h5 hh).in1 e0 b (.cons rfl .nil) hsp) fun rr s' hq => ?_)
  cases rr with
  | error e => exact passAt C.tk σ pins H s e s' I hq
  | ok fl =>
    cases fl with
    | ret w =>
      obtain ⟨z, H', I', rz, ez, ex⟩ := I.after hq
      subst ez
      obtain ⟨t, rfl⟩ := (show ∃ t, w = Value.int i t from rz)
      exact ⟨⟨i0, by omega⟩, .int i, H', I'.tok _, ⟨_, rfl⟩, ex⟩
    | next => exact False.elim hq
    | brk => exact False.elim hq
    | cont => exact False.elim hq
theorem e_oln (C : Ctx gc G X xc W) (hh : gc.hot = false) {i : Nat} {c k y : Str} {p p2 pos : Pos} (hN : X.N[i]? = some y) (hv : visB X.env.scope y = true) (hd : dbgOk y = true) (hq : gc.mth.contains (k, c, "__len__") = true) (hgl : glB X.env.scope "len" = true) :
    PE X (.Call (.Name "len" p2) [.Name y p] [] pos) (tE X xc W G (.oln i c k)) := by
  unfold dbgOk at hd
  simp only [Bool.and_eq_true, Bool.not_eq_true'] at hd
  obtain ⟨g1, g2, g3⟩ := glB_ok hgl
  refine ⟨fun pins s σ H Q I ⟨H0, F, ρ, r, R, ev, post⟩ => ?_⟩
  have ev' : olnX (mclX G c k (look ρ i)) = some r := ev
  unfold olnX at ev'
  split at ev'
  · rename_i n hm
    split at ev'
    · rename_i hn
      cases ev'
      simp only [Bool.and_eq_true, decide_eq_true_eq] at hn
      obtain ⟨w, ns, ds, g, d, e, hg, hd', er⟩ := mclX_v hm
      cases er
      have hx := C.nx hh
      subst hx
      obtain ⟨q, q1, _, q3, q2⟩ := R.behind e
      refine (pe_callB (olen_ok C hh hq hg) g1 (C.bl _ (by decide)) boot_len (pa_cons (pe_var hN (visB_ok hv) hd.1.1 hd.1.2) pa_nil (star_cons rfl)) g3 g2 (star_cons rfl) rfl).run pins s σ H Q I ?_
      refine ⟨.ref q, q1, ?_⟩
      exact ⟨F, q, ns, ds, n, rfl, R.sub, q3, q2.mono (Same.refl _) fun o z => R.base.h _ _ z, hd', hn.1, hn.2, fun F' H' x => post _ F' H' x (.int _)⟩
    · cases ev'
  · cases ev'
end
end LS

set_option Elab.async false
set_option linter.all false
set_option maxRecDepth 100000
set_option maxHeartbeats 2000000
/-! LS13: the checker of expressions, and that it is enough. -/
namespace LS
open PySem PySem.Spec PyProof.Rows L2
def notSetE : Expr → Bool
  | .Set _ _ _ => false
  | _ => true
theorem notSetE_ok {e : Expr} {env : Env} (h : notSetE e = true) (x : Value) : foldedSetIterable e env x = pure x := by
  unfold foldedSetIterable
  cases e <;> first
    | rfl
    | cases h
def ownP (N : List Str) (own : List Nat) : List (Str × Nat) := own.map fun i => ((N[i]?).getD "", i)
theorem ownP_ix (N : List Str) (own : List Nat) : (ownP N own).map (·.2) = own := by
  unfold ownP
  rw [List.map_map]
  exact List.map_id' own
def mtN : MT → Option Str
  | .split => some "split"
  | .partition => some "partition"
  | .endswith => some "endswith"
  | .join => some "join"
  | .index => some "index"
  | _ => none
/-! fit for a test -/
mutual
def tk : E → Bool
  | .ite _ _ _ => false
  | .not a => tk a
  | .and es => tks es
  | .or es => tks es
  | _ => true
def tks : Es → Bool
  | .nil => true
  | .cons e es => tk e && tks es
end
/-- around a set: sorted(set(x)), len(set(x)) -/
def b1W : B1 → Option Str
  | .sset => some "sorted"
  | .lset => some "len"
  | _ => none
def es2 : Es → Bool
  | .cons _ (.cons _ .nil) => true
  | _ => false
def mtOk (m : MT) (es : Es) (nm : Str) (as : List Expr) : Bool := !as.isEmpty && (if m = .get then decide (nm = "get") && es2 es else decide (mtN m = some nm))
mutual
def ckE (N : List Str) : E → GC → Scope → Expr → Bool
  | .var i, _, sc, e => (match asName e with
    | some x => decide (N[i]? = some x) && visB sc x && dbgOk x
    | none => false)
  | .cst c, _, _, e => (match asConst e with
    | some k => cstB c k
    | none => false)
  | .glb x c, gc, sc, e => (match asName e with
    | some y => decide (y = x) && glB sc x && decide (gc.cts.lookup x = some c)
    | none => false)
  | .fnv x, gc, sc, e => (match asName e with
    | some y => decide (y = x) && !gc.mkk x && glB sc x
    | none => false)
  | .neg a, gc, sc, e => (match asUn e with
    | some (.USub, x) => ckE N a gc sc x
    | _ => false)
  | .not a, gc, sc, e => (match asUn e with
    | some (.Not, x) => ckE N a gc sc x
    | _ => false)
  | .tup es, gc, sc, e => (match asTup e with
    | some as => ckEs N es gc sc as
    | none => false)
  | .lst es, gc, sc, e => (match asLst e with
    | some as => ckEs N es gc sc as
    | none => false)
  | .dnt, _, _, e => isDict0 e
  | .dnk, _, _, e => isDict0 e
  | .bin o a b, gc, sc, e => (match asBin e with
    | some (x, op, y) => decide (op = boOp o) && ckE N a gc sc x && ckE N b gc sc y
    | none => false)
  | .cmp o a b, gc, sc, e => (match asCmp e with
    | some (x, op, y) => decide (op = coOp o) && !behindInMarks (coOp o) y && ckE N a gc sc x && ckE N b gc sc y
    | none => false)
  | .chain o1 o2 a b c, gc, sc, e => (match asCmp2 e with
    | some (x, op, y, op2, z) => decide (op = coOp o1) && decide (op2 = coOp o2) && !lastMarks [coOp o1, coOp o2] [y, z] && ckE N a gc sc x && ckE N b gc sc y && ckE N c gc sc z
    | none => false)
  | .and es, gc, sc, e => (match asBool e with
    | some (.And, as) => ckEs N es gc sc as
    | _ => false)
  | .or es, gc, sc, e => (match asBool e with
    | some (.Or, as) => ckEs N es gc sc as
    | _ => false)
  | .ite t a b, gc, sc, e => (match asIf e with
    | some (x, y, z) => tk t && ckE N t gc sc x && ckE N a gc sc y && ckE N b gc sc z
    | none => false)
  | .ix a b, gc, sc, e => (match asSub e with
    | some (x, y) => notSl y && ckE N a gc sc x && ckE N b gc sc y
    | none => false)
  | .sl a lo hi, gc, sc, e => (match asSub e with
    | some (x, y) => (match asSlice y with
      | some (l, h) => ckE N a gc sc x && ckO N lo gc sc l && ckO N hi gc sc h
      | none => false)
    | none => false)
  | .fn f es, gc, sc, e => (match asCall e with
    | some (g, as) => (match asName g with
      | some x => decide (x = f) && glB sc f && !gc.mkk f && !gc.hot && ckEs N es gc sc as
      | none => false)
    | none => false)
  | .fnx g es, gc, sc, e => (match asCall e with
    | some (fe, as) => isSub fe && !as.isEmpty && !gc.hot && ckE N g gc sc fe && ckEs N es gc sc as
    | none => false)
  | .b1 o a, gc, sc, e => (match asCall e with
    | some (g, [x]) => (match asName g with
      | some y => (match b1W o with
        | some w => (match asCall x with
          | some (g2, [z]) => decide (y = w) && decide (asName g2 = some "set") && glB sc w && glB sc "set" && notSt z && !gc.hot && ckE N a gc sc z
          | _ => false)
        | none => if o = .sorted then decide (y = "sorted") && glB sc "sorted" && notSt x && !gc.hot && ckE N a gc sc x else decide (b1N o = some y) && glB sc y && notSt x && (!b1C o || !gc.hot) && ckE N a gc sc x)
      | none => false)
    | _ => false)
  | .b2 o a b, gc, sc, e => (match asCall e with
    | some (g, [x, y]) => (match asName g with
      | some z => decide (b2N o = some z) && glB sc z && notSt x && notSt y && !gc.hot && ckE N a gc sc x && ckE N b gc sc y
      | none => false)
    | some (g, [v]) => (match asCall v with
      | some (g2, [x, y]) => decide (o = .lrange) && decide (asName g = some "list") && decide (asName g2 = some "range") && glB sc "list" && glB sc "range" && notSt x && notSt y && !gc.hot && ckE N a gc sc x && ckE N b gc sc y
      | _ => false)
    | _ => false)
  | .isi a t, gc, sc, e => (match asCall e with
    | some (g, [x, y]) => (match asName g with
      | some z => (match asName y with
        | some u => decide (z = "isinstance") && decide (u = Str.ofString t) && isiT t && glB sc "isinstance" && glB sc (Str.ofString t) && notSt x && ckE N a gc sc x
        | none => false)
      | none => false)
    | _ => false)
  | .ise i c, gc, sc, e => (match asCall e with
    | some (g, [x, y]) => (match asName x with
      | some z => (match asName y with
        | some u => decide (asName g = some "isinstance") && decide (u = c) && gc.hot && gc.ein.contains c && decide (N[i]? = some z) && visB sc z && dbgOk z && glB sc "isinstance" && glB sc c
        | none => false)
      | none => false)
    | _ => false)
  | .mth m a es, gc, sc, e => (match asMeth e with
    | some (x, nm, as) => mtOk m es nm as && notC0 x && as.all notSt && Nat.blt as.length 20 && ckE N a gc sc x && ckEs N es gc sc as
    | _ => false)
  | .lc elt tg it c own, gc, sc, e => (match asComp e with
    | some (x, tgE, itE, ifs, scp) => !gc.hot && notSetE itE && blkC N sc scp (ownP N own) && (tgIx tg).all (fun i => own.contains i) && ckG (gcB gc scp) N (relS scp sc) tg tgE && ckI N it gc sc tgE itE &&
        ckC N c (gcB gc scp) (relS scp sc) ifs && ckE N elt (gcB gc scp) (relS scp sc) x
    | none => false)
  | .lc2 elt tg it tg1 it1 own own1, gc, sc, e => (match asComp2 e with
    | some (x, tgE, itE, tgE1, itE1, scp) => !gc.hot && notSetE itE && notSetE itE1 && blkC N sc scp (ownP N own) && (tgIx tg).all (fun i => own.contains i) && (tgIx tg1).all (fun i => own1.contains i) && own1.all (fun i => own.contains i) &&
        ckG (gcB gc scp) N (relS scp sc) tg tgE && ckG (gcB gc scp) N (relS scp sc) tg1 tgE1 && ckI N it gc sc tgE itE && ckI N it1 (gcB gc scp) (relS scp sc) tgE1 itE1 && ckE N elt (gcB gc scp) (relS scp sc) x
    | none => false)
  | .fld i c x, gc, sc, e => (match e with
    | .Attribute (.Name y _) f _ => decide (f = x) && decide (N[i]? = some y) && visB sc y && dbgOk y && (match gc.cls.lookup c with
      | some fs => fs.contains x
      | none => false)
    | _ => false)
  | .mcl i c m k, gc, sc, e => (match asMeth e with
    | some (.Name y _, f, []) => decide (f = m) && !gc.hot && decide (N[i]? = some y) && visB sc y && dbgOk y && gc.mth.contains (k, c, m)
    | _ => false)
  | .oln i c k, gc, sc, e => (match asCall e with
    | some (g, [.Name y _]) => decide (asName g = some "len") && !gc.hot && glB sc "len" && decide (N[i]? = some y) && visB sc y && dbgOk y && gc.mth.contains (k, c, "__len__")
    | _ => false)
def ckEs (N : List Str) : Es → GC → Scope → List Expr → Bool
  | .nil, _, _, [] => true
  | .cons e es, gc, sc, a :: as => notSt a && ckE N e gc sc a && ckEs N es gc sc as
  | _, _, _, _ => false
def ckO (N : List Str) : OE → GC → Scope → Option Expr → Bool
  | .no, _, _, none => true
  | .so e, gc, sc, some x => ckE N e gc sc x
  | _, _, _, _ => false
def ckC (N : List Str) : OE → GC → Scope → List Expr → Bool
  | .no, _, _, [] => true
  | .so e, gc, sc, [x] => tk e && ckE N e gc sc x
  | _, _, _, _ => false
def ckI (N : List Str) : It → GC → Scope → Expr → Expr → Bool
  | .seq a, gc, sc, _, e => ckE N a gc sc e
  | .rng a, gc, sc, _, e => (match asCall e with
    | some (g, [x]) => decide (asName g = some "range") && glB sc "range" && notSt x && ckE N a gc sc x
    | _ => false)
  | .rng2 a b, gc, sc, _, e => (match asCall e with
    | some (g, [x, y]) => decide (asName g = some "range") && glB sc "range" && notSt x && notSt y && ckE N a gc sc x && ckE N b gc sc y
    | _ => false)
  | .enum a, gc, sc, tg, e => (match asCall e with
    | some (g, [x]) => (asTup tg).isSome && decide (asName g = some "enumerate") && glB sc "enumerate" && notSt x && ckE N a gc sc x
    | _ => false)
  | .zip es, gc, sc, tg, e => (match asCall e with
    | some (g, [x, y]) => (asTup tg).isSome && decide (asName g = some "zip") && glB sc "zip" && notSt x && notSt y && ckEs N es gc sc [x, y]
    | _ => false)
  | .zip3 es, gc, sc, tg, e => (match asCall e with
    | some (g, [x, y, z]) => (asTup tg).isSome && decide (asName g = some "zip") && glB sc "zip" && notSt x && notSt y && notSt z && ckEs N es gc sc [x, y, z]
    | _ => false)
end
structure OkEs (X : Cx) (xc : V → Str → Prop) (W : WX) (G : Fns) (es : Es) (as : List Expr) : Prop where
  pa : PA X as (tL X xc W G es)
  st : as.all notSt = true
  nl : as = [] → es = .nil
  an : ∀ pos, PE X (.BoolOp .And as pos) (tA X xc W G es)
  or : ∀ pos, PE X (.BoolOp .Or as pos) (tO X xc W G es)
  ant : tks es = true → ∀ pos, PW X (.BoolOp .And as pos) (tAT X xc W G es)
  ort : tks es = true → ∀ pos, PW X (.BoolOp .Or as pos) (tOT X xc W G es)
  ps : PA X as (tPs X xc G es)
  g1 : ∀ b, es = .cons b .nil → ∃ y, as = [y] ∧ PE X y (tE X xc W G b)
  g2 : ∀ b c, es = .cons b (.cons c .nil) → ∃ y z, as = [y, z] ∧ PE X y (tE X xc W G b) ∧ PE X z (tE X xc W G c)
structure OkE (X : Cx) (xc : V → Str → Prop) (W : WX) (G : Fns) (e : E) (a : Expr) : Prop where
  pe : PE X a (tE X xc W G e)
  pt : tk e = true → PT X a (tT X xc W G e)
theorem OkE.val {X : Cx} {xc : V → Str → Prop} {W : WX} {G : Fns} {e : E} {a : Expr} (h : PE X a (tE X xc W G e)) (hp : ptPlain a = true) : OkE X xc W G e a := ⟨h, fun _ => t_val h hp⟩
theorem ins_ok {X : Cx} {tg : Tg} {own : List Nat} (h : (tgIx tg).all (fun i => own.contains i) = true) : ∀ i ∈ tgIx tg, i ∈ own := fun i hi => by
  have := List.all_eq_true.mp h i hi
  simpa using this
theorem okEs_nil {X : Cx} {xc : V → Str → Prop} {W : WX} {G : Fns} : OkEs X xc W G .nil [] :=
  ⟨l_nil, rfl, fun _ => rfl, fun pos => ⟨fun _ _ _ _ _ _ ⟨_, _, _, _, _, ev, _⟩ => nomatch ev⟩, fun pos => ⟨fun _ _ _ _ _ _ ⟨_, _, _, _, _, ev, _⟩ => nomatch ev⟩,
    fun _ pos => ⟨fun _ _ _ _ _ _ _ ⟨_, _, _, _, _, ev, _⟩ => nomatch ev⟩, fun _ pos => ⟨fun _ _ _ _ _ _ _ ⟨_, _, _, _, _, ev, _⟩ => nomatch ev⟩, p_nil, fun _ h => (nomatch h), fun _ _ h => (nomatch h)⟩
theorem okEs_cons {X : Cx} {xc : V → Str → Prop} {W : WX} {G : Fns} {e : E} {es : Es} {a : Expr} {as : List Expr} (hn : notSt a = true) (h : OkE X xc W G e a) (t : OkEs X xc W G es as) (hl : es = .nil → as = []) : OkEs X xc W G (.cons e es) (a :: as) := by
  refine ⟨l_cons h.pe t.pa hn, by rw [List.all_cons, hn, t.st]; rfl, (fun z => nomatch z), fun pos => ?_, fun pos => ?_, fun hk pos => ?_, fun hk pos => ?_, p_cons h.pe t.ps hn, fun b hb => ?_, fun b c hb => ?_⟩
  · cases es with
    | nil => rw [hl rfl]; exact a_one h.pe
    | cons b es' =>
      cases as with
      | nil => cases t.nl rfl
      | cons f rest => exact a_cons h.pe (t.an pos)
  · cases es with
    | nil => rw [hl rfl]; exact o_one h.pe
    | cons b es' =>
      cases as with
      | nil => cases t.nl rfl
      | cons f rest => exact o_cons h.pe (t.or pos)
  · simp only [tks, Bool.and_eq_true] at hk
    cases es with
    | nil => rw [hl rfl]; exact at_one (h.pt hk.1)
    | cons b es' =>
      cases as with
      | nil => cases t.nl rfl
      | cons f rest => exact at_cons (h.pt hk.1) (t.ant hk.2 pos)
  · simp only [tks, Bool.and_eq_true] at hk
    cases es with
    | nil => rw [hl rfl]; exact ot_one (h.pt hk.1)
    | cons b es' =>
      cases as with
      | nil => cases t.nl rfl
      | cons f rest => exact ot_cons (h.pt hk.1) (t.ort hk.2 pos)
  · cases hb
    exact ⟨a, by rw [hl rfl], h.pe⟩
  · cases hb
    obtain ⟨y, rfl, q⟩ := t.g1 c rfl
    exact ⟨a, y, rfl, h.pe, q⟩
theorem smN {m : MT} {nm : Str} (h : mtN m = some nm) : ((m = .split ∧ nm = "split") ∨ (m = .partition ∧ nm = "partition") ∨ (m = .endswith ∧ nm = "endswith") ∨ (m = .join ∧ nm = "join")) ∨ (m = .index ∧ nm = "index") := by
  cases m with
  | split => cases h; exact .inl (.inl ⟨rfl, rfl⟩)
  | partition => cases h; exact .inl (.inr (.inl ⟨rfl, rfl⟩))
  | endswith => cases h; exact .inl (.inr (.inr (.inl ⟨rfl, rfl⟩)))
  | join => cases h; exact .inl (.inr (.inr (.inr ⟨rfl, rfl⟩)))
  | index => cases h; exact .inr ⟨rfl, rfl⟩
  | _ => cases h
mutual
theorem sE : ∀ (e : E) {gc : GC} {G : Fns} {X : Cx} {xc : V → Str → Prop} {W : WX} (C : Ctx gc G X xc W) {a : Expr}, ckE X.N e gc X.env.scope a = true → OkE X xc W G e a
  | .var i, gc, G, X, xc, W, C, a, h => by
    simp only [ckE] at h
    split at h
    · rename_i x hx
      obtain ⟨p, rfl⟩ := asName_ok hx
      simp only [Bool.and_eq_true, decide_eq_true_eq] at h
      exact .val (e_var h.1.1 h.1.2 h.2) rfl
    · cases h
  | .cst c, gc, G, X, xc, W, C, a, h => by
    simp only [ckE] at h
    split at h
    · rename_i x hx
      obtain ⟨j, p, rfl⟩ := asConst_ok hx
      exact .val (e_cst h) rfl
    · cases h
  | .glb x c, gc, G, X, xc, W, C, a, h => by
    simp only [ckE] at h
    split at h
    · rename_i y hy
      obtain ⟨p, rfl⟩ := asName_ok hy
      simp only [Bool.and_eq_true, decide_eq_true_eq] at h
      obtain ⟨⟨rfl, h2⟩, h3⟩ := h
      exact .val (e_glb C h2 h3) rfl
    · cases h
  | .fnv x, gc, G, X, xc, W, C, a, h => by
    simp only [ckE] at h
    split at h
    · rename_i y hy
      obtain ⟨p, rfl⟩ := asName_ok hy
      simp only [Bool.and_eq_true, Bool.not_eq_true', decide_eq_true_eq] at h
      obtain ⟨⟨rfl, hm⟩, h2⟩ := h
      exact .val (e_fnv C hm h2) rfl
    · cases h
  | .neg b, gc, G, X, xc, W, C, a, h => by
    simp only [ckE] at h
    split at h
    · rename_i x hx
      obtain ⟨p, rfl⟩ := asUn_ok hx
      exact .val (e_neg (sE b C h).pe) rfl
    · cases h
  | .not b, gc, G, X, xc, W, C, a, h => by
    simp only [ckE] at h
    split at h
    · rename_i x hx
      obtain ⟨p, rfl⟩ := asUn_ok hx
      have ih := sE b C h
      exact ⟨e_not ih.pe, fun hk => t_not (ih.pt (by simpa [tk] using hk))⟩
    · cases h
  | .tup es, gc, G, X, xc, W, C, a, h => by
    simp only [ckE] at h
    split at h
    · rename_i x hx
      obtain ⟨k, p, rfl⟩ := asTup_ok hx
      exact .val (e_tup (sEs es C h).1.pa) rfl
    · cases h
  | .lst es, gc, G, X, xc, W, C, a, h => by
    simp only [ckE] at h
    split at h
    · rename_i x hx
      obtain ⟨p, rfl⟩ := asLst_ok hx
      exact .val (e_lst (sEs es C h).1.pa) rfl
    · cases h
  | .dnt, gc, G, X, xc, W, C, a, h => by
    simp only [ckE] at h
    obtain ⟨p, rfl⟩ := isDict0_ok h
    exact .val e_dnt rfl
  | .dnk, gc, G, X, xc, W, C, a, h => by
    simp only [ckE] at h
    obtain ⟨p, rfl⟩ := isDict0_ok h
    exact .val e_dnk rfl
  | .bin o b c, gc, G, X, xc, W, C, a, h => by
    simp only [ckE] at h
    split at h
    · rename_i x op y hx
      obtain ⟨p, rfl⟩ := asBin_ok hx
      simp only [Bool.and_eq_true, decide_eq_true_eq] at h
      obtain ⟨⟨rfl, h1⟩, h2⟩ := h
      exact .val (e_bin (sE b C h1).pe (sE c C h2).pe) rfl
    · cases h
  | .cmp o b c, gc, G, X, xc, W, C, a, h => by
    simp only [ckE] at h
    split at h
    · rename_i x op y hx
      obtain ⟨p, rfl⟩ := asCmp_ok hx
      simp only [Bool.and_eq_true, decide_eq_true_eq, Bool.not_eq_true'] at h
      obtain ⟨⟨⟨rfl, h0⟩, h1⟩, h2⟩ := h
      exact ⟨e_cmp C (sE b C h1).pe (sE c C h2).pe h0, fun _ => t_cmp C (sE b C h1).pe (sE c C h2).pe h0⟩
    · cases h
  | .chain o1 o2 b c d, gc, G, X, xc, W, C, a, h => by
    simp only [ckE] at h
    split at h
    · rename_i x op y op2 z hx
      obtain ⟨p, rfl⟩ := asCmp2_ok hx
      simp only [Bool.and_eq_true, decide_eq_true_eq, Bool.not_eq_true'] at h
      obtain ⟨⟨⟨⟨⟨rfl, rfl⟩, h0⟩, h1⟩, h2⟩, h3⟩ := h
      exact ⟨e_chain C (sE b C h1).pe (sE c C h2).pe (sE d C h3).pe h0, fun _ => t_chain C (sE b C h1).pe (sE c C h2).pe (sE d C h3).pe h0⟩
    · cases h
  | .and es, gc, G, X, xc, W, C, a, h => by
    simp only [ckE] at h
    split at h
    · rename_i x hx
      obtain ⟨p, rfl⟩ := asBool_ok hx
      have ih := (sEs es C h).1
      exact ⟨ih.an p, fun hk => (ih.ant (by simpa [tk] using hk) p).pt⟩
    · cases h
  | .or es, gc, G, X, xc, W, C, a, h => by
    simp only [ckE] at h
    split at h
    · rename_i x hx
      obtain ⟨p, rfl⟩ := asBool_ok hx
      have ih := (sEs es C h).1
      exact ⟨ih.or p, fun hk => (ih.ort (by simpa [tk] using hk) p).pt⟩
    · cases h
  | .ite t b c, gc, G, X, xc, W, C, a, h => by
    simp only [ckE] at h
    split at h
    · rename_i x y z hx
      obtain ⟨p, rfl⟩ := asIf_ok hx
      simp only [Bool.and_eq_true] at h
      obtain ⟨⟨⟨h0, h1⟩, h2⟩, h3⟩ := h
      exact ⟨e_ite ((sE t C h1).pt h0) (sE b C h2).pe (sE c C h3).pe, fun hk => by simp [tk] at hk⟩
    · cases h
  | .ix b c, gc, G, X, xc, W, C, a, h => by
    simp only [ckE] at h
    split at h
    · rename_i x y hx
      obtain ⟨p, rfl⟩ := asSub_ok hx
      simp only [Bool.and_eq_true] at h
      exact .val (e_ix C (sE b C h.1.2).pe (sE c C h.2).pe h.1.1) rfl
    · cases h
  | .sl b lo hi, gc, G, X, xc, W, C, a, h => by
    simp only [ckE] at h
    split at h
    · rename_i x y hx
      obtain ⟨p, rfl⟩ := asSub_ok hx
      split at h
      · rename_i l u hy
        obtain ⟨p2, rfl⟩ := asSlice_ok hy
        simp only [Bool.and_eq_true] at h
        exact .val (e_sl (sE b C h.1.1).pe (sO lo C h.1.2) (sO hi C h.2)) rfl
      · cases h
    · cases h
  | .fn f es, gc, G, X, xc, W, C, a, h => by
    simp only [ckE] at h
    split at h
    · rename_i g as hx
      obtain ⟨p, rfl⟩ := asCall_ok hx
      split at h
      · rename_i x hg
        obtain ⟨p2, rfl⟩ := asName_ok hg
        simp only [Bool.and_eq_true, decide_eq_true_eq, Bool.not_eq_true'] at h
        obtain ⟨⟨⟨⟨rfl, h1⟩, hm⟩, h2⟩, h3⟩ := h
        have ih := (sEs es C h3).1
        exact .val (e_fn C h2 hm h1 ih.pa ih.st ih.nl) rfl
      · cases h
    · cases h
  | .fnx g es, gc, G, X, xc, W, C, a, h => by
    simp only [ckE] at h
    split at h
    · rename_i fe as hx
      obtain ⟨p, rfl⟩ := asCall_ok hx
      simp only [Bool.and_eq_true, Bool.not_eq_true'] at h
      obtain ⟨⟨⟨⟨h1, h2⟩, h3⟩, h4⟩, h5⟩ := h
      have ih := (sEs es C h5).1
      cases as with
      | nil => cases h2
      | cons y as => exact .val (e_fnx C h3 h1 (sE g C h4).pe ih.pa ih.st) rfl
    · cases h
  | .b1 o b, gc, G, X, xc, W, C, a, h => by
    simp only [ckE] at h
    split at h
    · rename_i g x hx
      obtain ⟨p, rfl⟩ := asCall_ok hx
      split at h
      · rename_i y hg
        obtain ⟨p2, rfl⟩ := asName_ok hg
        split at h
        · rename_i w hw
          split at h
          · rename_i g2 z hz
            obtain ⟨p3, rfl⟩ := asCall_ok hz
            simp only [Bool.and_eq_true, decide_eq_true_eq, Bool.not_eq_true'] at h
            obtain ⟨⟨⟨⟨⟨⟨rfl, h1⟩, h2⟩, h3⟩, h4⟩, h5⟩, h6⟩ := h
            obtain ⟨p4, rfl⟩ := asName_ok h1
            cases o with
            | sset => cases hw; exact .val (e_sset C h5 h2 h3 (sE b C h6).pe h4) rfl
            | lset => cases hw; exact .val (e_lset C h5 h2 h3 (sE b C h6).pe h4) rfl
            | _ => cases hw
          · cases h
        · split at h
          · rename_i ho
            subst ho
            simp only [Bool.and_eq_true, decide_eq_true_eq, Bool.not_eq_true'] at h
            obtain ⟨⟨⟨⟨rfl, h1⟩, h2⟩, h3⟩, h4⟩ := h
            exact .val (e_sorted C h3 h1 (sE b C h4).pe h2) rfl
          · simp only [Bool.and_eq_true, decide_eq_true_eq, Bool.or_eq_true, Bool.not_eq_true'] at h
            obtain ⟨⟨⟨⟨h1, h2⟩, h3⟩, h4⟩, h5⟩ := h
            refine .val (e_b1 C h1 (fun hb => ?_) h2 (sE b C h5).pe h3) rfl
            rcases h4 with h4 | h4
            · rw [hb] at h4; cases h4
            · exact h4
      · cases h
    · cases h
  | .b2 o b c, gc, G, X, xc, W, C, a, h => by
    simp only [ckE] at h
    split at h
    · rename_i g x y hx
      obtain ⟨p, rfl⟩ := asCall_ok hx
      split at h
      · rename_i z hg
        obtain ⟨p2, rfl⟩ := asName_ok hg
        simp only [Bool.and_eq_true, decide_eq_true_eq, Bool.not_eq_true'] at h
        obtain ⟨⟨⟨⟨⟨⟨h1, h2⟩, h3⟩, h4⟩, h5⟩, h6⟩, h7⟩ := h
        exact .val (e_b2 C h5 h1 h2 (sE b C h6).pe (sE c C h7).pe h3 h4) rfl
      · cases h
    · rename_i g v hx
      obtain ⟨p, rfl⟩ := asCall_ok hx
      split at h
      · rename_i g2 x y hv
        obtain ⟨p2, rfl⟩ := asCall_ok hv
        simp only [Bool.and_eq_true, decide_eq_true_eq, Bool.not_eq_true'] at h
        obtain ⟨⟨⟨⟨⟨⟨⟨⟨⟨rfl, h1⟩, h2⟩, h3⟩, h4⟩, h5⟩, h6⟩, h7⟩, h8⟩, h9⟩ := h
        obtain ⟨p3, rfl⟩ := asName_ok h1
        obtain ⟨p4, rfl⟩ := asName_ok h2
        exact .val (e_lrange C h7 h3 h4 (sE b C h8).pe (sE c C h9).pe h5 h6) rfl
      · cases h
    · cases h
  | .isi b t, gc, G, X, xc, W, C, a, h => by
    simp only [ckE] at h
    split at h
    · rename_i g x y hx
      obtain ⟨p, rfl⟩ := asCall_ok hx
      split at h
      · rename_i z hg
        obtain ⟨p2, rfl⟩ := asName_ok hg
        split at h
        · rename_i u hu
          obtain ⟨p3, rfl⟩ := asName_ok hu
          simp only [Bool.and_eq_true, decide_eq_true_eq] at h
          obtain ⟨⟨⟨⟨⟨⟨rfl, rfl⟩, h3⟩, h4⟩, h5⟩, h6⟩, h7⟩ := h
          exact .val (e_isi C h3 h4 h5 (sE b C h7).pe h6) rfl
        · cases h
      · cases h
    · cases h
  | .ise i c, gc, G, X, xc, W, C, a, h => by
    simp only [ckE] at h
    split at h
    · rename_i g x y hx
      obtain ⟨p, rfl⟩ := asCall_ok hx
      split at h
      · rename_i z hz
        obtain ⟨p2, rfl⟩ := asName_ok hz
        split at h
        · rename_i u hu
          obtain ⟨p3, rfl⟩ := asName_ok hu
          simp only [Bool.and_eq_true, decide_eq_true_eq] at h
          obtain ⟨⟨⟨⟨⟨⟨⟨⟨h1, rfl⟩, h3⟩, h4⟩, h5⟩, h6⟩, h7⟩, h8⟩, h9⟩ := h
          obtain ⟨p4, rfl⟩ := asName_ok h1
          exact .val (e_ise C h3 h5 h6 h7 h8 h9 h4) rfl
        · cases h
      · cases h
    · cases h
  | .mth m b es, gc, G, X, xc, W, C, a, h => by
    simp only [ckE] at h
    split at h
    · rename_i x nm as hx
      obtain ⟨ap, p, rfl, hl⟩ := asMeth_ok hx
      simp only [Bool.and_eq_true] at h
      obtain ⟨⟨⟨⟨⟨h1, h2⟩, h3⟩, h4⟩, h5⟩, h6⟩ := h
      have ih := (sEs es C h6).1
      unfold mtOk at h1
      simp only [Bool.and_eq_true] at h1
      obtain ⟨k1, k2⟩ := h1
      split at k2
      · rename_i hm
        subst hm
        simp only [Bool.and_eq_true, decide_eq_true_eq] at k2
        obtain ⟨rfl, k3⟩ := k2
        unfold es2 at k3
        split at k3
        · obtain ⟨y, z, rfl, q1, q2⟩ := ih.g2 _ _ rfl
          exact .val (e_get C (sE b C h5).pe q1 q2 h2 hl h3) rfl
        · cases k3
      · cases as with
        | nil => cases k1
        | cons y as =>
          simp only [decide_eq_true_eq] at k2
          rcases smN k2 with k2 | ⟨rfl, rfl⟩
          · exact .val (e_smth k2 (sE b C h5).pe ih.pa h2 hl h3 h4) rfl
          · exact .val (e_index (sE b C h5).pe ih.pa h2 hl h3 h4) rfl
    · cases h
  | .lc elt tg it c own, gc, G, X, xc, W, C, a, h => by
    simp only [ckE] at h
    split at h
    · rename_i x tgE itE ifs scp hx
      obtain ⟨p, rfl⟩ := asComp_ok hx
      simp only [Bool.and_eq_true, Bool.not_eq_true'] at h
      obtain ⟨⟨⟨⟨⟨⟨⟨h1, h2⟩, h3⟩, h4⟩, h5⟩, h6⟩, h7⟩, h8⟩ := h
      have hI := sI it C h6
      refine .val ((pe_lc (g := tG X xc tg) (tt := tC X xc G c) (te := tE X xc W0 G elt) (C.calm h1) C.nd hI (blkOk_by h3) (fun s H Cl cl fp => g_tg (C.blk h1 s H scp (compEnvC scp cl Cl X.env) fp) (C.calm h1) h5) (fun s H Cl cl fp => sC c (C.blk h1 s H scp (compEnvC scp cl Cl X.env) fp) h7)
        (fun s H Cl cl fp => (sE elt (C.blk h1 s H scp (compEnvC scp cl Cl X.env) fp) h8).pe) (notSetE_ok h2)).of fun σ H Q ⟨H0, F, ρ, r, R, ev, post⟩ => ?_) rfl
      rw [ownP_ix]
      exact lc_of R (ins_ok (X := X) h4) ev post
    · cases h
  | .lc2 elt tg it tg1 it1 own own1, gc, G, X, xc, W, C, a, h => by
    simp only [ckE] at h
    split at h
    · rename_i x tgE itE tgE1 itE1 scp hx
      obtain ⟨p, rfl⟩ := asComp2_ok hx
      simp only [Bool.and_eq_true, Bool.not_eq_true'] at h
      obtain ⟨⟨⟨⟨⟨⟨⟨⟨⟨⟨⟨h1, h2⟩, h2'⟩, h3⟩, h4⟩, h4'⟩, h4''⟩, h5⟩, h5'⟩, h6⟩, h6'⟩, h8⟩ := h
      have hI := sI it C h6
      have hoo : ∀ i ∈ own1, i ∈ own := fun i hi => by
        have := List.all_eq_true.mp h4'' i hi
        simpa using this
      refine .val ((pe_lc2 (vs1 := own1) (g := tG X xc tg) (tt := tC X xc G .no) (wi1 := tI X xc G it1) (g1 := tG X xc tg1) (tt1 := tC X xc G .no) (te := tE X xc W0 G elt) (C.calm h1) C.nd hI (blkOk_by h3) (by rw [ownP_ix]; exact hoo) (fun s H Cl cl fp => g_tg (C.blk h1 s H scp (compEnvC scp cl Cl X.env) fp) (C.calm h1) h5) (fun s H Cl cl fp => c_no)
        (fun s H Cl cl fp => sI it1 (C.blk h1 s H scp (compEnvC scp cl Cl X.env) fp) h6') (fun s H Cl cl fp => g_tg (C.blk h1 s H scp (compEnvC scp cl Cl X.env) fp) (C.calm h1) h5') (fun s H Cl cl fp => c_no)
        (fun s H Cl cl fp => (sE elt (C.blk h1 s H scp (compEnvC scp cl Cl X.env) fp) h8).pe) (notSetE_ok h2) (fun env x => notSetE_ok h2' x)).of fun σ H Q ⟨H0, F, ρ, r, R, ev, post⟩ => ?_) rfl
      rw [ownP_ix]
      exact lc2_of R (ins_ok (X := X) h4) (ins_ok (X := X) h4') hoo ev post
    · cases h
  | .fld i c x, gc, G, X, xc, W, C, a, h => by
    simp only [ckE] at h
    split at h
    · rename_i y p f q
      simp only [Bool.and_eq_true, decide_eq_true_eq] at h
      obtain ⟨⟨⟨⟨rfl, h1⟩, h2⟩, h3⟩, h4⟩ := h
      split at h4
      · rename_i fs hc
        exact .val (e_fld C h1 h2 h3 hc h4) rfl
      · cases h4
    · cases h
  | .mcl i c m k, gc, G, X, xc, W, C, a, h => by
    simp only [ckE] at h
    split at h
    · rename_i y p f hx
      obtain ⟨ap, pos, rfl, hl⟩ := asMeth_ok hx
      simp only [Bool.and_eq_true, decide_eq_true_eq, Bool.not_eq_true'] at h
      obtain ⟨⟨⟨⟨⟨rfl, h1⟩, h2⟩, h3⟩, h4⟩, h5⟩ := h
      exact .val (e_mcl C h1 h2 h3 h4 h5 hl) rfl
    · cases h
  | .oln i c k, gc, G, X, xc, W, C, a, h => by
    simp only [ckE] at h
    split at h
    · rename_i g y p hx
      obtain ⟨pos, rfl⟩ := asCall_ok hx
      simp only [Bool.and_eq_true, decide_eq_true_eq, Bool.not_eq_true'] at h
      obtain ⟨⟨⟨⟨⟨⟨h0, h1⟩, h2⟩, h3⟩, h4⟩, h5⟩, h6⟩ := h
      obtain ⟨p2, rfl⟩ := asName_ok h0
      exact .val (e_oln C h1 h3 h4 h5 h6 h2) rfl
    · cases h
theorem sEs : ∀ (es : Es) {gc : GC} {G : Fns} {X : Cx} {xc : V → Str → Prop} {W : WX} (C : Ctx gc G X xc W) {as : List Expr}, ckEs X.N es gc X.env.scope as = true → OkEs X xc W G es as ∧ (es = .nil → as = [])
  | .nil, gc, G, X, xc, W, C, as, h => by
    cases as with
    | nil => exact ⟨okEs_nil, fun _ => rfl⟩
    | cons a as => simp [ckEs] at h
  | .cons e es, gc, G, X, xc, W, C, as, h => by
    cases as with
    | nil => simp [ckEs] at h
    | cons a as =>
      simp only [ckEs, Bool.and_eq_true] at h
      have ih := sEs es C h.2
      exact ⟨okEs_cons h.1.1 (sE e C h.1.2) ih.1 ih.2, fun z => nomatch z⟩
theorem sO : ∀ (o : OE) {gc : GC} {G : Fns} {X : Cx} {xc : V → Str → Prop} {W : WX} (C : Ctx gc G X xc W) {a : Option Expr}, ckO X.N o gc X.env.scope a = true → PO X a (tP X xc G o)
  | .no, gc, G, X, xc, W, C, a, h => by
    cases a with
    | none => exact p_no
    | some a => simp [ckO] at h
  | .so e, gc, G, X, xc, W, C, a, h => by
    cases a with
    | none => simp [ckO] at h
    | some a =>
      simp only [ckO] at h
      exact p_so (sE e C h).pe
theorem sC : ∀ (o : OE) {gc : GC} {G : Fns} {X : Cx} {xc : V → Str → Prop} {W : WX} (C : Ctx gc G X xc W) {a : List Expr}, ckC X.N o gc X.env.scope a = true → PTs X a (tC X xc G o)
  | .no, gc, G, X, xc, W, C, a, h => by
    cases a with
    | nil => exact c_no
    | cons a as => simp [ckC] at h
  | .so e, gc, G, X, xc, W, C, a, h => by
    cases a with
    | nil => simp [ckC] at h
    | cons a as =>
      cases as with
      | cons b as => simp [ckC] at h
      | nil =>
        simp only [ckC, Bool.and_eq_true] at h
        exact c_so ((sE e C h.2).pt h.1)
theorem sI : ∀ (it : It) {gc : GC} {G : Fns} {X : Cx} {xc : V → Str → Prop} {W : WX} (C : Ctx gc G X xc W) {tg a : Expr}, ckI X.N it gc X.env.scope tg a = true → PI X tg a (tI X xc G it)
  | .seq e, gc, G, X, xc, W, C, tg, a, h => by
    simp only [ckI] at h
    exact i_seq (sE e C h).pe
  | .rng b, gc, G, X, xc, W, C, tg, a, h => by
    simp only [ckI] at h
    split at h
    · rename_i g x hx
      obtain ⟨p, rfl⟩ := asCall_ok hx
      simp only [Bool.and_eq_true, decide_eq_true_eq] at h
      obtain ⟨⟨⟨h1, h2⟩, h3⟩, h4⟩ := h
      obtain ⟨p2, rfl⟩ := asName_ok h1
      exact i_rng C h2 (sE b C h4).pe h3
    · cases h
  | .rng2 b c, gc, G, X, xc, W, C, tg, a, h => by
    simp only [ckI] at h
    split at h
    · rename_i g x y hx
      obtain ⟨p, rfl⟩ := asCall_ok hx
      simp only [Bool.and_eq_true, decide_eq_true_eq] at h
      obtain ⟨⟨⟨⟨⟨h1, h2⟩, h3⟩, h4⟩, h5⟩, h6⟩ := h
      obtain ⟨p2, rfl⟩ := asName_ok h1
      exact i_rng2 C h2 (sE b C h5).pe (sE c C h6).pe h3 h4
    · cases h
  | .enum b, gc, G, X, xc, W, C, tg, a, h => by
    simp only [ckI] at h
    split at h
    · rename_i g x hx
      obtain ⟨p, rfl⟩ := asCall_ok hx
      simp only [Bool.and_eq_true, decide_eq_true_eq] at h
      obtain ⟨⟨⟨⟨h0, h1⟩, h2⟩, h3⟩, h4⟩ := h
      obtain ⟨p2, rfl⟩ := asName_ok h1
      obtain ⟨es, he⟩ := Option.isSome_iff_exists.mp h0
      obtain ⟨k, p3, rfl⟩ := asTup_ok he
      exact i_enum C h2 (sE b C h4).pe h3
    · cases h
  | .zip es, gc, G, X, xc, W, C, tg, a, h => by
    simp only [ckI] at h
    split at h
    · rename_i g x y hx
      obtain ⟨p, rfl⟩ := asCall_ok hx
      simp only [Bool.and_eq_true, decide_eq_true_eq] at h
      obtain ⟨⟨⟨⟨⟨h0, h1⟩, h2⟩, h3⟩, h4⟩, h5⟩ := h
      obtain ⟨p2, rfl⟩ := asName_ok h1
      obtain ⟨es', he⟩ := Option.isSome_iff_exists.mp h0
      obtain ⟨k, p3, rfl⟩ := asTup_ok he
      exact i_zip C h2 (sEs es C h5).1.pa h3 h4
    · cases h
  | .zip3 es, gc, G, X, xc, W, C, tg, a, h => by
    simp only [ckI] at h
    split at h
    · rename_i g x y z hx
      obtain ⟨p, rfl⟩ := asCall_ok hx
      simp only [Bool.and_eq_true, decide_eq_true_eq] at h
      obtain ⟨⟨⟨⟨⟨⟨h0, h1⟩, h2⟩, h3⟩, h4⟩, h4'⟩, h5⟩ := h
      obtain ⟨p2, rfl⟩ := asName_ok h1
      obtain ⟨es', he⟩ := Option.isSome_iff_exists.mp h0
      obtain ⟨k, p3, rfl⟩ := asTup_ok he
      exact i_zip3 C h2 (sEs es C h5).1.pa h3 h4 h4'
    · cases h
end
end LS

set_option Elab.async false
set_option linter.all false
set_option maxRecDepth 100000
set_option maxHeartbeats 1000000
/-! LS14: statements, each construct. -/
namespace LS
open PySem PySem.Spec PyProof.Rows L2
def PostS (X : Cx) (xc : V → Str → Prop) (W : WX) (H0 : Hp × Hp) (F : Hp) (D : Ends) : So → Prop
  | .nx ρ' => ∀ F' σ' H', Same F F' → Rel X.K X.mg xc H0 F' ρ' σ' H' → D.nx σ' H'
  | .rt d => ∀ v F' H', Ext H0.1 H0.2 F' H' → Rep X.K X.mg xc F' v d → D.rt v H'
  | .ex c ρ' => ∀ C F' σ' H', X.mg c = some (.ref C) → Rel X.K X.mg xc H0 F' ρ' σ' H' → W (.ref C) none σ' H'
def tS (X : Cx) (xc : V → Str → Prop) (W : WX) (G : Fns) (s : S) : TS := fun D σ H => ∃ H0 F ρ r, Rel X.K X.mg xc H0 F ρ σ H ∧ evS G s ρ = some r ∧ PostS X xc W H0 F D r
def tSs (X : Cx) (xc : V → Str → Prop) (W : WX) (G : Fns) (s : Ss) : TS := fun D σ H => ∃ H0 F ρ r, Rel X.K X.mg xc H0 F ρ σ H ∧ evSs G s ρ = some r ∧ PostS X xc W H0 F D r
section
variable {X : Cx} {xc : V → Str → Prop} {W : WX} {G : Fns} {gc : GC} {H0 : Hp × Hp} {F H : Hp} {ρ : En} {σ : L2.St} {Q : VK} {r : So}
theorem _root_.L2.PS.of {e : Stmt} {t t' : TS} (h : PS X e t) (i : ∀ D σ H, t' D σ H → t D σ H) : PS X e t' := ⟨fun pins s σ H D I w => h.run pins s σ H D I (i _ _ _ w)⟩
theorem _root_.L2.PSs.of {e : List Stmt} {t t' : TS} (h : PSs X e t) (i : ∀ D σ H, t' D σ H → t D σ H) : PSs X e t' := ⟨fun pins s σ H D I w => h.run pins s σ H D I (i _ _ _ w)⟩
theorem s_set (C : Ctx gc G X xc W) {i : Nat} {e : E} {st : Stmt} (hps : PS X st (tAsg (tE X xc W G e) (gName i))) : PS X st (tS X xc W G (.set i e)) := hps.of fun D σ H ⟨H0, F, ρ, r, R, ev, post⟩ => by
  have ev' : (match evE G e ρ with
    | some (.v m d) => (match stv m d with
      | some s => some (.nx (ρ.set i s))
      | none => none)
    | some (.x c) => some (.ex c ρ)
    | none => none) = some r := ev
  cases he : evE G e ρ with
  | none => rw [he] at ev'; cases ev'
  | some q =>
    rw [he] at ev'
    refine ⟨H0, F, ρ, q, R, he, ?_⟩
    cases q with
    | x c =>
      cases ev'
      exact fun C' F' H' hc x => post C' F' σ H' hc (R.ext x)
    | v m d =>
      intro v F' H' x ok
      dsimp only at ev'
      cases hs : stv m d with
      | none => rw [hs] at ev'; cases ev'
      | some s =>
        rw [hs] at ev'
        cases ev'
        have R' := R.ext x
        exact post F' _ H' x.f (R'.setS (stv_ok hs ok) (fun j dj q h1 h2 => R.ownIn j dj q h1 h2) R.base.h)
theorem s_ret (C : Ctx gc G X xc W) {e : E} {a : Expr} {pos : Pos} (ha : PE X a (tE X xc W G e)) : PS X (.Return (some a) pos) (tS X xc W G (.ret e)) := (ps_ret ha).of fun D σ H ⟨H0, F, ρ, r, R, ev, post⟩ => by
  have ev' : (match evE G e ρ with
    | some (.v .cl d) => some (.rt d)
    | some (.v .fr d) => some (.rt d)
    | some (.v .raw _) => none
    | some (.x c) => some (.ex c ρ)
    | none => none) = some r := ev
  cases he : evE G e ρ with
  | none => rw [he] at ev'; cases ev'
  | some q =>
    rw [he] at ev'
    refine ⟨H0, F, ρ, q, R, he, ?_⟩
    cases q with
    | x c =>
      cases ev'
      exact fun C' F' H' hc x => post C' F' σ H' hc (R.ext x)
    | v m d =>
      intro v F' H' x ok
      have key : m ≠ .raw → r = .rt d → D.rt v H' := fun hm hr => by
        subst hr
        obtain ⟨F2, x2, _, rep⟩ := ok.clean x hm
        exact post v F2 H' (R.base.trans x2) rep
      cases m with
      | raw => cases ev'
      | cl => cases ev'; exact key (fun h => nomatch h) rfl
      | fr => cases ev'; exact key (fun h => nomatch h) rfl
theorem s_exp (C : Ctx gc G X xc W) {e : E} {a : Expr} {pos : Pos} (ha : PE X a (tE X xc W G e)) (hs : swapsWith a none pos.line X.env = pure false) : PS X (.Expr a pos) (tS X xc W G (.exp e)) := (ps_expr ha hs).of fun D σ H ⟨H0, F, ρ, r, R, ev, post⟩ => by
  have ev' : (match evE G e ρ with
    | some (.v _ _) => some (.nx ρ)
    | some (.x c) => some (.ex c ρ)
    | none => none) = some r := ev
  cases he : evE G e ρ with
  | none => rw [he] at ev'; cases ev'
  | some q =>
    rw [he] at ev'
    refine ⟨H0, F, ρ, q, R, he, ?_⟩
    cases q with
    | x c =>
      cases ev'
      exact fun C' F' H' hc x => post C' F' σ H' hc (R.ext x)
    | v m d =>
      cases ev'
      exact fun v F' H' x ok => post F' σ H' x.f (R.ext x)
theorem PostS.later {D : Ends} {F1 : Hp} (s : Same F F1) (p : PostS X xc W H0 F D r) : PostS X xc W H0 F1 D r := by
  cases r with
  | nx ρ' => exact fun F' σ' H' s' => p F' σ' H' (s.trans s')
  | rt d => exact p
  | ex c ρ' => exact p
theorem s_ite (C : Ctx gc G X xc W) {e : E} {a b : Ss} {c : Expr} {as bs : List Stmt} {pos : Pos} (hc : PT X c (tT X xc W G e)) (ha : PSs X as (tSs X xc W G a)) (hb : PSs X bs (tSs X xc W G b)) : PS X (.If c as bs pos) (tS X xc W G (.ite e a b)) :=
  (ps_if hc ha hb).of fun D σ H ⟨H0, F, ρ, r, R, ev, post⟩ => by
  have ev' : (match evE G e ρ with
    | some (.v _ (.bl true)) => evSs G a ρ
    | some (.v _ (.bl false)) => evSs G b ρ
    | some (.x c) => some (.ex c ρ)
    | _ => none) = some r := ev
  split at ev'
  · rename_i m he
    refine ⟨H0, F, ρ, _, R, he, fun F' H' x => ?_⟩
    show (if true = true then _ else _)
    rw [if_pos rfl]
    exact ⟨H0, F', ρ, r, R.ext x, ev', post.later x.f⟩
  · rename_i m he
    refine ⟨H0, F, ρ, _, R, he, fun F' H' x => ?_⟩
    show (if false = true then _ else _)
    rw [if_neg Bool.false_ne_true]
    exact ⟨H0, F', ρ, r, R.ext x, ev', post.later x.f⟩
  · rename_i c' he
    cases ev'
    exact ⟨H0, F, ρ, _, R, he, fun C' F' H' hc x => post C' F' σ H' hc (R.ext x)⟩
  · cases ev'
theorem s_unp (C : Ctx gc G X xc W) (hcalm : X.calm = true) {is : List Nat} {e : E} {a : Expr} {ns : List Expr} {k : Nat} {p pos : Pos} (hn : asgsB gc X.N X.env.scope is ns = true) (ha : PE X a (tE X xc W G e))
    (hs : swapsWithSole [.Tuple ns k p] a pos.line X.env = pure false) (hw : swappedStores [.Tuple ns k p] a X.env = pure none) : PS X (.Assign [.Tuple ns k p] a pos) (tS X xc W G (.unp is e)) := by
  obtain ⟨k1, k2, k3⟩ := g_names C hn
  refine (ps_asg ha (pg_tup hcalm k1 k2 k3) hs hw rfl).of fun D σ H ⟨H0, F, ρ, r, R, ev, post⟩ => ?_
  have ev' : (match evE G e ρ with
    | some (.v .cl (.tup ds)) => if is.length = ds.length then some (.nx (setAll is ds ρ)) else none
    | some (.x c) => some (.ex c ρ)
    | _ => none) = some r := ev
  split at ev'
  · rename_i ds he
    split at ev'
    · rename_i hl
      cases ev'
      refine ⟨H0, F, ρ, _, R, he, fun v F' H' x ok => ?_⟩
      have ok' : Rep X.K X.mg xc F' v (.tup ds) := ok
      cases ok' with
      | tup ea rs =>
        have e1 := rs.length
        exact ⟨_, _, rfl, .of (x.s _ _ ea), by rw [e1, hl], by rw [e1, hl], post F' _ H' x.f ((R.ext x).setAll rs hl)⟩
    · cases ev'
  · rename_i c he
    cases ev'
    exact ⟨H0, F, ρ, _, R, he, fun C' F' H' hc x => post C' F' σ H' hc (R.ext x)⟩
  · cases ev'
theorem evPar {is : List Nat} {es : Es} (ev : evS G (.par is es) ρ = some r) : ∃ ss, evPs G es ρ = some ss ∧ is.length = ss.length ∧ r = .nx (setSV is ss ρ) := by
  have ev' : (match evPs G es ρ with
    | some ss => if is.length = ss.length then some (.nx (setSV is ss ρ)) else none
    | none => none) = some r := ev
  split at ev'
  · rename_i ss hss
    split at ev'
    · rename_i hl
      cases ev'
      exact ⟨ss, hss, hl, rfl⟩
    · cases ev'
  · cases ev'
theorem s_parT (C : Ctx gc G X xc W) (hcalm : X.calm = true) {is : List Nat} {es : Es} {as ns : List Expr} {k k2 : Nat} {p p2 pos : Pos} (hn : asgsB gc X.N X.env.scope is ns = true) (hl : Nat.blt is.length 20 = true) (ha : PA X as (tPs X xc G es))
    (hs : swapsWithSole [.Tuple ns k p] (.Tuple as k2 p2) pos.line X.env = pure false) (hw : swappedStores [.Tuple ns k p] (.Tuple as k2 p2) X.env = pure none) : PS X (.Assign [.Tuple ns k p] (.Tuple as k2 p2) pos) (tS X xc W G (.par is es)) := by
  obtain ⟨k1, k2, k3⟩ := g_names C hn
  refine (ps_asg (pe_tup ha) (pg_tup hcalm k1 k2 k3) hs hw rfl).of fun D σ H ⟨H0, F, ρ, r, R, ev, post⟩ => ?_
  obtain ⟨ss, hss, hls, rfl⟩ := evPar ev
  refine ⟨H0, F, ρ, ss, R, hss, fun vs F' H' x sv => ?_⟩
  have e1 := sv.len
  have hl' : is.length < 20 := by simpa [Nat.blt_eq] using hl
  refine ⟨by rw [e1, ← hls, sizeLine_eq]; omega, fun q hq => ?_⟩
  have xn : Ext F' H' F' (L2.upd H' q (.tup vs)) := Ext.newH x.s hq
  have R' := (R.ext x).ext xn
  have R2 := R'.setL (is := is) (sv.ext xn) R.ownIn R.base.h hls
  refine ⟨q, vs, rfl, .of upd_same, by rw [e1, hls], by rw [e1, hls], post F' _ _ x.f R2⟩
theorem s_par2 (C : Ctx gc G X xc W) (hcalm : X.calm = true) {i j : Nat} {es : Es} {a b : Expr} {x y : Str} {px py pt p2 pos : Pos} {kt k2 : Nat} (hi : X.N[i]? = some x) (hj : X.N[j]? = some y) (hij : i ≠ j)
    (hx : X.env.scope.names.lookup x = some .local) (hy : X.env.scope.names.lookup y = some .local) (ha : PA X [a, b] (tPs X xc G es))
    (hw : swappedStores [.Tuple [.Name x px, .Name y py] kt pt] (.Tuple [a, b] k2 p2) X.env = pure (some [x, y])) :
    PS X (.Assign [.Tuple [.Name x px, .Name y py] kt pt] (.Tuple [a, b] k2 p2) pos) (tS X xc W G (.par [i, j] es)) := by
  refine (ps_par hcalm C.nd hi hj hij hx hy ha hw rfl).of fun D σ H ⟨H0, F, ρ, r, R, ev, post⟩ => ?_
  obtain ⟨ss, hss, hls, rfl⟩ := evPar ev
  refine ⟨H0, F, ρ, ss, R, hss, fun vs F' H' x sv => ?_⟩
  have e1 := sv.len
  have R2 := (R.ext x).setL (is := [i, j]) sv R.ownIn R.base.h hls
  match vs, e1 with
  | [v, w], _ => exact ⟨v, w, rfl, post F' _ _ x.f R2⟩
  | [], e1 => simp at e1 hls; omega
  | [_], e1 => simp at e1 hls; omega
  | _ :: _ :: _ :: _, e1 => simp at e1 hls; omega
theorem s_par3 (C : Ctx gc G X xc W) (hcalm : X.calm = true) {i j l : Nat} {es : Es} {a b c : Expr} {x y z : Str} {px py pz pt p2 pos : Pos} {kt k2 : Nat} (hi : X.N[i]? = some x) (hj : X.N[j]? = some y) (hl : X.N[l]? = some z) (hij : i ≠ j) (hil : i ≠ l) (hjl : j ≠ l)
    (hx : X.env.scope.names.lookup x = some .local) (hy : X.env.scope.names.lookup y = some .local) (hz : X.env.scope.names.lookup z = some .local) (ha : PA X [a, b, c] (tPs X xc G es))
    (hw : swappedStores [.Tuple [.Name x px, .Name y py, .Name z pz] kt pt] (.Tuple [a, b, c] k2 p2) X.env = pure (some [x, y, z])) :
    PS X (.Assign [.Tuple [.Name x px, .Name y py, .Name z pz] kt pt] (.Tuple [a, b, c] k2 p2) pos) (tS X xc W G (.par [i, j, l] es)) := by
  refine (ps_par3 hcalm C.nd hi hj hl hij hil hjl hx hy hz ha hw rfl).of fun D σ H ⟨H0, F, ρ, r, R, ev, post⟩ => ?_
  obtain ⟨ss, hss, hls, rfl⟩ := evPar ev
  refine ⟨H0, F, ρ, ss, R, hss, fun vs F' H' x sv => ?_⟩
  have e1 := sv.len
  have R2 := (R.ext x).setL (is := [i, j, l]) sv R.ownIn R.base.h hls
  match vs, e1 with
  | [u, v, w], _ => exact ⟨u, v, w, rfl, post F' _ _ x.f R2⟩
  | [], e1 => simp at e1 hls; omega
  | [_], e1 => simp at e1 hls; omega
  | [_, _], e1 => simp at e1 hls; omega
  | _ :: _ :: _ :: _ :: _, e1 => simp at e1 hls; omega
/-! lists and dicts that are written -/
theorem kt_any (ns : List Int) : ∀ {kvs : List (List Key × V)} {es : List (List Int × D)}, KTs X.K X.mg xc F kvs es → (kvs.any fun kv => decide (kv.1 = (ns.map Sum.inl : List Key))) = es.any fun kv => decide (kv.1 = ns)
  | _, _, .nil => rfl
  | _, _, .cons (ks := ks) h t => by
    simp only [List.any_cons, kt_any ns t]
    congr 1
    exact decide_eq_decide.mpr (map_inl (ks := ks) (ns := ns))
theorem kt_len : ∀ {kvs : List (List Key × V)} {es : List (List Int × D)}, KTs X.K X.mg xc F kvs es → kvs.length = es.length
  | _, _, .nil => rfl
  | _, _, .cons _ t => congrArg (· + 1) (kt_len t)
theorem kt_map (ns : List Int) {v : V} {d : D} (hv : Rep X.K X.mg xc F v d) : ∀ {kvs : List (List Key × V)} {es : List (List Int × D)}, KTs X.K X.mg xc F kvs es →
    KTs X.K X.mg xc F (kvs.map fun kv => if kv.1 = (ns.map Sum.inl : List Key) then (kv.1, v) else kv) (es.map fun kv => if kv.1 = ns then (kv.1, d) else kv)
  | _, _, .nil => .nil
  | _, _, .cons (ks := ks) h t => by
    simp only [List.map_cons]
    by_cases e : ks = ns
    · subst e
      rw [if_pos rfl, if_pos rfl]
      exact .cons hv (kt_map ks hv t)
    · rw [if_neg e, if_neg (fun z => e (map_inl.mp z))]
      exact .cons h (kt_map ns hv t)
theorem kt_app (ns : List Int) {v : V} {d : D} (hv : Rep X.K X.mg xc F v d) : ∀ {kvs : List (List Key × V)} {es : List (List Int × D)}, KTs X.K X.mg xc F kvs es → KTs X.K X.mg xc F (kvs ++ [(ns.map Sum.inl, v)]) (es ++ [(ns, d)])
  | _, _, .nil => .cons hv .nil
  | _, _, .cons h t => .cons h (kt_app ns hv t)
theorem putT_ok {kvs : List (List Key × V)} {es : List (List Int × D)} (ns : List Int) {v : V} {d : D} (h : KTs X.K X.mg xc F kvs es) (hv : Rep X.K X.mg xc F v d) : KTs X.K X.mg xc F (putK kvs (ns.map Sum.inl) v) (putT ns d es) := by
  unfold putK putT putD
  rw [kt_any ns h]
  split
  · exact kt_map ns hv h
  · exact kt_app ns hv h
theorem ki_any (n : Int) : ∀ {kvs : List (Key × V)} {es : List (Int × D)}, KIs X.K X.mg xc F kvs es → (kvs.any fun kv => decide (kv.1 = (Sum.inl n : Key))) = es.any fun kv => decide (kv.1 = n)
  | _, _, .nil => rfl
  | _, _, .cons (k := k) h t => by
    simp only [List.any_cons, ki_any n t]
    congr 1
    exact decide_eq_decide.mpr ⟨fun e => Sum.inl.inj e, fun e => by rw [e]⟩
theorem ki_len : ∀ {kvs : List (Key × V)} {es : List (Int × D)}, KIs X.K X.mg xc F kvs es → kvs.length = es.length
  | _, _, .nil => rfl
  | _, _, .cons _ t => congrArg (· + 1) (ki_len t)
theorem ki_map (n : Int) {v : V} {d : D} (hv : Rep X.K X.mg xc F v d) : ∀ {kvs : List (Key × V)} {es : List (Int × D)}, KIs X.K X.mg xc F kvs es →
    KIs X.K X.mg xc F (kvs.map fun kv => if kv.1 = (Sum.inl n : Key) then (kv.1, v) else kv) (es.map fun kv => if kv.1 = n then (kv.1, d) else kv)
  | _, _, .nil => .nil
  | _, _, .cons (k := k) h t => by
    simp only [List.map_cons]
    by_cases e : k = n
    · subst e
      rw [if_pos rfl, if_pos rfl]
      exact .cons hv (ki_map k hv t)
    · rw [if_neg e, if_neg (fun z => e (Sum.inl.inj z))]
      exact .cons h (ki_map n hv t)
theorem ki_app (n : Int) {v : V} {d : D} (hv : Rep X.K X.mg xc F v d) : ∀ {kvs : List (Key × V)} {es : List (Int × D)}, KIs X.K X.mg xc F kvs es → KIs X.K X.mg xc F (kvs ++ [(Sum.inl n, v)]) (es ++ [(n, d)])
  | _, _, .nil => .cons hv .nil
  | _, _, .cons h t => .cons h (ki_app n hv t)
theorem putI_ok {kvs : List (Key × V)} {es : List (Int × D)} (n : Int) {v : V} {d : D} (h : KIs X.K X.mg xc F kvs es) (hv : Rep X.K X.mg xc F v d) : KIs X.K X.mg xc F (putK kvs (Sum.inl n) v) (putI n d es) := by
  unfold putK putI putD
  rw [ki_any n h]
  split
  · exact ki_map n hv h
  · exact ki_app n hv h
theorem cleanE_some {o : Option Ro} {d : D} (h : cleanE o = some d) : ∃ m, o = some (.v m d) ∧ m ≠ .raw := by
  unfold cleanE at h
  split at h
  · cases h; exact ⟨.cl, rfl, fun h => nomatch h⟩
  · cases h; exact ⟨.fr, rfl, fun h => nomatch h⟩
  · cases h
theorem rdK (R : Rel X.K X.mg xc H0 F ρ σ H) {e : E} {d : D} (h : cleanE (evE G e ρ) = some d) {S : V → Hp → Prop} (hk : ∀ v F1 H1, Ext F H F1 H1 → Rep X.K X.mg xc F1 v d → S v H1) : tE X xc W G e σ H S := by
  obtain ⟨m, he, hm⟩ := cleanE_some h
  refine ⟨H0, F, ρ, _, R, he, fun v F' H' x ok => ?_⟩
  obtain ⟨F2, x2, _, rep⟩ := ok.clean x hm
  exact hk v F2 H' x2 rep
theorem evSto {i : Nat} {k e : E} (ev : evS G (.sto i k e) ρ = some r) : ∃ y d kd d', cleanE (evE G e ρ) = some y ∧ look ρ i = .ow d ∧ cleanE (evE G k ρ) = some kd ∧ stoD d kd y = some d' ∧ r = .nx (ρ.set i (.ow d')) := by
  have ev' : (match cleanE (evE G e ρ) with
    | some y => (match look ρ i with
      | .ow d => (match cleanE (evE G k ρ) with
        | some kd => (match stoD d kd y with
          | some d' => some (.nx (ρ.set i (.ow d')))
          | none => none)
        | none => none)
      | _ => none)
    | none => none) = some r := ev
  split at ev'
  · rename_i y h1
    split at ev'
    · rename_i d h2
      split at ev'
      · rename_i kd h3
        split at ev'
        · rename_i d' h4
          cases ev'
          exact ⟨y, d, kd, d', h1, h2, h3, h4, rfl⟩
        · cases ev'
      · cases ev'
    · cases ev'
  · cases ev'
theorem sw_sub {value o i : Expr} {p : Pos} {l : Nat} {env : Env} : swapsWith value (some (.Subscript o i p)) l env = pure false := by
  cases value <;> rfl
theorem sole_sub {value o i : Expr} {p : Pos} {l : Nat} {env : Env} : swapsWithSole [.Subscript o i p] value l env = pure false := by
  cases value <;> rfl
theorem stores_sub {value o i : Expr} {p : Pos} {env : Env} : swappedStores [.Subscript o i p] value env = pure none := by
  cases value <;> rfl
theorem ow_var (R : Rel X.K X.mg xc H0 F ρ σ H) {i : Nat} {d : D} (h : look ρ i = .ow d) {S : VK} (hk : ∀ p, σ[i]? = some (some (.ref p)) → F p = none → Own X.K X.mg xc F H p d → S (.ref p) H) : tVar i σ H S := by
  obtain ⟨p, h1, h2, _, h3⟩ := R.own h
  exact ⟨_, h1, hk p h1 h2 h3⟩
theorem asg_sub {o i : Expr} {p : Pos} {env : Env} (h : notSl i = true) (v : Value) : assign (.Subscript o i p) env v = (do
      let ov ← holding [v] (eval o env)
      let iv ← holding [v, ov] (eval i env)
      standAt p
      holding [v, ov, iv] (setItem ov iv v)
      release [v, ov, iv] []) := by
  cases i <;> first
    | rfl
    | cases h
theorem s_sto (C : Ctx gc G X xc W) {i : Nat} {k e : E} {x : Str} {ke ve : Expr} {p p2 pos : Pos} (hN : X.N[i]? = some x) (hv : visB X.env.scope x = true) (hd : dbgOk x = true) (hk : PE X ke (tE X xc W G k)) (he : PE X ve (tE X xc W G e)) (hs : notSl ke = true)
    : PS X (.Assign [.Subscript (.Name x p) ke p2] ve pos) (tS X xc W G (.sto i k e)) := by
  refine ⟨fun pins s σ H D I ⟨H0, F, ρ, r, R, ev, post⟩ => ?_⟩
  obtain ⟨y, d, kd, d', h1, h2, h3, h4, rfl⟩ := evSto ev
  unfold dbgOk at hd
  simp only [Bool.and_eq_true, Bool.not_eq_true'] at hd
  have pv : PE X (.Name x p) (tVar i) := pe_var hN (visB_ok hv) hd.1.1 hd.1.2
  have hu : X.A.units + 1 < cLine := Nat.lt_of_le_of_lt (by omega) C.hu
  cases d with
  | lst ds =>
    have h4' : ∃ n : Int, kd = .int n ∧ 0 ≤ n ∧ n < ds.length ∧ d' = .lst (ds.set n.toNat y) := by
      cases kd with
      | int n =>
        have h : (if decide (0 ≤ n) && decide (n < ds.length) then some (LS.D.lst (ds.set n.toNat y)) else none) = some d' := h4
        split at h
        · rename_i hc
          cases h
          simp only [Bool.and_eq_true, decide_eq_true_eq] at hc
          exact ⟨n, rfl, hc.1, hc.2, rfl⟩
        · cases h
      | _ => cases h4
    obtain ⟨n, rfl, n1, n2, rfl⟩ := h4'
    refine (ps_asg he (pg_sub pv hk set_list (asg_sub hs)) sole_sub stores_sub).run pins s σ H D I (rdK R h1 fun v F1 H1 x1 rep => ow_var (R.ext x1) h2 fun q hq fq ow => rdK (R.ext x1) h3 fun kv F2 H2 x2 krep => ?_)
    cases krep
    have R2 := (R.ext x1).ext x2
    obtain ⟨q', e1, _, _, ow2⟩ := R2.own h2
    rw [hq] at e1; cases e1
    obtain ⟨xs, hx, rs⟩ := ow2
    have hl := rs.length
    refine ⟨q, xs, n, n.toNat, rfl, rfl, hx, ?_, post F2 _ _ (x1.f.trans x2.f) (R2.upd h2 hq ⟨_, upd_same, rs.set _ (rep.mono x2.f)⟩)⟩
    unfold ixN
    rw [if_pos n1, if_pos (by omega)]
  | dct kvs =>
    have h4' : ∃ ks ns, kd = .tup ks ∧ intsD ks = some ns ∧ kvs.length < LINE ∧ d' = .dct (putT ns y kvs) := by
      cases kd with
      | tup ks =>
        have h : (match intsD ks with
          | some ns => if Nat.blt kvs.length LINE then some (LS.D.dct (putT ns y kvs)) else none
          | none => none) = some d' := h4
        split at h
        · rename_i ns hns
          split at h
          · rename_i hc
            cases h
            exact ⟨ks, ns, rfl, hns, by simpa [Nat.blt_eq] using hc, rfl⟩
          · cases h
        · cases h
      | _ => cases h4
    obtain ⟨ks, ns, rfl, hns, hl, rfl⟩ := h4'
    refine (ps_dput hu pv hk he sw_sub).run pins s σ H D I (rdK R h1 fun v F1 H1 x1 rep => ow_var (R.ext x1) h2 fun q hq fq ow => rdK (R.ext x1) h3 fun kv F2 H2 x2 krep => ?_)
    have R2 := (R.ext x1).ext x2
    obtain ⟨q', e1, _, _, ow2⟩ := R2.own h2
    rw [hq] at e1; cases e1
    obtain ⟨kv2, hx, rs⟩ := ow2
    obtain ⟨b, rfl, hb⟩ := keyT x2.s (.inl krep) hns
    refine ⟨q, _, rfl, DPut.t hx hb (by rw [kt_len rs, sizeLine_eq]; exact hl), post F2 _ _ (x1.f.trans x2.f) (R2.upd h2 hq ⟨_, upd_same, putT_ok ns rs (rep.mono x2.f)⟩)⟩
  | dck kvs =>
    have h4' : ∃ n, kd = .int n ∧ kvs.length < LINE ∧ d' = .dck (putI n y kvs) := by
      cases kd with
      | int n =>
        have h : (if Nat.blt kvs.length LINE then some (LS.D.dck (putI n y kvs)) else none) = some d' := h4
        split at h
        · rename_i hc
          cases h
          exact ⟨n, rfl, by simpa [Nat.blt_eq] using hc, rfl⟩
        · cases h
      | _ => cases h4
    obtain ⟨n, rfl, hl, rfl⟩ := h4'
    refine (ps_dput hu pv hk he sw_sub).run pins s σ H D I (rdK R h1 fun v F1 H1 x1 rep => ow_var (R.ext x1) h2 fun q hq fq ow => rdK (R.ext x1) h3 fun kv F2 H2 x2 krep => ?_)
    have R2 := (R.ext x1).ext x2
    obtain ⟨q', e1, _, _, ow2⟩ := R2.own h2
    rw [hq] at e1; cases e1
    obtain ⟨kv2, hx, rs⟩ := ow2
    cases krep
    exact ⟨q, _, rfl, DPut.k (k := Sum.inl n) hx (by rw [ki_len rs, sizeLine_eq]; exact hl), post F2 _ _ (x1.f.trans x2.f) (R2.upd h2 hq ⟨_, upd_same, putI_ok n rs (rep.mono x2.f)⟩)⟩
  | _ => cases h4
theorem evApp {i : Nat} {e : E} (ev : evS G (.app i e) ρ = some r) : ∃ ds y, look ρ i = .ow (.lst ds) ∧ cleanE (evE G e ρ) = some y ∧ ds.length < LINE ∧ r = .nx (ρ.set i (.ow (.lst (ds ++ [y])))) := by
  have ev' : (match look ρ i with
    | .ow (.lst ds) => (match cleanE (evE G e ρ) with
      | some y => if Nat.blt ds.length LINE then some (So.nx (ρ.set i (.ow (.lst (ds ++ [y]))))) else none
      | none => none)
    | _ => none) = some r := ev
  split at ev'
  · rename_i ds h1
    split at ev'
    · rename_i y h2
      split at ev'
      · rename_i h3
        cases ev'
        exact ⟨ds, y, h1, h2, by simpa [Nat.blt_eq] using h3, rfl⟩
      · cases ev'
    · cases ev'
  · cases ev'
theorem evExt {i : Nat} {e : E} (ev : evS G (.ext i e) ρ = some r) : ∃ ds es, look ρ i = .ow (.lst ds) ∧ cleanE (evE G e ρ) = some (.lst es) ∧ ds.length + es.length ≤ LINE ∧ r = .nx (ρ.set i (.ow (.lst (ds ++ es)))) := by
  have ev' : (match look ρ i with
    | .ow (.lst ds) => (match cleanE (evE G e ρ) with
      | some (.lst es) => if Nat.ble (ds.length + es.length) LINE then some (So.nx (ρ.set i (.ow (.lst (ds ++ es))))) else none
      | _ => none)
    | _ => none) = some r := ev
  split at ev'
  · rename_i ds h1
    split at ev'
    · rename_i es h2
      split at ev'
      · rename_i h3
        cases ev'
        exact ⟨ds, es, h1, h2, Nat.le_of_ble_eq_true h3, rfl⟩
      · cases ev'
    · cases ev'
  · cases ev'
theorem sw_call {f : Expr} {as : List Expr} {p : Pos} {l : Nat} {env : Env} : swapsWith (.Call f as [] p) none l env = pure false := rfl
theorem s_app (C : Ctx gc G X xc W) {i : Nat} {e : E} {x : Str} {ve : Expr} {p ap cp pos : Pos} (hN : X.N[i]? = some x) (hv : visB X.env.scope x = true) (hd : dbgOk x = true) (he : PE X ve (tE X xc W G e)) (hs : notSt ve = true) (hl : (ap.endLine == cp.line) = true) :
    PS X (.Expr (.Call (.Attribute (.Name x p) "append" ap) [ve] [] cp) pos) (tS X xc W G (.app i e)) := by
  unfold dbgOk at hd
  simp only [Bool.and_eq_true, Bool.not_eq_true'] at hd
  have pv : PE X (.Name x p) (tVar i) := pe_var hN (visB_ok hv) hd.1.1 hd.1.2
  have hst : [ve].all notSt = true := by simp [hs]
  refine (ps_expr (pe_bm PySem.F.plainAttrs_list PySem.F.slot_list_append PySem.F.type_list_append mt_append pv (pa_cons he pa_nil (star_cons hs)) (base_ok rfl _) (few_ok hst rfl) hl (star_cons hs) rfl) sw_call).of fun D σ H ⟨H0, F, ρ, r, R, ev, post⟩ => ?_
  obtain ⟨ds, y, h1, h2, h3, rfl⟩ := evApp ev
  unfold tDrop tBM
  refine ow_var R h1 fun q hq fq ow => ?_
  obtain ⟨xs, hx, rs⟩ := ow
  refine ⟨.inl ⟨rfl, xs, .of hx⟩, rdK R h2 fun v F1 H1 x1 rep => ?_⟩
  have R2 := R.ext x1
  have hx2 := x1.h _ _ hx
  exact ⟨q, xs, v, rfl, rfl, hx2, by rw [rs.length, sizeLine_eq]; exact h3, post F1 _ _ x1.f (R2.upd h1 hq ⟨_, upd_same, (rs.mono x1.f).append (.cons rep .nil)⟩)⟩
theorem s_ext (C : Ctx gc G X xc W) {i : Nat} {e : E} {x : Str} {ve : Expr} {p ap cp pos : Pos} (hN : X.N[i]? = some x) (hv : visB X.env.scope x = true) (hd : dbgOk x = true) (he : PE X ve (tE X xc W G e)) (hs : notSt ve = true) (hl : (ap.endLine == cp.line) = true) :
    PS X (.Expr (.Call (.Attribute (.Name x p) "extend" ap) [ve] [] cp) pos) (tS X xc W G (.ext i e)) := by
  unfold dbgOk at hd
  simp only [Bool.and_eq_true, Bool.not_eq_true'] at hd
  have pv : PE X (.Name x p) (tVar i) := pe_var hN (visB_ok hv) hd.1.1 hd.1.2
  have hst : [ve].all notSt = true := by simp [hs]
  refine (ps_expr (pe_bm PySem.F.plainAttrs_list PySem.F.slot_list_extend PySem.F.type_list_extend mt_extend pv (pa_cons he pa_nil (star_cons hs)) (base_ok rfl _) (few_ok hst rfl) hl (star_cons hs) rfl) sw_call).of fun D σ H ⟨H0, F, ρ, r, R, ev, post⟩ => ?_
  obtain ⟨ds, es, h1, h2, h3, rfl⟩ := evExt ev
  unfold tDrop tBM
  refine ow_var R h1 fun q hq fq ow => ?_
  obtain ⟨xs, hx, rs⟩ := ow
  refine ⟨.inl ⟨rfl, xs, .of hx⟩, rdK R h2 fun v F1 H1 x1 rep => ?_⟩
  have R2 := R.ext x1
  have hx2 := x1.h _ _ hx
  cases rep with
  | lst ea rs2 =>
    exact ⟨q, _, xs, _, rfl, rfl, hx2, x1.s _ _ ea, by rw [rs.length, rs2.length, sizeLine_eq]; exact h3, post F1 _ _ x1.f (R2.upd h1 hq ⟨_, upd_same, (rs.mono x1.f).append rs2⟩)⟩
theorem s_rse (C : Ctx gc G X xc W) (hcalm : X.calm = true) {c m : Str} {j : Nat} {p p2 pos pos2 : Pos} (hc : gc.exs.contains c = true) (hg : glB X.env.scope c = true) :
    PS X (.Raise (some (.Call (.Name c p) [.Constant (.str m) j p2] [] pos)) none pos2) (tS X xc W G (.rse c m)) := by
  obtain ⟨g1, g2, _⟩ := glB_ok hg
  obtain ⟨Ca, B, newId, initId, bmB, f1, f2, f3, f4, f5, f6⟩ := C.ex c hc
  refine (ps_raise hcalm C.tk (pmk_own f1 f2 f3 f4 (raises_own f5 f6) g1 g2)).of fun D σ H ⟨H0, F, ρ, r, R, ev, post⟩ => ?_
  have ev' : some (So.ex c ρ) = some r := ev
  cases ev'
  exact post Ca F σ H f3 R
theorem s_whl (C : Ctx gc G X xc W) {t : E} {b : Ss} {c : Expr} {bs : List Stmt} {pos : Pos} (ht : PT X c (tT X xc W G t)) (hb : PSs X bs (tSs X xc W G b)) : PS X (.While c bs [] pos) (tS X xc W G (.whl t b)) := by
  refine (ps_while C.po ht hb).of fun D σ H ⟨H0, F, ρ, r, R, ev, post⟩ => ?_
  refine ⟨fun m σ H => ∃ F' ρ', Same F F' ∧ Rel X.K X.mg xc H0 F' ρ' σ H ∧ loopW (evE G t) (fun ρ => evSs G b ρ) m ρ' = some r, ⟨FUEL, F, ρ, Same.refl _, R, ev⟩, ?_⟩
  rintro m σ1 H1 ⟨F1, ρ1, s1, R1, ev1⟩
  cases m with
  | zero => cases ev1
  | succ n =>
    have ev2 : (match evE G t ρ1 with
      | some (.v _ (.bl true)) => (match evSs G b ρ1 with
        | some (.nx ρ') => loopW (evE G t) (fun ρ => evSs G b ρ) n ρ'
        | r => r)
      | some (.v _ (.bl false)) => some (.nx ρ1)
      | some (.x c) => some (.ex c ρ1)
      | _ => none) = some r := ev1
    split at ev2
    · rename_i m he
      refine ⟨H0, F1, ρ1, _, R1, he, fun F2 H2 x => ?_⟩
      show (if true = true then _ else _)
      rw [if_pos rfl]
      refine ⟨fun σ' H' => ∃ F' ρ', Same F F' ∧ Rel X.K X.mg xc H0 F' ρ' σ' H' ∧ loopW (evE G t) (fun ρ => evSs G b ρ) n ρ' = some r, fun σ' H' q => ⟨n, Nat.lt_succ_self n, q⟩, ?_⟩
      cases hbo : evSs G b ρ1 with
      | none => rw [hbo] at ev2; cases ev2
      | some rb =>
        rw [hbo] at ev2
        refine ⟨H0, F2, ρ1, rb, R1.ext x, hbo, ?_⟩
        cases rb with
        | nx ρ' => exact fun F' σ' H' s' R' => ⟨F', ρ', (s1.trans x.f).trans s', R', ev2⟩
        | rt d => cases ev2; exact post
        | ex c ρ' => cases ev2; exact post
    · rename_i m he
      cases ev2
      refine ⟨H0, F1, ρ1, _, R1, he, fun F2 H2 x => ?_⟩
      show (if false = true then _ else _)
      rw [if_neg Bool.false_ne_true]
      exact post F2 σ1 H2 (s1.trans x.f) (R1.ext x)
    · rename_i c' he
      cases ev2
      exact ⟨H0, F1, ρ1, _, R1, he, fun C' F' H' hc x => post C' F' σ1 H' hc (R1.ext x)⟩
    · cases ev2
theorem s_for (C : Ctx gc G X xc W) (hcalm : X.calm = true) {tg : Tg} {it : It} {b : Ss} {tgE itE : Expr} {bs : List Stmt} {pos : Pos} (hi : PI X tgE itE (tI X xc G it)) (hg : PG X tgE (tG X xc tg)) (hb : PSs X bs (tSs X xc W G b)) (hs : notSetE itE = true) :
    PS X (.For tgE itE bs [] pos) (tS X xc W G (.for_ tg it b)) := by
  refine (ps_for C.po hcalm hi hg hb (notSetE_ok hs)).of fun D σ H ⟨H0, F, ρ, r, R, ev, post⟩ => ?_
  obtain ⟨f, hf⟩ : ∃ f : LS.D → En → Option So, f = fun d ρ => match bindT tg d ρ with
    | some ρ' => evSs G b ρ'
    | none => none := ⟨_, rfl⟩
  have ev' : (match evI G it ρ with
    | some ds => loopF f ds ρ
    | none => none) = some r := by rw [hf]; exact ev
  split at ev'
  · rename_i ds hds
    refine ⟨H0, F, ρ, ds, R, hds, fun J F1 H1 x1 itd => ?_⟩
    refine ⟨fun i m σ H => m = ds.length - i ∧ i ≤ ds.length ∧ ∃ F' ρ', Same F1 F' ∧ Rel X.K X.mg xc H0 F' ρ' σ H ∧ loopF f (ds.drop i) ρ' = some r, ⟨ds.length, by simp, Nat.zero_le _, F1, ρ, Same.refl _, R.ext x1, ev'⟩, ?_⟩
    rintro i m σ2 H2 ⟨rfl, hi, F2, ρ2, s2, R2, ev2⟩
    by_cases hlt : i < ds.length
    · obtain ⟨jg, jy⟩ := (itd i F2 H2 s2 R2.sub).1 hlt
      refine .inr ⟨jg, fun σ' H' => ∃ F' ρ', Same F1 F' ∧ Rel X.K X.mg xc H0 F' ρ' σ' H' ∧ loopF f (ds.drop (i + 1)) ρ' = some r, fun σ' H' q => ⟨ds.length - (i + 1), by omega, rfl, hlt, q⟩, fun x H' y => ?_⟩
      obtain ⟨F3, d, x3, hd, rep⟩ := jy x H' y
      have e1 : ds.drop i = d :: ds.drop (i + 1) := by
        obtain ⟨hl, hx⟩ := List.getElem?_eq_some_iff.mp hd
        rw [← hx]
        exact List.drop_eq_getElem_cons hl
      rw [e1] at ev2
      have ev3 : (match f d ρ2 with
        | some (.nx ρ') => loopF f (ds.drop (i + 1)) ρ'
        | r => r) = some r := ev2
      cases hfd : f d ρ2 with
      | none => rw [hfd] at ev3; cases ev3
      | some rb =>
        rw [hfd] at ev3
        rw [hf] at hfd
        simp only at hfd
        split at hfd
        · rename_i ρ3 hb3
          refine ⟨H0, F3, ρ2, d, ρ3, R2.ext x3, rep, hb3, fun σ' R4 _ _ => ?_⟩
          refine ⟨H0, F3, ρ3, rb, R4, hfd, ?_⟩
          cases rb with
          | nx ρ' => exact fun F' σ'' H'' s' R' => ⟨F', ρ', (s2.trans x3.f).trans s', R', ev3⟩
          | rt d => cases ev3; exact post
          | ex c ρ' => cases ev3; exact post
        · cases hfd
    · have e : i = ds.length := by omega
      subst e
      rw [List.drop_length] at ev2
      have ev3 : some (So.nx ρ2) = some r := ev2
      cases ev3
      exact .inl ⟨(itd _ F2 H2 s2 R2.sub).2 rfl, post F2 σ2 H2 (x1.f.trans s2) R2⟩
  · cases ev'
theorem ss_nil : PSs X [] (tSs X xc W G .nil) := pss_nil.of fun D σ H ⟨H0, F, ρ, r, R, ev, post⟩ => by
  have ev' : some (So.nx ρ) = some r := ev
  cases ev'
  exact post F σ H (Same.refl _) R
theorem evCons {s : S} {ss : Ss} (ev : evSs G (.cons s ss) ρ = some r) : ∃ q, evS G s ρ = some q ∧ ((∃ ρ', q = .nx ρ' ∧ evSs G ss ρ' = some r) ∨ ((∀ ρ', q ≠ .nx ρ') ∧ r = q)) := by
  have ev' : (match evS G s ρ with
    | some (.nx ρ') => evSs G ss ρ'
    | r => r) = some r := ev
  cases h : evS G s ρ with
  | none => rw [h] at ev'; cases ev'
  | some q =>
    rw [h] at ev'
    refine ⟨q, rfl, ?_⟩
    cases q with
    | nx ρ' => exact .inl ⟨ρ', rfl, ev'⟩
    | rt d => cases ev'; exact .inr ⟨fun _ h => (nomatch h), rfl⟩
    | ex c ρ' => cases ev'; exact .inr ⟨fun _ h => (nomatch h), rfl⟩
theorem ss_cons {s : S} {ss : Ss} {st : Stmt} {sts : List Stmt} (h : PS X st (tS X xc W G s)) (t : PSs X sts (tSs X xc W G ss)) : PSs X (st :: sts) (tSs X xc W G (.cons s ss)) := (pss_cons h t).of fun D σ H ⟨H0, F, ρ, r, R, ev, post⟩ => by
  obtain ⟨q, h1, h2⟩ := evCons ev
  refine ⟨H0, F, ρ, q, R, h1, ?_⟩
  rcases h2 with ⟨ρ', rfl, h3⟩ | ⟨h3, rfl⟩
  · exact fun F' σ' H' s' R' => ⟨H0, F', ρ', r, R', h3, post.later s'⟩
  · cases r with
    | nx ρ' => exact absurd rfl (h3 ρ')
    | rt d => exact post
    | ex c ρ' => exact post
/-- the suite runs from a state in which the dict is locked -/
theorem pss_lk {sts : List Stmt} {t : TS} (h : PSs X sts t) : PSs X sts (fun D σ H => ∃ d u, H d = some u ∧ Mut (some u) ∧ ∀ od, t D σ (L2.upd H d (.frz od u))) := ⟨fun pins s σ H D I ⟨d, u, hd, mu, hw⟩ => by
  obtain ⟨od, I1⟩ := I.lock hd mu
  exact h.run pins s σ _ D I1 (hw od)⟩
theorem pss_or {sts : List Stmt} {t t' : TS} (h : PSs X sts t) (h' : PSs X sts t') : PSs X sts (fun D σ H => t D σ H ∨ t' D σ H) := ⟨fun pins s σ H D I hw => hw.elim (h.run pins s σ H D I) (h'.run pins s σ H D I)⟩
theorem ss_lck {i : Nat} {ss : Ss} {sts : List Stmt} (t : PSs X sts (tSs X xc W G ss)) : PSs X sts (tSs X xc W G (.cons (.lck i) ss)) := (pss_or t (pss_lk t)).of fun D σ H ⟨H0, F, ρ, r, R, ev, post⟩ => by
  obtain ⟨q, h1, h2⟩ := evCons ev
  have h1' : (match look ρ i with
    | .ow (.dct kvs) => some (So.nx (ρ.set i (.fz (.ldt kvs))))
    | .fz d => some (.nx ρ)
    | _ => none) = some q := h1
  split at h1'
  · rename_i d hi
    cases h1'
    rcases h2 with ⟨ρ', e, h3⟩ | ⟨h3, _⟩
    · cases e
      obtain ⟨p, kvs, e1, e2⟩ := R.lck hi
      refine .inr ⟨p, _, e1, trivial, fun od => ?_⟩
      obtain ⟨F', s', R'⟩ := e2 od
      exact ⟨H0, F', _, r, R', h3, post.later s'⟩
    · exact absurd rfl (h3 _)
  · cases h1'
    rcases h2 with ⟨ρ', e, h3⟩ | ⟨h3, _⟩
    · cases e
      exact .inl ⟨H0, F, ρ, r, R, h3, post⟩
    · exact absurd rfl (h3 _)
  · cases h1'
theorem ss_frz {i : Nat} {ss : Ss} {sts : List Stmt} (t : PSs X sts (tSs X xc W G ss)) : PSs X sts (tSs X xc W G (.cons (.frz i) ss)) := t.of fun D σ H ⟨H0, F, ρ, r, R, ev, post⟩ => by
  obtain ⟨q, h1, h2⟩ := evCons ev
  have h1' : (match look ρ i with
    | .ow d => some (So.nx (ρ.set i (.fz d)))
    | .fz d => some (.nx ρ)
    | _ => none) = some q := h1
  split at h1'
  · rename_i d hi
    cases h1'
    rcases h2 with ⟨ρ', e, h3⟩ | ⟨h3, _⟩
    · cases e
      obtain ⟨F', s', R'⟩ := R.frz hi
      exact ⟨H0, F', _, r, R', h3, post.later s'⟩
    · exact absurd rfl (h3 _)
  · cases h1'
    rcases h2 with ⟨ρ', e, h3⟩ | ⟨h3, _⟩
    · cases e
      exact ⟨H0, F, ρ, r, R, h3, post⟩
    · exact absurd rfl (h3 _)
  · cases h1'
end
end LS

set_option Elab.async false
set_option linter.all false
set_option maxRecDepth 100000
set_option maxHeartbeats 1000000
/-! LS27: try .. except LimitError as e. -/
namespace LS
open PySem PySem.Spec PyProof.Rows L2
/-- in a clause's suite: a holds the exception of the class k -/
def xcS (a : Addr) (k : Str) : V → Str → Prop := fun v k' => v = .ref a ∧ k' = k
def gcS (gc : GC) : GC := { gc with hot := true, top := false }
section
variable {X : Cx} {xc : V → Str → Prop} {W : WX} {G : Fns} {gc : GC}
theorem Ctx.tr (C : Ctx gc G X xc W) (hh : gc.hot = false) {W' : WX} {pn : List (Addr × Obj)} {xe : Value → Shared → Prop} (tk : Takes (X.tr pn xe) W') (po : PassesOwn (model X.prog X.w) X.A X.env xe) : Ctx gc G (X.tr pn xe) xc W' :=
  ⟨C.nd, C.calm, C.hu, C.nx, C.fnl, C.bl, C.ct, fun x g m h => ⟨(C.fn x g m h).ex⟩, C.mn, C.cl, C.mt, tk, po, C.ex, C.ei, fun h => (by rw [hh] at h; cases h), C.stk⟩
theorem Ctx.sui (C : Ctx gc G X xc W) {a D : Addr} {oe : Obj} {pn : List (Addr × Obj)} {k : Str} (hz : Zc (.ref D) none oe) (hf : ∃ vs, oe.data = .fields vs) (hk : gc.ein.contains k = true) (hm : X.mg k = some (.ref D)) : Ctx (gcS gc) G (X.suite a ((a, oe) :: pn)) (xcS a k) W0 :=
  ⟨C.nd, fun h => (nomatch h), C.hu, fun h => (nomatch h), C.fnl, C.bl, C.ct, fun x g m h => by
    obtain ⟨f, fd, ps, j, h1, h2, h3, _, h5⟩ := (C.fn x g m h).ex
    exact ⟨f, fd, ps, j, h1, h2, h3, fun z => (nomatch z), h5⟩, C.mn, C.cl, fun k c m q g h => by
    obtain ⟨Cc, f, fd, ps, j, h1, h2, h3, h4, _, h5⟩ := C.mt k c m q g h
    exact ⟨Cc, f, fd, ps, j, h1, h2, h3, h4, fun z => (nomatch z), h5⟩, takes_0, PassesOwn.never, C.ex, C.ei, fun _ => ⟨X, a, D, oe, pn, rfl, hz, hf, fun v k' ⟨e1, e2⟩ => ⟨e1, e2 ▸ hk, e2 ▸ hm⟩⟩, fun h => (nomatch h)⟩
theorem s_try (C : Ctx gc G X xc W) (hh : gc.hot = false) (ht : gc.top = true) {cs : List Str} {b h : Ss} {i : Nat} {n : Str} {body suite : List Stmt} {b₀ : Stmt} {np pos pos' : Pos} (hi : X.N[i]? = some n) (hl : X.env.scope.names.lookup n = some .local) (hg : glB X.env.scope "LimitError" = true)
    (hne : ∃ c0, gc.ein.contains c0 = true) (hcs : ∀ c, cs.contains c = true → gc.ein.contains c = true)
    (hb : ∀ (W' : WX) (pn : List (Addr × Obj)) (xe : Value → Shared → Prop), Takes (X.tr pn xe) W' → PassesOwn (model X.prog X.w) X.A X.env xe → PSs (X.tr pn xe) body (tSs (X.tr pn xe) xc W' G b))
    (hs : ∀ (a D : Addr) (oe : Obj) (pn : List (Addr × Obj)) (k : Str), Zc (.ref D) none oe → (∃ vs, oe.data = .fields vs) → gc.ein.contains k = true → X.mg k = some (.ref D) → PSs (X.suite a ((a, oe) :: pn)) (b₀ :: suite) (tSs (X.suite a ((a, oe) :: pn)) (xcS a k) W0 G h)) :
    PS X (.Try body [.ExceptHandler (some (.Name "LimitError" np)) (some n) (b₀ :: suite) pos'] [] [] pos) (tS X xc W G (.try_ cs b i h)) := by
  obtain ⟨c0, hc0⟩ := hne
  obtain ⟨_, L, _, hL, _⟩ := C.ei c0 hc0
  obtain ⟨g1, g2, _⟩ := glB_ok hg
  obtain ⟨k1, k2⟩ := C.stk ht
  have hx := C.nx hh
  subst hx
  refine (ps_try_as (tb := fun W' => tSs X nox W' G b) (ts := fun a cls d D σ H => ∃ Dc k, cls = .ref Dc ∧ d = none ∧ X.mg k = some (.ref Dc) ∧ gc.ein.contains k = true ∧ tSs X (xcS a k) W0 G h D σ H) (Wout := W) (c := .ref L) k1 k2 C.nd hi hl ⟨g1, g2, .inl hL⟩ C.tk hb ?_).of ?_
  · rintro a oe cls d pn hz hf
    refine ⟨fun pins s σ H D I ⟨Dc, k, e1, e2, e3, e4, t⟩ => ?_⟩
    subst e1 e2
    exact (hs a Dc oe pn k hz hf e4 e3).run pins s σ H D I t
  · rintro D σ H ⟨H0, F, ρ, r, R, ev, post⟩
    have ev' : (match evSs G b ρ with
      | some (.ex c ρ') => if cs.contains c then (match evSs G h (ρ'.set i (.fz (.exc c))) with
        | some (.rt d) => if plain d then some (.rt d) else none
        | _ => none) else none
      | r => r) = some r := ev
    cases he : evSs G b ρ with
    | none => rw [he] at ev'; cases ev'
    | some q =>
      rw [he] at ev'
      refine ⟨H0, F, ρ, q, R, he, ?_⟩
      cases q with
      | nx ρ' => cases ev'; exact post
      | rt d => cases ev'; exact post
      | ex k ρ' =>
        dsimp only at ev'
        split at ev'
        · rename_i hk
          split at ev'
          · rename_i d hh2
            split at ev'
            · rename_i hp
              cases ev'
              intro Cc F' σ' H' hc R'
              obtain ⟨C1, L1, m1, m2, _, m4, _⟩ := C.ei k (hcs k hk)
              cases m1.symm.trans hc
              cases m2.symm.trans hL
              refine ⟨true, m4, fun _ a ha => ⟨Cc, k, rfl, rfl, hc, hcs k hk, H0, F', _, .rt d, (R'.xm (xc' := xcS a k) (fun _ _ z => z.elim)).set_fz (v := .ref a) (.exc ⟨rfl, rfl⟩), hh2, ?_⟩, fun z => nomatch z⟩
              exact fun v F2 H2 x rep => post v F2 H2 x (rep.nox (noexc_of hp))
            · cases ev'
          · cases ev'
        · cases ev'
end
end LS

set_option Elab.async false
set_option linter.all false
set_option maxRecDepth 100000
set_option maxHeartbeats 2000000
/-! LS15: the checker of statements, and that it is enough. -/
namespace LS
open PySem PySem.Spec PyProof.Rows L2
def kindF (sc : Scope) : Bool := match sc.kind with
  | .function => true
  | _ => false
theorem kindF_ok {sc : Scope} (h : kindF sc = true) : sc.kind = .function := by
  unfold kindF at h
  split at h
  · assumption
  · cases h
/-- does the store of a comprehension stand within it -/
def swN (sc : Scope) (x : Str) (p : Pos) : Expr → Bool
  | .ListComp _ _ s pos => sc.names.lookup x == some .local && p.line == pos.line && !(s.names.any fun (n, k) => n == x && (k == .local || k == .cell))
  | _ => false
def plainV : Expr → Bool
  | .SetComp _ _ _ _ => false
  | .DictComp _ _ _ _ _ => false
  | _ => true
theorem sw_name {v : Expr} {x : Str} {p : Pos} {l : Nat} {env : Env} (hk : env.scope.kind = .function) (h : plainV v = true) : swapsWith v (some (.Name x p)) l env = pure (swN env.scope x p v) := by
  have hb : env.blockKind = .function := by unfold Env.blockKind; rw [hk]; rfl
  cases v with
  | ListComp elt gs s pos =>
    unfold swapsWith swN
    simp only [hb]
    rfl
  | SetComp _ _ _ _ => cases h
  | DictComp _ _ _ _ _ => cases h
  | _ => rfl
def isNm (sc : Scope) (line : Nat) : Expr → Option Str
  | .Name id pos => if sc.names.lookup id == some .local && pos.line == line then some id else none
  | _ => none
def isStar : Expr → Bool
  | .Starred .. => true
  | _ => false
def swP (sc : Scope) (ts vs : List Expr) : Option (Option (List Str)) :=
  if (!(ts.length == 2 || ts.length == 3) || vs.length != ts.length) = true then some none
  else if vs.any isStar = true then some none
  else if ((ts.filterMap (isNm sc ((ts.head?.map (·.pos.line)).getD 0))).length != ts.length || (ts.filterMap (isNm sc ((ts.head?.map (·.pos.line)).getD 0))).eraseDups.length != (ts.filterMap (isNm sc ((ts.head?.map (·.pos.line)).getD 0))).length) = true then some none
  else if vs.all (foldedForSure 8) = true then some none
  else if vs.all (constantsAlone 8) = true then none
  else some (some (ts.filterMap (isNm sc ((ts.head?.map (·.pos.line)).getD 0))))
theorem swP_eq {env : Env} {ts vs : List Expr} {k k2 : Nat} {p p2 : Pos} : ∃ z : Sem (Option (List Str)), swappedStores [.Tuple ts k p] (.Tuple vs k2 p2) env =
    (if (!(ts.length == 2 || ts.length == 3) || vs.length != ts.length || env.blockKind != .function) = true then pure none
    else if vs.any isStar = true then pure none
    else if ((ts.filterMap (isNm env.scope ((ts.head?.map (·.pos.line)).getD 0))).length != ts.length || (ts.filterMap (isNm env.scope ((ts.head?.map (·.pos.line)).getD 0))).eraseDups.length != (ts.filterMap (isNm env.scope ((ts.head?.map (·.pos.line)).getD 0))).length) = true then pure none
    else if vs.all (foldedForSure 8) = true then pure none
    else if vs.all (constantsAlone 8) = true then z
    else pure (some (ts.filterMap (isNm env.scope ((ts.head?.map (·.pos.line)).getD 0))))) := ⟨_, rfl⟩
theorem swP_ok {env : Env} {ts vs : List Expr} {k k2 : Nat} {p p2 : Pos} {o : Option (List Str)} (hk : env.scope.kind = .function) (h : swP env.scope ts vs = some o) : swappedStores [.Tuple ts k p] (.Tuple vs k2 p2) env = pure o := by
  have hb : env.blockKind = .function := by unfold Env.blockKind; rw [hk]; rfl
  obtain ⟨z, e⟩ := swP_eq (env := env) (ts := ts) (vs := vs) (k := k) (k2 := k2) (p := p) (p2 := p2)
  rw [e, hb]
  have e2 : (!(ts.length == 2 || ts.length == 3) || vs.length != ts.length || ScopeKind.function != ScopeKind.function) = (!(ts.length == 2 || ts.length == 3) || vs.length != ts.length) := by
    rw [show (ScopeKind.function != ScopeKind.function) = false from rfl, Bool.or_false]
  rw [e2]
  unfold swP at h
  generalize (!(ts.length == 2 || ts.length == 3) || vs.length != ts.length) = c1 at h ⊢
  generalize vs.any isStar = c2 at h ⊢
  generalize (_ || _ : Bool) = c3 at h ⊢
  generalize vs.all (foldedForSure 8) = c4 at h ⊢
  generalize vs.all (constantsAlone 8) = c5 at h ⊢
  cases c1 <;> cases c2 <;> cases c3 <;> cases c4 <;> cases c5 <;> first
    | (cases h; rfl)
    | cases h
def notTup : Expr → Bool
  | .Tuple _ _ _ => false
  | _ => true
def notComp : Expr → Bool
  | .ListComp _ _ _ _ => false
  | .SetComp _ _ _ _ => false
  | .DictComp _ _ _ _ _ => false
  | _ => true
theorem sw_none {e : Expr} {t : Option Expr} {l : Nat} {env : Env} (h : notComp e = true) : swapsWith e t l env = pure false := by
  cases e <;> first
    | rfl
    | cases h
theorem sole_tup {e : Expr} {ns : List Expr} {k : Nat} {p : Pos} {l : Nat} {env : Env} : swapsWithSole [.Tuple ns k p] e l env = pure false := by
  cases e <;> rfl
theorem stores_none {e : Expr} {ns : List Expr} {k : Nat} {p : Pos} {env : Env} (h : notTup e = true) : swappedStores [.Tuple ns k p] e env = pure none := by
  cases e <;> first
    | rfl
    | cases h
def nmOf : Expr → Str
  | .Name x _ => x
  | _ => ""
/-- the stores of a parallel assignment -/
def parB (N : List Str) (gc : GC) (sc : Scope) (is : List Nat) (ns as : List Expr) : Bool := kindF sc && Nat.blt is.length 20 && asgsB gc N sc is ns && decide (is.Nodup) &&
  (match swP sc ns as with
  | some none => true
  | some (some xs) => decide (xs = ns.map nmOf) && ns.all (fun n => sc.names.lookup (nmOf n) == some .local) && (ns.length == 2 || ns.length == 3) && as.length == ns.length
  | none => false)
mutual
def ckS (N : List Str) : S → GC → Scope → Stmt → Bool
  | .set i e, gc, sc, st => (match st with
    | .Assign [.Name x p] v _ => kindF sc && plainV v && asgB gc N sc i (.Name x p) && ckE N e gc sc v
    | _ => false)
  | .unp is e, gc, sc, st => (match st with
    | .Assign [.Tuple ns _ _] v _ => notTup v && !gc.hot && asgsB gc N sc is ns && ckE N e gc sc v
    | _ => false)
  | .par is es, gc, sc, st => (match st with
    | .Assign [.Tuple ns _ _] (.Tuple as _ _) _ => !gc.hot && parB N gc sc is ns as && ckEs N es gc sc as
    | _ => false)
  | .sto i k e, gc, sc, st => (match st with
    | .Assign [.Subscript (.Name x _) ke _] v _ => decide (N[i]? = some x) && visB sc x && dbgOk x && notSl ke && ckE N k gc sc ke && ckE N e gc sc v
    | _ => false)
  | .app i e, gc, sc, st => (match st with
    | .Expr (.Call (.Attribute (.Name x _) m ap) [v] [] cp) _ => decide (m = "append") && decide (N[i]? = some x) && visB sc x && dbgOk x && notSt v && (ap.endLine == cp.line) && ckE N e gc sc v
    | _ => false)
  | .ext i e, gc, sc, st => (match st with
    | .Expr (.Call (.Attribute (.Name x _) m ap) [v] [] cp) _ => decide (m = "extend") && decide (N[i]? = some x) && visB sc x && dbgOk x && notSt v && (ap.endLine == cp.line) && ckE N e gc sc v
    | _ => false)
  | .frz _, _, _, _ => false
  | .lck _, _, _, _ => false
  | .exp e, gc, sc, st => (match st with
    | .Expr v _ => notComp v && ckE N e gc sc v
    | _ => false)
  | .ret e, gc, sc, st => (match st with
    | .Return (some v) _ => ckE N e gc sc v
    | _ => false)
  | .rse c m, gc, sc, st => (match st with
    | .Raise (some (.Call (.Name x _) [.Constant (.str m') _ _] [] _)) none _ => decide (x = c) && decide (m' = m) && !gc.hot && gc.exs.contains c && glB sc c
    | _ => false)
  | .ite t a b, gc, sc, st => (match st with
    | .If c as bs _ => tk t && ckE N t gc sc c && ckSs N a gc sc as && ckSs N b gc sc bs
    | _ => false)
  | .whl t b, gc, sc, st => (match st with
    | .While c bs [] _ => tk t && ckE N t gc sc c && ckSs N b gc sc bs
    | _ => false)
  | .for_ tg it b, gc, sc, st => (match st with
    | .For tgE itE bs [] _ => !gc.hot && notSetE itE && ckG gc N sc tg tgE && ckI N it gc sc tgE itE && ckSs N b gc sc bs
    | _ => false)
  | .try_ cs b i h, gc, sc, st => (match st with
    | .Try body [.ExceptHandler (some (.Name x _)) (some n) (b₀ :: suite) _] [] [] _ => decide (x = "LimitError") && !gc.hot && gc.top && decide (N[i]? = some n) && (sc.names.lookup n == some .local) && glB sc "LimitError" && !gc.ein.isEmpty && cs.all (fun c => gc.ein.contains c) && ckSs N b gc sc body && ckSs N h (gcS gc) sc (b₀ :: suite)
    | _ => false)
def ckSs (N : List Str) : Ss → GC → Scope → List Stmt → Bool
  | .nil, _, _, [] => true
  | .cons (.frz _) ss, gc, sc, sts => ckSs N ss gc sc sts
  | .cons (.lck _) ss, gc, sc, sts => ckSs N ss gc sc sts
  | .cons s ss, gc, sc, st :: sts => ckS N s gc sc st && ckSs N ss gc sc sts
  | _, _, _, _ => false
end
section
variable {X : Cx} {xc : V → Str → Prop} {W : WX} {G : Fns} {gc : GC}
theorem asg_nm {N : List Str} {sc : Scope} {i : Nat} {x : Str} {p : Pos} (h : asgB gc N sc i (.Name x p) = true) : N[i]? = some x ∧ ((sc.names.lookup x = some .local) ∨ (sc.names.lookup x = some .cell ∧ gc.asg x = true)) := by
  unfold asgB at h
  simp only [Bool.and_eq_true, decide_eq_true_eq] at h
  refine ⟨h.1, ?_⟩
  have h2 := h.2
  split at h2
  · exact .inl (by assumption)
  · exact .inr ⟨by assumption, h2⟩
  · cases h2
/-- a comprehension, stored within its own block -/
theorem lc_set (C : Ctx gc G X xc W) (hk : X.env.scope.kind = .function) {i : Nat} {e : E} {x : Str} {p spos : Pos} {elt : Expr} {gs : List Comprehension} {sk : Scope} {pos : Pos} (hN : X.N[i]? = some x) (hs : swN X.env.scope x p (.ListComp elt gs sk pos) = true) (h : ckE X.N e gc X.env.scope (.ListComp elt gs sk pos) = true) :
    PS X (.Assign [.Name x p] (.ListComp elt gs sk pos) spos) (tAsg (tE X xc W G e) (gName i)) := by
  have hsw : swapsWith (.ListComp elt gs sk pos) (some (.Name x p)) spos.line X.env = pure true := by rw [sw_name hk rfl, hs]
  have hloc : X.env.scope.names.lookup x = some .local := by
    simp only [swN, Bool.and_eq_true] at hs
    simpa using hs.1.1
  cases e with
  | lc elt' tg it c own =>
    simp only [ckE] at h
    split at h
    · rename_i x' tgE itE ifs scq hx
      obtain ⟨p', e'⟩ := asComp_ok hx
      cases e'
      simp only [Bool.and_eq_true, Bool.not_eq_true'] at h
      obtain ⟨⟨⟨⟨⟨⟨⟨h1, h2⟩, h3⟩, h4⟩, h5⟩, h6⟩, h7⟩, h8⟩ := h
      refine (ps_setLc (g := tG X xc tg) (tt := tC X xc G c) (te := tE X xc W0 G elt') (C.calm h1) C.nd hN hloc hsw (sI it C h6) (blkOk_by h3) (fun s H Cl cl fp => g_tg (C.blk h1 s H sk (compEnvC sk cl Cl X.env) fp) (C.calm h1) h5) (fun s H Cl cl fp => sC c (C.blk h1 s H sk (compEnvC sk cl Cl X.env) fp) h7)
        (fun s H Cl cl fp => (sE elt' (C.blk h1 s H sk (compEnvC sk cl Cl X.env) fp) h8).pe) (notSetE_ok h2)).of fun D σ H ⟨H0, F, ρ, r, R, ev, post⟩ => ?_
      unfold tAsg
      rw [ownP_ix]
      exact lc_of R (ins_ok (X := X) h4) ev post
    · cases h
  | lc2 elt' tg it tg1 it1 own own1 =>
    simp only [ckE] at h
    split at h
    · rename_i x' tgE itE tgE1 itE1 scq hx
      obtain ⟨p', e'⟩ := asComp2_ok hx
      cases e'
      simp only [Bool.and_eq_true, Bool.not_eq_true'] at h
      obtain ⟨⟨⟨⟨⟨⟨⟨⟨⟨⟨⟨h1, h2⟩, h2'⟩, h3⟩, h4⟩, h4'⟩, h4''⟩, h5⟩, h5'⟩, h6⟩, h6'⟩, h8⟩ := h
      have hoo : ∀ i ∈ own1, i ∈ own := fun i hi => by
        have := List.all_eq_true.mp h4'' i hi
        simpa using this
      refine (ps_setLc2 (vs1 := own1) (g := tG X xc tg) (tt := tC X xc G .no) (wi1 := tI X xc G it1) (g1 := tG X xc tg1) (tt1 := tC X xc G .no) (te := tE X xc W0 G elt') (C.calm h1) C.nd hN hloc hsw (sI it C h6) (blkOk_by h3) (by rw [ownP_ix]; exact hoo)
        (fun s H Cl cl fp => g_tg (C.blk h1 s H sk (compEnvC sk cl Cl X.env) fp) (C.calm h1) h5) (fun s H Cl cl fp => c_no)
        (fun s H Cl cl fp => sI it1 (C.blk h1 s H sk (compEnvC sk cl Cl X.env) fp) h6') (fun s H Cl cl fp => g_tg (C.blk h1 s H sk (compEnvC sk cl Cl X.env) fp) (C.calm h1) h5') (fun s H Cl cl fp => c_no)
        (fun s H Cl cl fp => (sE elt' (C.blk h1 s H sk (compEnvC sk cl Cl X.env) fp) h8).pe) (notSetE_ok h2) (fun env x => notSetE_ok h2' x)).of fun D σ H ⟨H0, F, ρ, r, R, ev, post⟩ => ?_
      unfold tAsg
      rw [ownP_ix]
      exact lc2_of R (ins_ok (X := X) h4) (ins_ok (X := X) h4') hoo ev post
    · cases h
  | mth m a es => simp [ckE, asMeth] at h
  | mcl i c m k => simp [ckE, asMeth] at h
  | b1 o a => simp [ckE, asCall] at h
  | b2 o a b => simp [ckE, asCall] at h
  | _ => simp [ckE, asName, asConst, asUn, asTup, asLst, isDict0, asBin, asCmp, asCmp2, asBool, asIf, asSub, asCall] at h
theorem sw_false {v : Expr} {x : Str} {p : Pos} (h : notComp v = true) (sc : Scope) : swN sc x p v = false := by
  cases v <;> first
    | rfl
    | cases h
end
mutual
theorem sS : ∀ (s : S) {gc : GC} {G : Fns} {X : Cx} {xc : V → Str → Prop} {W : WX} (C : Ctx gc G X xc W) {a : Stmt}, ckS X.N s gc X.env.scope a = true → PS X a (tS X xc W G s)
  | .set i e, gc, G, X, xc, W, C, a, h => by
    simp only [ckS] at h
    split at h
    · rename_i x p v pos
      simp only [Bool.and_eq_true] at h
      obtain ⟨⟨⟨h1, h2⟩, h3⟩, h4⟩ := h
      have hk := kindF_ok h1
      obtain ⟨n1, n2⟩ := asg_nm h3
      refine s_set C ?_
      cases hs : swN X.env.scope x p v with
      | false =>
        have hsw : swapsWith v (some (.Name x p)) pos.line X.env = pure false := by rw [sw_name hk h2, hs]
        refine ps_set C.nd n1 ?_ (sE e C h4).pe hsw ?_
        · rcases n2 with q | ⟨q, _⟩
          · exact .inl q
          · exact .inr q
        · rcases n2 with q | ⟨_, q⟩
          · exact .inr q
          · exact .inl (C.fnl x q)
      | true =>
        cases v with
        | ListComp elt gs s lp => exact lc_set C hk n1 hs h4
        | _ => cases hs
    · cases h
  | .unp is e, gc, G, X, xc, W, C, a, h => by
    simp only [ckS] at h
    split at h
    · rename_i ns k p v pos
      simp only [Bool.and_eq_true, Bool.not_eq_true'] at h
      obtain ⟨⟨⟨h1, h2⟩, h3⟩, h4⟩ := h
      exact s_unp C (C.calm h2) h3 (sE e C h4).pe sole_tup (stores_none h1)
    · cases h
  | .par is es, gc, G, X, xc, W, C, a, h => by
    simp only [ckS] at h
    split at h
    · rename_i ns k p as k2 p2 pos
      simp only [Bool.and_eq_true, Bool.not_eq_true'] at h
      obtain ⟨⟨h1, h2⟩, h3⟩ := h
      have ih := (sEs es C h3).1
      unfold parB at h2
      simp only [Bool.and_eq_true] at h2
      obtain ⟨⟨⟨⟨k1, k2'⟩, k3⟩, k4⟩, k5⟩ := h2
      have hk := kindF_ok k1
      split at k5
      · rename_i hsp
        exact s_parT C (C.calm h1) k3 k2' ih.ps sole_tup (swP_ok hk hsp)
      · rename_i xs hsp
        have hw := swP_ok (k := k) (k2 := k2) (p := p) (p2 := p2) hk hsp
        simp only [Bool.and_eq_true, decide_eq_true_eq, Bool.or_eq_true, beq_iff_eq] at k5
        obtain ⟨⟨⟨q1, q2⟩, q3⟩, q4⟩ := k5
        subst q1
        have hnm : ∀ {i : Nat} {n : Expr}, asgB gc X.N X.env.scope i n = true → ∃ x p, n = .Name x p ∧ X.N[i]? = some x := fun {i n} h => by
          cases n with
          | Name x p => exact ⟨x, p, rfl, (asg_nm h).1⟩
          | _ => cases h
        match ns, is, k3, q3, q4, hw, q2, k4 with
        | [n1, n2], [i, j], k3, q3, q4, hw, q2, k4 =>
          simp only [asgsB, Bool.and_eq_true] at k3
          obtain ⟨x, px, rfl, e1⟩ := hnm k3.1
          obtain ⟨y, py, rfl, e2⟩ := hnm k3.2.1
          simp only [List.all_cons, List.all_nil, Bool.and_eq_true, beq_iff_eq, nmOf] at q2
          match as, q4, hw, ih with
          | [a, b], q4, hw, ih => exact s_par2 C (C.calm h1) e1 e2 (fun z => by subst z; simp at k4) q2.1 q2.2.1 ih.ps hw
        | [n1, n2, n3], [i, j, l], k3, q3, q4, hw, q2, k4 =>
          simp only [asgsB, Bool.and_eq_true] at k3
          obtain ⟨x, px, rfl, e1⟩ := hnm k3.1
          obtain ⟨y, py, rfl, e2⟩ := hnm k3.2.1
          obtain ⟨z, pz, rfl, e3⟩ := hnm k3.2.2.1
          simp only [List.all_cons, List.all_nil, Bool.and_eq_true, beq_iff_eq, nmOf] at q2
          match as, q4, hw, ih with
          | [a, b, c], q4, hw, ih => exact s_par3 C (C.calm h1) e1 e2 e3 (fun w => by subst w; simp at k4) (fun w => by subst w; simp at k4) (fun w => by subst w; simp at k4) q2.1 q2.2.1 q2.2.2.1 ih.ps hw
        | [], _, _, q3, _, _, _, _ => simp at q3
        | [_], _, _, q3, _, _, _, _ => simp at q3
        | _ :: _ :: _ :: _ :: _, _, _, q3, _, _, _, _ => simp at q3
        | [_, _], [], k3, _, _, _, _, _ => simp [asgsB] at k3
        | [_, _], [_], k3, _, _, _, _, _ => simp [asgsB] at k3
        | [_, _], _ :: _ :: _ :: _, k3, _, _, _, _, _ => simp [asgsB] at k3
        | [_, _, _], [], k3, _, _, _, _, _ => simp [asgsB] at k3
        | [_, _, _], [_], k3, _, _, _, _, _ => simp [asgsB] at k3
        | [_, _, _], [_, _], k3, _, _, _, _, _ => simp [asgsB] at k3
        | [_, _, _], _ :: _ :: _ :: _ :: _, k3, _, _, _, _, _ => simp [asgsB] at k3
      · cases k5
    · cases h
  | .sto i k e, gc, G, X, xc, W, C, a, h => by
    simp only [ckS] at h
    split at h
    · simp only [Bool.and_eq_true, decide_eq_true_eq] at h
      obtain ⟨⟨⟨⟨⟨h1, h2⟩, h3⟩, h4⟩, h5⟩, h6⟩ := h
      exact s_sto C h1 h2 h3 (sE k C h5).pe (sE e C h6).pe h4
    · cases h
  | .app i e, gc, G, X, xc, W, C, a, h => by
    simp only [ckS] at h
    split at h
    · simp only [Bool.and_eq_true, decide_eq_true_eq] at h
      obtain ⟨⟨⟨⟨⟨⟨rfl, h1⟩, h2⟩, h3⟩, h4⟩, h5⟩, h6⟩ := h
      exact s_app C h1 h2 h3 (sE e C h6).pe h4 h5
    · cases h
  | .ext i e, gc, G, X, xc, W, C, a, h => by
    simp only [ckS] at h
    split at h
    · simp only [Bool.and_eq_true, decide_eq_true_eq] at h
      obtain ⟨⟨⟨⟨⟨⟨rfl, h1⟩, h2⟩, h3⟩, h4⟩, h5⟩, h6⟩ := h
      exact s_ext C h1 h2 h3 (sE e C h6).pe h4 h5
    · cases h
  | .frz i, gc, G, X, xc, W, C, a, h => by simp only [ckS] at h; cases h
  | .lck i, gc, G, X, xc, W, C, a, h => by simp only [ckS] at h; cases h
  | .exp e, gc, G, X, xc, W, C, a, h => by
    simp only [ckS] at h
    split at h
    · simp only [Bool.and_eq_true] at h
      exact s_exp C (sE e C h.2).pe (sw_none h.1)
    · cases h
  | .ret e, gc, G, X, xc, W, C, a, h => by
    simp only [ckS] at h
    split at h
    · exact s_ret C (sE e C h).pe
    · cases h
  | .rse c m, gc, G, X, xc, W, C, a, h => by
    simp only [ckS] at h
    split at h
    · simp only [Bool.and_eq_true, decide_eq_true_eq, Bool.not_eq_true'] at h
      obtain ⟨⟨⟨⟨rfl, rfl⟩, h1⟩, h2⟩, h3⟩ := h
      exact s_rse C (C.calm h1) h2 h3
    · cases h
  | .ite t b c, gc, G, X, xc, W, C, a, h => by
    simp only [ckS] at h
    split at h
    · simp only [Bool.and_eq_true] at h
      obtain ⟨⟨⟨h1, h2⟩, h3⟩, h4⟩ := h
      exact s_ite C ((sE t C h2).pt h1) (sSs b C h3) (sSs c C h4)
    · cases h
  | .whl t b, gc, G, X, xc, W, C, a, h => by
    simp only [ckS] at h
    split at h
    · simp only [Bool.and_eq_true] at h
      obtain ⟨⟨h1, h2⟩, h3⟩ := h
      exact s_whl C ((sE t C h2).pt h1) (sSs b C h3)
    · cases h
  | .for_ tg it b, gc, G, X, xc, W, C, a, h => by
    simp only [ckS] at h
    split at h
    · simp only [Bool.and_eq_true, Bool.not_eq_true'] at h
      obtain ⟨⟨⟨⟨h1, h2⟩, h3⟩, h4⟩, h5⟩ := h
      exact s_for C (C.calm h1) (sI it C h4) (g_tg C (C.calm h1) h3) (sSs b C h5) h2
    · cases h
  | .try_ cs b i hd, gc, G, X, xc, W, C, a, h => by
    simp only [ckS] at h
    split at h
    · simp only [Bool.and_eq_true, decide_eq_true_eq, Bool.not_eq_true', beq_iff_eq] at h
      obtain ⟨⟨⟨⟨⟨⟨⟨⟨⟨rfl, h1⟩, h2⟩, h3⟩, h4⟩, h5⟩, h6⟩, h7⟩, h8⟩, h9⟩ := h
      refine s_try C h1 h2 h3 h4 h5 ?_ (fun c hc => List.all_eq_true.mp h7 c (by simpa using hc)) (fun W' pn xe tk po => sSs b (C.tr h1 tk po) h8) (fun a D oe pn k hz hf hk hm => sSs hd (C.sui hz hf hk hm) h9)
      cases he : gc.ein with
      | nil => rw [he] at h6; cases h6
      | cons c l => exact ⟨c, by simp⟩
    · cases h
theorem sSs : ∀ (s : Ss) {gc : GC} {G : Fns} {X : Cx} {xc : V → Str → Prop} {W : WX} (C : Ctx gc G X xc W) {a : List Stmt}, ckSs X.N s gc X.env.scope a = true → PSs X a (tSs X xc W G s)
  | .nil, gc, G, X, xc, W, C, a, h => by
    cases a with
    | nil => exact ss_nil
    | cons _ _ => simp [ckSs] at h
  | .cons s ss, gc, G, X, xc, W, C, a, h => by
    by_cases hf : ∃ i, s = .frz i
    · obtain ⟨i, rfl⟩ := hf
      simp only [ckSs] at h
      exact ss_frz (sSs ss C h)
    by_cases hl : ∃ i, s = .lck i
    · obtain ⟨i, rfl⟩ := hl
      simp only [ckSs] at h
      exact ss_lck (sSs ss C h)
    · cases a with
      | nil => cases s <;> first
        | (simp [ckSs] at h; done)
        | exact absurd ⟨_, rfl⟩ hf
        | exact absurd ⟨_, rfl⟩ hl
      | cons st sts =>
        have h' : (ckS X.N s gc X.env.scope st && ckSs X.N ss gc X.env.scope sts) = true := by
          cases s <;> first
            | (simpa only [ckSs] using h)
            | exact absurd ⟨_, rfl⟩ hf
            | exact absurd ⟨_, rfl⟩ hl
        simp only [Bool.and_eq_true] at h'
        exact ss_cons (sS s C h'.1) (sSs ss C h'.2)
end
end LS

set_option Elab.async false
set_option linter.all false
set_option maxRecDepth 100000
set_option maxHeartbeats 2000000
/-! LS16: a table of defs keeps its promises; the law. -/
namespace LS
open PySem PySem.Spec PyProof.Rows L2
/-- a def of the text: its name, its data form, how deep it calls itself (1: not at all), its names, its parameters, its statement -/
structure Row where
  x : Str
  d : Def
  n : Nat
  N : List Str
  ps : List Str
  st : Stmt
def rowsG : List Row → Fns → Fns
  | [], G => G
  | r :: rs, G => rowsG rs (recG G r.x r.d r.n)
def rowsL : List Row → Nat
  | [] => 0
  | r :: rs => r.n + rowsL rs
def gcE (cts : List (Str × Cst)) (exs ein : List Str) : GC := ⟨cts, exs, fun _ => true, false, ein, true, [], []⟩
abbrev gc0 (cts : List (Str × Cst)) (exs : List Str) : GC := gcE cts exs []
def ckRow (gc : GC) (r : Row) : Bool := C8.scC r.N r.ps (defScope r.st) && ckSs r.N r.d.body gc (defScope r.st) (defBody r.st) && decide (r.d.np = r.ps.length) && decide (r.d.nl = r.N.length)
def BindOk (r : Row) : Prop := ∀ (kV doc pm : Value) (an : Option Addr) (cdv ct : Value) (us : List Value), us.length = r.ps.length → bindArgs (PySem.W.fnOf r.x r.x (defArgs r.st) (defBody r.st) (defScope r.st) .none kV doc pm an cdv ct) ⟨us, []⟩ = pure (r.ps.zip us)
def AllBind : List Row → Prop
  | [] => True
  | r :: rs => BindOk r ∧ AllBind rs
/-- the module behind the top -/
structure ModOk (cts : List (Str × Cst)) (exs ein : List Str) (K : PySem.W.Frag) (mg : Str → Option Value) : Prop where
  bl : ∀ x, bnames.contains x = true → mg x = none
  ct : ∀ x c, cts.lookup x = some c → ∃ u, mg x = some u ∧ RelV c.v u
  ex : ∀ c, exs.contains c = true → ∃ (C : Addr) (B newId initId : String) (bmB : List Value), PySem.ExcBaseFacts B newId initId bmB ∧ PySem.W.excIn K C bmB newId = true ∧ mg c = some (.ref C) ∧ PySem.W.keepIn K (.ref C) = true ∧
    PySem.W.subIn K (.ref C) (.type "BaseException") = some true ∧ PySem.W.typeIn K (.ref C) = some (.type "type")
  ei : ∀ c, ein.contains c = true → ExiOk K mg ein c
def FnP (P : Program) (w : World) (K : PySem.W.Frag) (mg : Str → Option Value) (base : Heap) (lv : Nat) (x : Str) (g : List D → Option Rr) : Prop :=
  ∃ f fd ps k, mg x = some (.ref f) ∧ PySem.W.keepIn K (.ref f) = true ∧ Binds K fd ps [] ∧ k ≤ lv ∧ FnOk P w K mg base (L2.CX P w) k f fd ps (spD K mg g)
def TabOk (P : Program) (w : World) (K : PySem.W.Frag) (mg : Str → Option Value) (base : Heap) (lv : Nat) (G : Fns) : Prop := ∀ x g, LS.fnOf x G = some g → FnP P w K mg base lv x g
def entry (d : Def) (ds : List D) : En := ds.map .fz ++ List.replicate (d.nl - d.np) .un
theorem runDef_some {G : Fns} {d : Def} {ds : List D} {r : Rr} (h : runDef G d ds = some r) : ds.length = d.np ∧ ∃ q, evSs G d.body (entry d ds) = some q ∧ r = (match q with
    | .nx _ => .ret .non
    | .rt v => .ret v
    | .ex c _ => .exc c) := by
  unfold runDef at h
  split at h
  · rename_i hl
    refine ⟨hl, ?_⟩
    split at h
    · rename_i ρ' he; cases h; exact ⟨_, he, rfl⟩
    · rename_i v he; cases h; exact ⟨_, he, rfl⟩
    · rename_i c ρ' he; cases h; exact ⟨_, he, rfl⟩
    · cases h
  · cases h
section
variable {P : Program} {w : World} {K : PySem.W.Frag} {mg : Str → Option Value} {base : Heap} {xc : V → Str → Prop} {F H : Hp}
theorem look_app_fz : ∀ (ds : List D) (r : En) (i : Nat), i < ds.length → ∃ d, ds[i]? = some d ∧ look (ds.map .fz ++ r) i = .fz d
  | [], _, _, h => by simp at h
  | d :: ds, _, 0, _ => ⟨d, rfl, rfl⟩
  | d :: ds, r, i + 1, h => by
    obtain ⟨d', h1, h2⟩ := look_app_fz ds r i (by simpa using h)
    exact ⟨d', by simpa using h1, h2⟩
theorem look_app_un : ∀ (ds : List D) (n i : Nat), ds.length ≤ i → look (ds.map .fz ++ List.replicate n .un) i = .un
  | [], 0, _, _ => rfl
  | [], _ + 1, 0, _ => rfl
  | [], n + 1, i + 1, _ => look_app_un [] n i (Nat.zero_le _)
  | _ :: _, _, 0, h => by simp at h
  | _ :: ds, n, i + 1, h => look_app_un ds n i (by simpa using h)
theorem entry_rel {d : Def} {N : List Str} {ds : List D} {vs : List V} (s : Same F H) (rs : Reps K mg xc F vs ds) (hl : ds.length = d.np) (hn : d.nl = N.length) (hp : d.np ≤ N.length) : Rel K mg xc (F, H) F (entry d ds) (L2.start N vs) H := by
  have e := rs.length
  refine ⟨Ext.refl s, ?_, fun i => ?_, fun i j a b p _ hi _ _ _ => ?_⟩
  · unfold entry L2.start
    simp only [List.length_append, List.length_map, List.length_replicate]
    omega
  · by_cases h : i < ds.length
    · obtain ⟨d', h1, h2⟩ := look_app_fz ds (List.replicate (d.nl - d.np) .un) i h
      unfold entry
      rw [h2]
      obtain ⟨v, h3, h4⟩ := rs.get h1
      refine ⟨v, ?_, h4⟩
      unfold L2.start
      rw [List.getElem?_append_left (by simp; omega), List.getElem?_map, h3]
      rfl
    · unfold entry
      rw [look_app_un ds _ i (by omega)]
      trivial
  · by_cases h : i < ds.length
    · obtain ⟨d', h1, h2⟩ := look_app_fz ds (List.replicate (d.nl - d.np) .un) i h
      unfold entry at hi
      rw [h2] at hi
      cases hi
    · unfold entry at hi
      rw [look_app_un ds _ i (by omega)] at hi
      cases hi
theorem ckRow_ok {gc : GC} {r : Row} (h : ckRow gc r = true) : FnScope r.N r.ps (defScope r.st) ∧ ckSs r.N r.d.body gc (defScope r.st) (defBody r.st) = true ∧ r.d.np = r.ps.length ∧ r.d.nl = r.N.length ∧ r.d.np ≤ r.N.length := by
  unfold ckRow at h
  simp only [Bool.and_eq_true, decide_eq_true_eq] at h
  obtain ⟨⟨⟨h1, h2⟩, h3⟩, h4⟩ := h
  have S := C8.fnScope_by h1
  refine ⟨S, h2, h3, h4, ?_⟩
  have := congrArg List.length S.pre
  rw [List.length_take] at this
  omega
end
section
variable {P : Program} {w : World} {K : PySem.W.Frag} {mg : Str → Option Value} {base : Heap}
theorem ctx_of {CX : CXT} {cts : List (Str × Cst)} {exs ein : List Str} {lv : Nat} {G : Fns} {N : List Str} {x : Str} {sc : Scope} {f : Addr} {cdv : Value} {A : Around} {outer : List Env} {s : Shared} {H : Hp} {E : XK} {W : WX} (M : ModOk cts exs ein K mg) (T : TabOk P w K mg base lv G) (nd : N.Nodup)
    (hr : Room lv (A.deeper (envOfC x sc s.heap.objs.size f cdv))) (tk : Takes (cxOf CX P w K mg base N x sc f cdv A outer s H E) W) : Ctx (gcE cts exs ein) G (cxOf CX P w K mg base N x sc f cdv A outer s H E) nox W where
  nd := nd
  calm := fun _ => rfl
  hu := by
    have := hr.un
    show (A.deeper (envOfC x sc s.heap.objs.size f cdv)).units + 65 < cLine
    omega
  nx := fun _ => rfl
  fnl := fun _ _ => rfl
  bl := M.bl
  ct := M.ct
  mn := fun y h => nomatch h
  cl := fun c fs h => nomatch h
  mt := fun k c m h => by cases h
  fn := fun y g _ h => by
    obtain ⟨f', fd', ps', k, a1, a2, a3, a4, a5⟩ := T y g h
    exact ⟨f', fd', ps', k, a1, a2, a3, fun _ => hr.mono a4, a5⟩
  tk := tk
  po := passes_of (K := fun e s'' => CX outer H s E e s'') rfl
  ex := M.ex
  ei := M.ei
  ht := fun h => nomatch h
  stk := fun _ => ⟨rfl, rfl⟩
theorem tab_one {cts : List (Str × Cst)} {exs ein : List Str} {lv : Nat} {G : Fns} {r : Row} {f : Addr} {fd : FuncData} (M : ModOk cts exs ein K mg) (T : TabOk P w K mg base lv G) (hk : ckRow (gcE cts exs ein) r = true)
    (F : FunD K r.x r.x (defArgs r.st) (defBody r.st) (defScope r.st) [] [] f fd) (hm : mg r.x = some (.ref f)) (B : BindOk r) : TabOk P w K mg base (lv + 1) ((r.x, runDef G r.d) :: G) := by
  obtain ⟨S, h1, h2, h3, h4⟩ := ckRow_ok hk
  intro y g hg
  have hg' : (if r.x = y then some (runDef G r.d) else LS.fnOf y G) = some g := hg
  split at hg'
  · rename_i e
    subst e
    cases hg'
    refine ⟨f, fd, r.ps, lv + 1, hm, F.kp, F.bindsN B, Nat.le_refl _, ?_⟩
    refine F.ok S (fun vs H Q E h => ?_) (fun cdv A outer s H vs Q E hr h => ?_)
    · obtain ⟨F', ds, q, _, rs, hrun, _⟩ := h
      rw [rs.length, (runDef_some hrun).1, h2]
    · obtain ⟨F', ds, q, sF, rs, hrun, post⟩ := h
      obtain ⟨hl, qo, hev, hq⟩ := runDef_some hrun
      have C := ctx_of (CX := L2.CX P w) (N := r.N) (x := r.x) (sc := defScope r.st) (f := f) (cdv := cdv) (outer := outer) (s := s) (H := H) (E := E) M T S.nd hr (W := fun cls d _ H => E cls d H) (takes_of rfl rfl rfl rfl)
      refine ⟨_, sSs r.d.body C h1, ⟨(F', H), F', _, qo, entry_rel sF rs hl h3 h4, hev, ?_⟩⟩
      cases qo with
      | nx ρ' =>
        subst hq
        exact fun F2 σ' H2 _ R => post .non F2 H2 R.base .non
      | rt d =>
        subst hq
        exact fun v F2 H2 x rep => post v F2 H2 x rep
      | ex c ρ' =>
        subst hq
        exact fun C' F2 σ' H2 hc R => post C' F2 H2 hc R.base
  · obtain ⟨f', fd', ps', k, a1, a2, a3, a4, a5⟩ := T y g hg'
    exact ⟨f', fd', ps', k, a1, a2, a3, Nat.le_succ_of_le a4, a5⟩
theorem tab_rec {cts : List (Str × Cst)} {exs ein : List Str} {lv : Nat} {G : Fns} {r : Row} {f : Addr} {fd : FuncData} (M : ModOk cts exs ein K mg) (T : TabOk P w K mg base lv G) (hk : ckRow (gcE cts exs ein) r = true)
    (F : FunD K r.x r.x (defArgs r.st) (defBody r.st) (defScope r.st) [] [] f fd) (hm : mg r.x = some (.ref f)) (B : BindOk r) : ∀ n, TabOk P w K mg base (lv + n) (recG G r.x r.d n)
  | 0 => T
  | n + 1 => tab_one M (tab_rec M T hk F hm B n) hk F hm B
def RowFact (K : PySem.W.Frag) (mg : Str → Option Value) (r : Row) : Prop := ∃ f fd, FunD K r.x r.x (defArgs r.st) (defBody r.st) (defScope r.st) [] [] f fd ∧ mg r.x = some (.ref f)
theorem tab_rows {cts : List (Str × Cst)} {exs ein : List Str} (M : ModOk cts exs ein K mg) : ∀ (rows : List Row) (lv : Nat) (G : Fns), TabOk P w K mg base lv G → rows.all (ckRow (gcE cts exs ein)) = true → (∀ r ∈ rows, RowFact K mg r) → AllBind rows → TabOk P w K mg base (lv + rowsL rows) (rowsG rows G)
  | [], _, _, T, _, _, _ => T
  | r :: rs, lv, G, T, hk, hf, hb => by
    simp only [List.all_cons, Bool.and_eq_true] at hk
    obtain ⟨f, fd, F, hm⟩ := hf r List.mem_cons_self
    have T' := tab_rec M T hk.1 F hm hb.1 r.n
    have := tab_rows M rs _ _ T' hk.2 (fun q hq => hf q (List.mem_cons_of_mem _ hq)) hb.2
    show TabOk P w K mg base (lv + (r.n + rowsL rs)) (rowsG rs (recG G r.x r.d r.n))
    rw [← Nat.add_assoc]
    exact this
/-- the law's promise -/
def spL (K : PySem.W.Frag) (mg : Str → Option Value) (g : List D → Option Rr) : Sp := fun vs H Q _ => ∃ F ds d, Same F H ∧ Reps K mg nox F vs ds ∧ g ds = some (.ret d) ∧ ∀ v F' H', Ext F H F' H' → Rep K mg nox F' v d → Q v H'
theorem law_fn {cts : List (Str × Cst)} {exs ein : List Str} {lv : Nat} {G : Fns} {r : Row} {f : Addr} {fd : FuncData} (M : ModOk cts exs ein K mg) (T : TabOk P w K mg base lv G) (hk : ckRow (gcE cts exs ein) r = true)
    (F : FunD K r.x r.x (defArgs r.st) (defBody r.st) (defScope r.st) [] [] f fd) : FnOk P w K mg base CX0 (lv + 1) f fd r.ps (spL K mg (runDef G r.d)) := by
  obtain ⟨S, h1, h2, h3, h4⟩ := ckRow_ok hk
  refine F.ok S (fun vs H Q E h => ?_) (fun cdv A outer s H vs Q E hr h => ?_)
  · obtain ⟨F', ds, q, _, rs, hrun, _⟩ := h
    rw [rs.length, (runDef_some hrun).1, h2]
  · obtain ⟨F', ds, q, sF, rs, hrun, post⟩ := h
    obtain ⟨hl, qo, hev, hq⟩ := runDef_some hrun
    have C := ctx_of (CX := CX0) (N := r.N) (x := r.x) (sc := defScope r.st) (f := f) (cdv := cdv) (outer := outer) (s := s) (H := H) (E := E) M T S.nd hr (W := W0) takes_0
    refine ⟨_, sSs r.d.body C h1, ⟨(F', H), F', _, qo, entry_rel sF rs hl h3 h4, hev, ?_⟩⟩
    cases qo with
    | nx ρ' =>
      cases hq
      exact fun F2 σ' H2 _ R => post .non F2 H2 R.base .non
    | rt d =>
      cases hq
      exact fun v F2 H2 x rep => post v F2 H2 x rep
    | ex c ρ' => cases hq
def Row.defD (r : Row) : He.DefD := ⟨(r.x, none), r.x, r.x, defArgs r.st, defBody r.st, defScope r.st, [], []⟩
def cFa : Str × Cst → He.Fa
  | (x, .int i) => .int x i
  | (x, .str z) => .str x z
  | (x, _) => .glo x
def cOk : Str × Cst → Bool
  | (_, .int _) => true
  | (_, .str _) => true
  | _ => false
def fnL (rows : List Row) (lr : Row) : List He.DefD := rows.map Row.defD ++ [lr.defD]
def faL (rows : List Row) (lr : Row) (cts : List (Str × Cst)) (exs : List Str) : List He.Fa := rows.map (fun r => .glo r.x) ++ (.glo lr.x :: (cts.map cFa ++ (exs.map (fun x => .glo x) ++ (exs.map (fun x => .exc x) ++ bnames.map fun x => .free x))))
theorem fact_mem {fa : List He.Fa} {fn : List He.DefD} (c : He.SaysD fa fn K) {f : He.Fa} (h : f ∈ fa) : f.ok K = true := by
  obtain ⟨i, hi, e⟩ := List.getElem_of_mem h
  exact c.fact i (by rw [List.getElem?_eq_getElem hi, e])
theorem def_mem {fa : List He.Fa} {fn : List He.DefD} (c : He.SaysD fa fn K) {d : He.DefD} (h : d ∈ fn) : ∃ fd, FunD K d.name d.qual d.params d.body d.scope (d.dvs K) (d.kws K) (He.fAd K d.at_) fd := by
  obtain ⟨i, hi, e⟩ := List.getElem_of_mem h
  exact c.def_ i (by rw [List.getElem?_eq_getElem hi, e])
theorem mod_of {rows : List Row} {lr : Row} {cts : List (Str × Cst)} {exs ein : List Str} {fn : List He.DefD} {h : Heap} (X : K.In h) (Gm : h.Ns mainGlobals mg) (c : He.SaysD (faL rows lr cts exs) fn K) (hc : cts.all cOk = true) (he : ∀ c, ein.contains c = true → ExiOk K mg ein c) : ModOk cts exs ein K mg := by
  refine ⟨fun x hx => ?_, fun x k hx => ?_, fun x hx => ?_, he⟩
  · have hm : x ∈ bnames := by simpa using hx
    exact He.free_ok X Gm (fact_mem c (f := .free x) (by unfold faL; simp [hm]))
  · have hm : (x, k) ∈ cts := PySem.mem_of_lookup hx
    have hf : cFa (x, k) ∈ faL rows lr cts exs := by
      unfold faL
      exact List.mem_append_right _ (List.mem_cons_of_mem _ (List.mem_append_left _ (List.mem_map_of_mem hm)))
    have hk := List.all_eq_true.mp hc _ hm
    cases k with
    | int i =>
      obtain ⟨t, e⟩ := He.int_ok X Gm (fact_mem c hf)
      exact ⟨_, e, ⟨t, rfl⟩⟩
    | str z =>
      obtain ⟨t, e⟩ := He.str_ok X Gm (fact_mem c hf)
      exact ⟨_, e, ⟨t, rfl⟩⟩
    | _ => cases hk
  · have hm : x ∈ exs := by simpa using hx
    have h1 := He.glo_ok X Gm (fact_mem c (f := .glo x) (by unfold faL; simp [hm]))
    obtain ⟨e1, e2, e3, e4⟩ := He.exc_ok (fact_mem c (f := .exc x) (by unfold faL; simp [hm]))
    exact ⟨_, "ValueError", "ValueError.__new__", "ValueError.__init__", _, PySem.F.excBase_ValueError, e1, h1, e2, e3, e4⟩
theorem law_facts {rows : List Row} {lr : Row} {cts : List (Str × Cst)} {exs ein : List Str} {h : Heap} {f : Addr} {x : Str} (X : K.In h) (Gm : h.Ns mainGlobals mg) (c : He.SaysD (faL rows lr cts exs) (fnL rows lr) K) (hc : cts.all cOk = true) (he : ∀ c, ein.contains c = true → ExiOk K mg ein c)
    (hr : rows.all (ckRow (gcE cts exs ein)) = true) (hl : ckRow (gcE cts exs ein) lr = true) (hb : AllBind rows) (hbl : BindOk lr) (hps : lr.ps = [x]) (hfa : mg lr.x = some (.ref f)) :
    ∃ fd : FuncData, (∀ (s : Shared) (v : Value), BindsTo s fd ⟨[v], []⟩ [(x, v)]) ∧ ∀ (P : Program) (w : World) (base : Heap), K.In base → base.Ns mainGlobals mg → FnOk P w K mg base CX0 (rowsL rows + 1) f fd [x] (spL K mg (runDef (rowsG rows []) lr.d)) := by
  have M := mod_of X Gm c hc he
  obtain ⟨fd, F⟩ := def_mem c (d := lr.defD) (by unfold fnL; simp)
  have e0 := He.glo_ok X Gm (fact_mem c (f := .glo lr.x) (by unfold faL; simp))
  have e := hfa.symm.trans e0
  cases e
  have F' : FunD K lr.x lr.x (defArgs lr.st) (defBody lr.st) (defScope lr.st) [] [] (He.ga K lr.x) fd := F
  refine ⟨fd, fun s v => ?_, fun P w base _ _ => ?_⟩
  · have b := FunD.bindsA F' hbl s [v] (by rw [hps]; rfl)
    rw [hps] at b
    exact b
  · rw [← hps]
    have T0 : TabOk P w K mg base 0 [] := fun x g h => nomatch h
    have T := tab_rows M rows 0 [] T0 hr (fun r hr' => ?_) hb
    · rw [Nat.zero_add] at T
      exact law_fn M T hl F'
    · obtain ⟨fd', F1⟩ := def_mem c (d := r.defD) (by unfold fnL; exact List.mem_append_left _ (List.mem_map_of_mem hr'))
      have e1 := He.glo_ok X Gm (fact_mem c (f := .glo r.x) (by unfold faL; exact List.mem_append_left _ (List.mem_map_of_mem (f := fun r => He.Fa.glo r.x) hr')))
      exact ⟨_, fd', F1, e1⟩
theorem law_sp {g : List D → Option Rr} {ns : List Int} {H : Hp} {a : Addr} (hg : g [.scr ns] = some (.ret (.bl true))) (hS : SqL K H a (ns.map V.int)) : spL K mg g [.ref a] H (fun v _ => v = .bl true) fun _ _ _ => False :=
  ⟨H, [.scr ns], .bl true, Same.refl _, .cons (.scr hS) .nil, hg, fun v F' H' x rep => by cases rep; rfl⟩
end
/-! ### the classes that are caught -/
def excB (K : PySem.W.Frag) (D : Addr) : Bool :=
  He.eqO (PySem.W.findIn K (.ref D) "__getattribute__") (some (some (.builtin "BaseException.__getattribute__"))) && (He.eqO (PySem.W.findIn K (.ref D) "__getattr__") (some none) && (decide (PySem.W.subIn K (.ref D) (.type "BaseException") = some true) && (PySem.W.hasDictIn K D &&
  (He.eqO (PySem.W.findIn K (.ref D) "__class__") (some (some (.builtin "object.__class__"))) && (He.eqO (PySem.W.specialIn K (.builtin "object.__class__") "__get__") (some (some (.builtin "getset_descriptor.__get__"))) && (decide (PySem.W.takesIn K (.builtin "object.__class__") = some true) && decide (PySem.W.mroIn K D (.type "object") = some true)))))))
theorem excB_ok {K : PySem.W.Frag} {D : Addr} (h : excB K D = true) : L2.ExcC K D := by
  unfold excB at h
  obtain ⟨h1, h⟩ := He.ba h
  obtain ⟨h2, h⟩ := He.ba h
  obtain ⟨h3, h⟩ := He.ba h
  obtain ⟨h4, h⟩ := He.ba h
  obtain ⟨h5, h⟩ := He.ba h
  obtain ⟨h6, h⟩ := He.ba h
  obtain ⟨h7, h8⟩ := He.ba h
  exact ⟨He.eqO_ok h1, He.eqO_ok h2, of_decide_eq_true h3, h4, He.eqO_ok h5, He.eqO_ok h6, of_decide_eq_true h7, of_decide_eq_true h8⟩
def einB (ein : List Str) (K : PySem.W.Frag) : Bool := ein.all fun c => excB K (He.ga K c) && (decide (PySem.W.exmOne K (.ref (He.ga K c)) (.ref (He.ga K "LimitError")) = some true) && ein.all fun c' => decide (PySem.W.kitOne K (.ref (He.ga K c)) (.ref (He.ga K c')) = some (c == c')))
theorem ei_of {rows : List Row} {lr : Row} {cts : List (Str × Cst)} {exs ein : List Str} {fn : List He.DefD} {K : PySem.W.Frag} {mg : Str → Option Value} {h : Heap} (X : K.In h) (Gm : h.Ns mainGlobals mg) (c : He.SaysD (faL rows lr cts exs) fn K) (hb : einB ein K = true) (h1 : ein.all (fun x => exs.contains x) = true) (h2 : exs.contains "LimitError" = true) :
    ∀ x, ein.contains x = true → ExiOk K mg ein x := fun x hx => by
  have glo : ∀ y, exs.contains y = true → mg y = some (.ref (He.ga K y)) := fun y hy => by
    have hm : y ∈ exs := by simpa using hy
    exact He.glo_ok X Gm (fact_mem c (f := .glo y) (by unfold faL; simp [hm]))
  have hx' : x ∈ ein := by simpa using hx
  obtain ⟨b1, b2⟩ := He.ba (List.all_eq_true.mp hb x hx')
  obtain ⟨b3, b4⟩ := He.ba b2
  refine ⟨_, _, glo x (List.all_eq_true.mp h1 x hx'), glo _ h2, excB_ok b1, of_decide_eq_true b3, fun c' hc' => ?_⟩
  have hc2 : c' ∈ ein := by simpa using hc'
  exact ⟨_, glo c' (List.all_eq_true.mp h1 c' hc2), of_decide_eq_true (List.all_eq_true.mp b4 c' hc2)⟩
theorem ei_nil {K : PySem.W.Frag} {mg : Str → Option Value} : ∀ x, ([] : List Str).contains x = true → ExiOk K mg [] x := fun _ h => nomatch h
/-! ### a hook with one more Bool -/
abbrev AlY : Type := He.AlD × Bool
def obsY (n : Nat) (fa : List He.Fa) (fn : List He.DefD) (ex : PySem.W.Frag → Bool) (g : Addr → Option Obj) : AlY := (He.obsDG n fa fn g, ex (He.frG g (He.asD g n)))
def hookY (n : Nat) (fa : List He.Fa) (fn : List He.DefD) (ex : PySem.W.Frag → Bool) : PySem.W.Hook where
  α := AlY
  obs := fun s => obsY n fa fn ex s.heap.get?
  val := fun _ => (He.valD fn, true)
  says := fun _ h => ∃ K : PySem.W.Frag, K.In h ∧ He.SaysD fa fn K ∧ ex K = true
  of := fun _ _ e => ⟨_, He.frG_in, congrArg (fun z : AlY => z.1) e, congrArg (fun z : AlY => z.2) e⟩
  keeps := fun _ _ _ ⟨K, hK, c⟩ k => ⟨K, PySem.W.Frag.In.keeps hK k, c⟩
theorem obsY_eq {n : Nat} {fa : List He.Fa} {fn : List He.DefD} {ex : PySem.W.Frag → Bool} {g : Addr → Option Obj} {s : Shared} (h : ∀ a, g a = s.heap.get? a) : obsY n fa fn ex g = (hookY n fa fn ex).obs s := by
  have e : g = s.heap.get? := funext h
  rw [e] <;> rfl
end LS

set_option Elab.async false
set_option linter.all false
set_option maxRecDepth 100000
set_option maxHeartbeats 1000000
/-! LS17: the interpreter by rewriting. -/
namespace LS
open PySem PySem.Spec PyProof.Rows L2
section
variable {G : Fns} {ρ : En}
@[simp] theorem bnd_v {m : Mk} {d : D} {k : Mk → D → Option Ro} : bnd (some (.v m d)) k = k m d := rfl
@[simp] theorem bnd_x {c : Str} {k : Mk → D → Option Ro} : bnd (some (.x c)) k = some (.x c) := rfl
@[simp] theorem bndL_v {ds : List D} {k : List D → Option Ro} : bndL (some (.v ds)) k = k ds := rfl
@[simp] theorem bndL_x {c : Str} {k : List D → Option Ro} : bndL (some (.x c)) k = some (.x c) := rfl
@[simp] theorem cl_eq (d : D) : cl d = some (.v .cl d) := rfl
@[simp] theorem fr_eq (d : D) : fr d = some (.v .fr d) := rfl
@[simp] theorem clO_some (d : D) : clO (some d) = some (.v .cl d) := rfl
@[simp] theorem blO_some (b : Bool) : blO (some b) = some (.v .cl (.bl b)) := rfl
@[simp] theorem rrO_ret (d : D) : rrO (some (.ret d)) = some (.v .cl d) := rfl
@[simp] theorem rrO_exc (c : Str) : rrO (some (.exc c)) = some (.x c) := rfl
@[simp] theorem look_zero (s : SV) (r : En) : look (s :: r) 0 = s := rfl
@[simp] theorem look_succ (s : SV) (r : En) (n : Nat) : look (s :: r) (n + 1) = look r n := rfl
@[simp] theorem ev_var (i : Nat) : evE G (.var i) ρ = (match look ρ i with
    | .fz d => some (.v .cl d)
    | .ow d => some (.v .raw d)
    | .bg _ d => some (.v .raw d)
    | .un => none) := rfl
@[simp] theorem ev_fld (i : Nat) (c x : Str) : evE G (.fld i c x) ρ = fldX c x (look ρ i) := rfl
@[simp] theorem ev_mcl (i : Nat) (c m k : Str) : evE G (.mcl i c m k) ρ = mclX G c k (look ρ i) := rfl
@[simp] theorem ev_oln (i : Nat) (c k : Str) : evE G (.oln i c k) ρ = olnX (mclX G c k (look ρ i)) := rfl
@[simp] theorem ev_int (i : Int) : evE G (.cst (.int i)) ρ = some (.v .cl (.int i)) := rfl
@[simp] theorem ev_bl (i : Bool) : evE G (.cst (.bl i)) ρ = some (.v .cl (.bl i)) := rfl
@[simp] theorem ev_str (i : Str) : evE G (.cst (.str i)) ρ = some (.v .cl (.str i)) := rfl
@[simp] theorem ev_non : evE G (.cst .non) ρ = some (.v .cl .non) := rfl
@[simp] theorem ev_gint (x : Str) (i : Int) : evE G (.glb x (.int i)) ρ = some (.v .cl (.int i)) := rfl
@[simp] theorem ev_gstr (x : Str) (i : Str) : evE G (.glb x (.str i)) ρ = some (.v .cl (.str i)) := rfl
@[simp] theorem ev_neg (a : E) : evE G (.neg a) ρ = (bnd (evE G a ρ) fun _ d => match d with
    | .int i => some (.v .cl (.int (-i)))
    | _ => none) := rfl
@[simp] theorem ev_not (a : E) : evE G (.not a) ρ = (bnd (evE G a ρ) fun _ d => match d with
    | .bl b => some (.v .cl (.bl (!b)))
    | _ => none) := rfl
@[simp] theorem ev_tup (es : Es) : evE G (.tup es) ρ = (bndL (evEs G es ρ) fun ds => if Nat.ble ds.length LINE then some (.v .cl (.tup ds)) else none) := rfl
@[simp] theorem ev_lst (es : Es) : evE G (.lst es) ρ = (bndL (evEs G es ρ) fun ds => if Nat.ble ds.length LINE then some (.v .fr (.lst ds)) else none) := rfl
@[simp] theorem ev_dnt : evE G .dnt ρ = some (.v .fr (.dct [])) := rfl
@[simp] theorem ev_dnk : evE G .dnk ρ = some (.v .fr (.dck [])) := rfl
@[simp] theorem ev_bin (o : BO) (a b : E) : evE G (.bin o a b) ρ = (bnd (evE G a ρ) fun _ x => bnd (evE G b ρ) fun _ y => bop o x y) := rfl
@[simp] theorem ev_cmp (o : CO) (a b : E) : evE G (.cmp o a b) ρ = (bnd (evE G a ρ) fun _ x => bnd (evE G b ρ) fun _ y => blO (cop o x y)) := rfl
@[simp] theorem ev_chain (o1 o2 : CO) (a b c : E) : evE G (.chain o1 o2 a b c) ρ = (bnd (evE G a ρ) fun _ x => bnd (evE G b ρ) fun _ y => match cop o1 x y with
    | some true => bnd (evE G c ρ) fun _ z => blO (cop o2 y z)
    | some false => some (.v .cl (.bl false))
    | none => none) := rfl
@[simp] theorem ev_and (es : Es) : evE G (.and es) ρ = evA G es ρ := rfl
@[simp] theorem ev_or (es : Es) : evE G (.or es) ρ = evO G es ρ := rfl
@[simp] theorem ev_ite (t a b : E) : evE G (.ite t a b) ρ = (bnd (evE G t ρ) fun _ d => match d with
    | .bl true => evE G a ρ
    | .bl false => evE G b ρ
    | _ => none) := rfl
@[simp] theorem ev_ix (a b : E) : evE G (.ix a b) ρ = (bnd (evE G a ρ) fun _ x => bnd (evE G b ρ) fun _ y => clO (ixD x y)) := rfl
@[simp] theorem ev_sl (a : E) (lo hi : OE) : evE G (.sl a lo hi) ρ = (bnd (evE G a ρ) fun _ x => match evP G lo ρ with
    | some l => (match evP G hi ρ with
      | some h => slD x l h
      | none => none)
    | none => none) := rfl
@[simp] theorem ev_fn (f : Str) (es : Es) : evE G (.fn f es) ρ = (match LS.fnOf f G with
    | some g => bndL (evEs G es ρ) fun ds => rrO (g ds)
    | none => none) := rfl
@[simp] theorem ev_b1 (o : B1) (a : E) : evE G (.b1 o a) ρ = (bnd (evE G a ρ) fun _ x => b1D o x) := rfl
@[simp] theorem ev_b2 (o : B2) (a b : E) : evE G (.b2 o a b) ρ = (bnd (evE G a ρ) fun _ x => bnd (evE G b ρ) fun _ y => b2D o x y) := rfl
@[simp] theorem ev_isi (a : E) (t : String) : evE G (.isi a t) ρ = (bnd (evE G a ρ) fun _ x => blO (isiD x t)) := rfl
@[simp] theorem ev_mth (m : MT) (o : E) (es : Es) : evE G (.mth m o es) ρ = (bnd (evE G o ρ) fun _ x => if mtT m x then bndL (evEs G es ρ) fun ds => mtD m x ds else none) := rfl
@[simp] theorem ev_lc (elt : E) (tg : Tg) (it : It) (c : OE) (own : List Nat) : evE G (.lc elt tg it c own) ρ = (match evI G it ρ with
    | some ds => (match turns (fLc G elt tg c (wipes ρ own)) ds with
      | some ys => if Nat.ble ys.length LINE then some (.v .fr (.lst ys)) else none
      | none => none)
    | none => none) := rfl
def fLc2 (G : Fns) (elt : E) (tg : Tg) (tg1 : Tg) (it1 : It) (own1 : List Nat) (ρ : En) : D → Option (List D) := fun d => match bindT tg d ρ with
  | some ρ' => (match evI G it1 ρ' with
    | some es => turns (fLc G elt tg1 .no (wipes ρ' own1)) es
    | none => none)
  | none => none
@[simp] theorem ev_lc2 (elt : E) (tg : Tg) (it : It) (tg1 : Tg) (it1 : It) (own own1 : List Nat) : evE G (.lc2 elt tg it tg1 it1 own own1) ρ = (match evI G it ρ with
    | some ds => (match turns (fLc2 G elt tg tg1 it1 own1 (wipes ρ own)) ds with
      | some ys => if Nat.ble ys.length LINE then some (.v .fr (.lst ys)) else none
      | none => none)
    | none => none) := rfl
@[simp] theorem evs_nil : evEs G .nil ρ = some (.v []) := rfl
@[simp] theorem evs_cons (e : E) (es : Es) : evEs G (.cons e es) ρ = (match evE G e ρ with
    | some (.v .cl d) => (match evEs G es ρ with
      | some (.v ds) => some (.v (d :: ds))
      | r => r)
    | some (.v .fr d) => (match evEs G es ρ with
      | some (.v ds) => some (.v (d :: ds))
      | r => r)
    | some (.v .raw _) => none
    | some (.x c) => some (.x c)
    | none => none) := rfl
@[simp] theorem eva_one (e : E) : evA G (.cons e .nil) ρ = (bnd (evE G e ρ) fun _ d => match d with
      | .bl b => some (.v .cl (.bl b))
      | _ => none) := rfl
@[simp] theorem eva_cons (e f : E) (es : Es) : evA G (.cons e (.cons f es)) ρ = (bnd (evE G e ρ) fun _ d => match d with
      | .bl true => evA G (.cons f es) ρ
      | .bl false => some (.v .cl (.bl false))
      | _ => none) := rfl
@[simp] theorem evo_one (e : E) : evO G (.cons e .nil) ρ = (bnd (evE G e ρ) fun _ d => match d with
      | .bl b => some (.v .cl (.bl b))
      | _ => none) := rfl
@[simp] theorem evo_cons (e f : E) (es : Es) : evO G (.cons e (.cons f es)) ρ = (bnd (evE G e ρ) fun _ d => match d with
      | .bl true => some (.v .cl (.bl true))
      | .bl false => evO G (.cons f es) ρ
      | _ => none) := rfl
@[simp] theorem evp_no : evP G .no ρ = some none := rfl
@[simp] theorem evp_so (e : E) : evP G (.so e) ρ = (match evE G e ρ with
    | some (.v _ (.int i)) => some (some i)
    | _ => none) := rfl
@[simp] theorem evc_no : evC G .no ρ = some true := rfl
@[simp] theorem evc_so (e : E) : evC G (.so e) ρ = (match evE G e ρ with
    | some (.v _ (.bl b)) => some b
    | _ => none) := rfl
@[simp] theorem evi_seq (e : E) : evI G (.seq e) ρ = (match evE G e ρ with
    | some (.v .cl d) => seqD d
    | some (.v .fr d) => seqD d
    | _ => none) := rfl
@[simp] theorem evi_rng (a : E) : evI G (.rng a) ρ = (match evE G a ρ with
    | some (.v _ (.int i)) => if rangeOk i then some (rangeD 0 i) else none
    | _ => none) := rfl
@[simp] theorem evi_rng2 (a b : E) : evI G (.rng2 a b) ρ = (match evE G a ρ with
    | some (.v _ (.int i)) => (match evE G b ρ with
      | some (.v _ (.int j)) => if rangeOk i && rangeOk j then some (rangeD i j) else none
      | _ => none)
    | _ => none) := rfl
@[simp] theorem evi_enum (e : E) : evI G (.enum e) ρ = (match evE G e ρ with
    | some (.v .cl d) => enumD d
    | some (.v .fr d) => enumD d
    | _ => none) := rfl
@[simp] theorem evi_zip (es : Es) : evI G (.zip es) ρ = (match evEs G es ρ with
    | some (.v [x, y]) => zip2 x y
    | _ => none) := rfl
@[simp] theorem ev_fnv (x : Str) : evE G (.fnv x) ρ = (if (LS.fnOf x G).isSome then some (.v .cl (.fnv x)) else none) := rfl
@[simp] theorem ev_fnx (g : E) (es : Es) : evE G (.fnx g es) ρ = (bnd (evE G g ρ) fun _ x => match x with
    | .fnv f => match LS.fnOf f G with
      | some g => bndL (evEs G es ρ) fun ds => rrO (g ds)
      | none => none
    | _ => none) := rfl
@[simp] theorem ev_ise (i : Nat) (c : Str) : evE G (.ise i c) ρ = (match look ρ i with
    | .fz (.exc k) => some (.v .cl (.bl (k == c)))
    | _ => none) := rfl
@[simp] theorem evi_zip3 (es : Es) : evI G (.zip3 es) ρ = (match evEs G es ρ with
    | some (.v [x, y, z]) => zip3 x y z
    | _ => none) := rfl
@[simp] theorem flc_eq (elt : E) (tg : Tg) (c : OE) (d : D) : fLc G elt tg c ρ d = (match bindT tg d ρ with
  | some ρ' => (match evC G c ρ' with
    | some true => (match evE G elt ρ' with
      | some (.v .cl y) => some [y]
      | some (.v .fr y) => some [y]
      | _ => none)
    | some false => some []
    | none => none)
  | none => none) := rfl
@[simp] theorem bind_one (i : Nat) (d : D) : bindT (.one i) d ρ = some (ρ.set i (.fz d)) := rfl
@[simp] theorem bind_many (is : List Nat) (ds : List D) : bindT (.many is) (.tup ds) ρ = (if is.length = ds.length then some (setAll is ds ρ) else none) := rfl
@[simp] theorem bind_two (i : Nat) (is : List Nat) (d : D) (ds : List D) : bindT (.two i is) (.tup [d, .tup ds]) ρ = (if is.length = ds.length then some (setAll is ds (ρ.set i (.fz d))) else none) := rfl
@[simp] theorem setAll_nil (ds : List D) : setAll [] ds ρ = ρ := rfl
@[simp] theorem setAll_cons (i : Nat) (is : List Nat) (d : D) (ds : List D) : setAll (i :: is) (d :: ds) ρ = setAll is ds (ρ.set i (.fz d)) := rfl
@[simp] theorem setSV_nil (ds : List SV) : setSV [] ds ρ = ρ := rfl
@[simp] theorem setSV_cons (i : Nat) (is : List Nat) (d : SV) (ds : List SV) : setSV (i :: is) (d :: ds) ρ = setSV is ds (ρ.set i d) := rfl
@[simp] theorem wipes_nil : wipes ρ [] = ρ := rfl
@[simp] theorem wipes_cons (i : Nat) (is : List Nat) : wipes ρ (i :: is) = (wipes ρ is).set i .un := rfl
@[simp] theorem evps_nil : evPs G .nil ρ = some [] := rfl
@[simp] theorem evps_cons (e : E) (es : Es) : evPs G (.cons e es) ρ = (match evE G e ρ with
    | some (.v m d) => (match stv m d with
      | some s => (match evPs G es ρ with
        | some r => some (s :: r)
        | none => none)
      | none => none)
    | _ => none) := rfl
@[simp] theorem stv_cl (d : D) : stv .cl d = some (.fz d) := rfl
@[simp] theorem stv_fr (d : D) : stv .fr d = some (.ow d) := rfl
@[simp] theorem cleanE_cl (d : D) : cleanE (some (.v .cl d)) = some d := rfl
@[simp] theorem cleanE_fr (d : D) : cleanE (some (.v .fr d)) = some d := rfl
@[simp] theorem ev_set (i : Nat) (e : E) : evS G (.set i e) ρ = (match evE G e ρ with
    | some (.v m d) => (match stv m d with
      | some s => some (.nx (ρ.set i s))
      | none => none)
    | some (.x c) => some (.ex c ρ)
    | none => none) := rfl
@[simp] theorem ev_unp (is : List Nat) (e : E) : evS G (.unp is e) ρ = (match evE G e ρ with
    | some (.v .cl (.tup ds)) => if is.length = ds.length then some (.nx (setAll is ds ρ)) else none
    | some (.x c) => some (.ex c ρ)
    | _ => none) := rfl
@[simp] theorem ev_par (is : List Nat) (es : Es) : evS G (.par is es) ρ = (match evPs G es ρ with
    | some ss => if is.length = ss.length then some (.nx (setSV is ss ρ)) else none
    | none => none) := rfl
@[simp] theorem ev_sto (i : Nat) (k e : E) : evS G (.sto i k e) ρ = (match cleanE (evE G e ρ) with
    | some y => (match look ρ i with
      | .ow d => (match cleanE (evE G k ρ) with
        | some kd => (match stoD d kd y with
          | some d' => some (.nx (ρ.set i (.ow d')))
          | none => none)
        | none => none)
      | _ => none)
    | none => none) := rfl
@[simp] theorem ev_app (i : Nat) (e : E) : evS G (.app i e) ρ = (match look ρ i with
    | .ow (.lst ds) => (match cleanE (evE G e ρ) with
      | some y => if Nat.blt ds.length LINE then some (.nx (ρ.set i (.ow (.lst (ds ++ [y]))))) else none
      | none => none)
    | _ => none) := rfl
@[simp] theorem ev_ext (i : Nat) (e : E) : evS G (.ext i e) ρ = (match look ρ i with
    | .ow (.lst ds) => (match cleanE (evE G e ρ) with
      | some (.lst es) => if Nat.ble (ds.length + es.length) LINE then some (.nx (ρ.set i (.ow (.lst (ds ++ es))))) else none
      | _ => none)
    | _ => none) := rfl
@[simp] theorem ev_frz (i : Nat) : evS G (.frz i) ρ = (match look ρ i with
    | .ow d => some (.nx (ρ.set i (.fz d)))
    | .fz d => some (.nx ρ)
    | _ => none) := rfl
@[simp] theorem ev_lck (i : Nat) : evS G (.lck i) ρ = (match look ρ i with
    | .ow (.dct kvs) => some (.nx (ρ.set i (.fz (.ldt kvs))))
    | .fz d => some (.nx ρ)
    | _ => none) := rfl
@[simp] theorem ev_exp (e : E) : evS G (.exp e) ρ = (match evE G e ρ with
    | some (.v _ _) => some (.nx ρ)
    | some (.x c) => some (.ex c ρ)
    | none => none) := rfl
@[simp] theorem ev_ret (e : E) : evS G (.ret e) ρ = (match evE G e ρ with
    | some (.v .cl d) => some (.rt d)
    | some (.v .fr d) => some (.rt d)
    | some (.v .raw _) => none
    | some (.x c) => some (.ex c ρ)
    | none => none) := rfl
@[simp] theorem ev_rse (c m : Str) : evS G (.rse c m) ρ = some (.ex c ρ) := rfl
@[simp] theorem ev_sif (t : E) (a b : Ss) : evS G (.ite t a b) ρ = (match evE G t ρ with
    | some (.v _ (.bl true)) => evSs G a ρ
    | some (.v _ (.bl false)) => evSs G b ρ
    | some (.x c) => some (.ex c ρ)
    | _ => none) := rfl
@[simp] theorem ev_whl (t : E) (b : Ss) : evS G (.whl t b) ρ = loopW (evE G t) (fun ρ => evSs G b ρ) FUEL ρ := rfl
def bodyF (G : Fns) (tg : Tg) (b : Ss) : D → En → Option So := fun d ρ => match bindT tg d ρ with
      | some ρ' => evSs G b ρ'
      | none => none
@[simp] theorem ev_for (tg : Tg) (it : It) (b : Ss) : evS G (.for_ tg it b) ρ = (match evI G it ρ with
    | some ds => loopF (bodyF G tg b) ds ρ
    | none => none) := rfl
@[simp] theorem ev_nil : evSs G .nil ρ = some (.nx ρ) := rfl
@[simp] theorem ev_cons (s : S) (ss : Ss) : evSs G (.cons s ss) ρ = (match evS G s ρ with
    | some (.nx ρ') => evSs G ss ρ'
    | r => r) := rfl
end
@[simp] theorem LINE_eq : LINE = 16777216 := rfl
@[simp] theorem isi_non (t : String) : isiD .non t = some false := rfl
@[simp] theorem isi_bl (b : Bool) (t : String) : isiD (.bl b) t = some (t == "bool" || t == "int") := rfl
@[simp] theorem isi_int (i : Int) (t : String) : isiD (.int i) t = some (t == "int") := rfl
@[simp] theorem isi_str (i : Str) (t : String) : isiD (.str i) t = some (t == "str") := rfl
@[simp] theorem isi_tup (i : List D) (t : String) : isiD (.tup i) t = some (t == "tuple") := rfl
@[simp] theorem isi_lst (i : List D) (t : String) : isiD (.lst i) t = some (t == "list") := rfl
@[simp] theorem cop_lt (i j : Int) : cop .lt (.int i) (.int j) = some (decide (i < j)) := rfl
@[simp] theorem cop_le (i j : Int) : cop .le (.int i) (.int j) = some (decide (i ≤ j)) := rfl
@[simp] theorem cop_gt (i j : Int) : cop .gt (.int i) (.int j) = some (decide (j < i)) := rfl
@[simp] theorem cop_ge (i j : Int) : cop .ge (.int i) (.int j) = some (decide (j ≤ i)) := rfl
@[simp] theorem cop_eq_int (i j : Int) : cop .eq (.int i) (.int j) = some (decide (i = j)) := by
  show (if eqOk (.int i) (.int j) = true then some (i == j) else none) = _
  rw [if_pos (show eqOk (.int i) (.int j) = true from rfl), Bool.beq_eq_decide_eq]
@[simp] theorem cop_ne_int (i j : Int) : cop .ne (.int i) (.int j) = some (!decide (i = j)) := by
  show (if eqOk (.int i) (.int j) = true then some (!(i == j)) else none) = _
  rw [if_pos (show eqOk (.int i) (.int j) = true from rfl), Bool.beq_eq_decide_eq]
@[simp] theorem cop_is_bl (i j : Bool) : cop .is (.bl i) (.bl j) = some (i == j) := rfl
@[simp] theorem cop_isn_bl (i j : Bool) : cop .isn (.bl i) (.bl j) = some (!(i == j)) := rfl
@[simp] theorem bop_add (i j : Int) : bop .add (.int i) (.int j) = some (.v .cl (.int (i + j))) := rfl
@[simp] theorem bop_sub (i j : Int) : bop .sub (.int i) (.int j) = some (.v .cl (.int (i - j))) := rfl
@[simp] theorem bop_mul (i j : Int) : bop .mul (.int i) (.int j) = (if mulOk i j then some (.v .cl (.int (i * j))) else none) := rfl
@[simp] theorem bop_fdiv (i j : Int) : bop .fdiv (.int i) (.int j) = (if decide (0 < j) && decide (j < 18446744073709551616) then some (.v .cl (.int (i / j))) else none) := rfl
@[simp] theorem bop_mod (i j : Int) : bop .mod (.int i) (.int j) = (if decide (0 < j) then some (.v .cl (.int (i % j))) else none) := rfl
@[simp] theorem bop_pow (i j : Int) : bop .pow (.int i) (.int j) = (if decide (0 ≤ j) && decide (j ≤ 1000) && decide (-1000 ≤ i) && decide (i ≤ 1000) then some (.v .cl (.int (i ^ j.toNat))) else none) := rfl
@[simp] theorem bop_add_tup (xs ys : List D) : bop .add (.tup xs) (.tup ys) = (if Nat.ble (xs.length + ys.length) LINE then some (.v .cl (.tup (xs ++ ys))) else none) := rfl
@[simp] theorem bop_add_lst (xs ys : List D) : bop .add (.lst xs) (.lst ys) = (if Nat.ble (xs.length + ys.length) LINE then some (.v .fr (.lst (xs ++ ys))) else none) := rfl
@[simp] theorem ix_tup (xs : List D) (i : Int) : ixD (.tup xs) (.int i) = ixAt xs i := rfl
@[simp] theorem ix_lst (xs : List D) (i : Int) : ixD (.lst xs) (.int i) = ixAt xs i := rfl
@[simp] theorem ix_scr (xs : List Int) (i : Int) : ixD (.scr xs) (.int i) = (ixAt xs i).map .int := rfl
@[simp] theorem ixAt_nat {α : Type} (xs : List α) (i : Nat) : ixAt xs (i : Int) = xs[i]? := by
  unfold ixAt
  rw [if_pos (Int.natCast_nonneg i)]
  rfl
@[simp] theorem ixAt_0 {α : Type} (xs : List α) : ixAt xs 0 = xs[0]? := rfl
@[simp] theorem ixAt_1 {α : Type} (xs : List α) : ixAt xs 1 = xs[1]? := rfl
@[simp] theorem ixAt_2 {α : Type} (xs : List α) : ixAt xs 2 = xs[2]? := rfl
@[simp] theorem ixAt_3 {α : Type} (xs : List α) : ixAt xs 3 = xs[3]? := rfl
@[simp] theorem sl_tup (xs : List D) (lo hi : Option Int) : slD (.tup xs) lo hi = some (.v .cl (.tup (LS.cut xs lo hi))) := rfl
@[simp] theorem sl_lst (xs : List D) (lo hi : Option Int) : slD (.lst xs) lo hi = some (.v .fr (.lst (LS.cut xs lo hi))) := rfl
@[simp] theorem b1_len_tup (xs : List D) : b1D .len (.tup xs) = (if Nat.ble xs.length LINE then some (.v .cl (.int xs.length)) else none) := rfl
@[simp] theorem b1_len_lst (xs : List D) : b1D .len (.lst xs) = (if Nat.ble xs.length LINE then some (.v .cl (.int xs.length)) else none) := rfl
@[simp] theorem b1_len_scr (xs : List Int) : b1D .len (.scr xs) = (if Nat.ble xs.length LINE then some (.v .cl (.int xs.length)) else none) := rfl
@[simp] theorem b1_all (xs : List D) : b1D .all (.lst xs) = (match boolsD xs with
    | some bs => some (.v .cl (.bl (bs.all id)))
    | none => none) := rfl
@[simp] theorem b1_any (xs : List D) : b1D .any (.lst xs) = (match boolsD xs with
    | some bs => some (.v .cl (.bl (bs.any id)))
    | none => none) := rfl
@[simp] theorem b1_list_lst (xs : List D) : b1D .list (.lst xs) = some (.v .fr (.lst xs)) := rfl
@[simp] theorem b1_list_tup (xs : List D) : b1D .list (.tup xs) = some (.v .fr (.lst xs)) := rfl
@[simp] theorem b1_tuple_lst (xs : List D) : b1D .tuple (.lst xs) = some (.v .cl (.tup xs)) := rfl
@[simp] theorem b1_tuple_tup (xs : List D) : b1D .tuple (.tup xs) = some (.v .cl (.tup xs)) := rfl
@[simp] theorem b2_max (i j : Int) : b2D .max (.int i) (.int j) = some (.v .cl (.int (if j > i then j else i))) := rfl
@[simp] theorem b2_min (i j : Int) : b2D .min (.int i) (.int j) = some (.v .cl (.int (if j < i then j else i))) := rfl
@[simp] theorem seqD_tup (xs : List D) : seqD (.tup xs) = some xs := rfl
@[simp] theorem seqD_lst (xs : List D) : seqD (.lst xs) = some xs := rfl
@[simp] theorem enumD_tup (xs : List D) : enumD (.tup xs) = some (enumFrom 0 xs) := rfl
@[simp] theorem enumD_lst (xs : List D) : enumD (.lst xs) = some (enumFrom 0 xs) := rfl
@[simp] theorem zip_tt (xs ys : List D) : zip2 (.tup xs) (.tup ys) = some (zipD xs ys) := rfl
@[simp] theorem zip_tl (xs ys : List D) : zip2 (.tup xs) (.lst ys) = some (zipD xs ys) := rfl
@[simp] theorem zip_lt (xs ys : List D) : zip2 (.lst xs) (.tup ys) = some (zipD xs ys) := rfl
@[simp] theorem zip3_lll (xs ys zs : List D) : zip3 (.lst xs) (.lst ys) (.lst zs) = some (zip3D xs ys zs) := rfl
@[simp] theorem zip3_tll (xs ys zs : List D) : zip3 (.tup xs) (.lst ys) (.lst zs) = some (zip3D xs ys zs) := rfl
@[simp] theorem zip3_ltl (xs ys zs : List D) : zip3 (.lst xs) (.tup ys) (.lst zs) = some (zip3D xs ys zs) := rfl
@[simp] theorem zip3_llt (xs ys zs : List D) : zip3 (.lst xs) (.lst ys) (.tup zs) = some (zip3D xs ys zs) := rfl
@[simp] theorem zip3_ttl (xs ys zs : List D) : zip3 (.tup xs) (.tup ys) (.lst zs) = some (zip3D xs ys zs) := rfl
@[simp] theorem zip3_tlt (xs ys zs : List D) : zip3 (.tup xs) (.lst ys) (.tup zs) = some (zip3D xs ys zs) := rfl
@[simp] theorem zip3_ltt (xs ys zs : List D) : zip3 (.lst xs) (.tup ys) (.tup zs) = some (zip3D xs ys zs) := rfl
@[simp] theorem zip3_ttt (xs ys zs : List D) : zip3 (.tup xs) (.tup ys) (.tup zs) = some (zip3D xs ys zs) := rfl
@[simp] theorem zip_ll (xs ys : List D) : zip2 (.lst xs) (.lst ys) = some (zipD xs ys) := rfl
/-! comprehensions, all at once -/
theorem turns_map {f : D → Option (List D)} {g : D → D} : ∀ {ds : List D}, (∀ d ∈ ds, f d = some [g d]) → turns f ds = some (ds.map g)
  | [], _ => rfl
  | d :: ds, h => by
    have h1 := h d List.mem_cons_self
    have h2 := turns_map (f := f) (g := g) (ds := ds) fun x hx => h x (List.mem_cons_of_mem _ hx)
    simp [turns, h1, h2]
theorem turns_mapF {α : Type} {f : D → Option (List D)} {k : α → D} {g : α → D} : ∀ {as : List α}, (∀ a ∈ as, f (k a) = some [g a]) → turns f (as.map k) = some (as.map g)
  | [], _ => rfl
  | d :: ds, h => by
    have h1 := h d List.mem_cons_self
    have h2 := turns_mapF (f := f) (k := k) (g := g) (as := ds) fun x hx => h x (List.mem_cons_of_mem _ hx)
    simp [turns, h1, h2]
theorem turns_filter {α : Type} {f : D → Option (List D)} {k : α → D} {p : α → Bool} {g : α → D} : ∀ {as : List α}, (∀ a ∈ as, f (k a) = some (if p a then [g a] else [])) → turns f (as.map k) = some ((as.filter p).map g)
  | [], _ => rfl
  | d :: ds, h => by
    have h1 := h d List.mem_cons_self
    have h2 := turns_filter (f := f) (k := k) (p := p) (g := g) (as := ds) fun x hx => h x (List.mem_cons_of_mem _ hx)
    cases hp : p d <;> simp [turns, h1, h2, hp, List.filter_cons]
/-! loops -/
theorem loopF_inv {b : D → En → Option So} (I : En → Prop) : ∀ {ds : List D} {ρ : En}, (∀ d ∈ ds, ∀ ρ, I ρ → ∃ ρ', b d ρ = some (.nx ρ') ∧ I ρ') → I ρ → ∃ ρ', loopF b ds ρ = some (.nx ρ') ∧ I ρ'
  | [], ρ, _, h => ⟨ρ, rfl, h⟩
  | d :: ds, ρ, hb, h => by
    obtain ⟨ρ1, h1, h2⟩ := hb d List.mem_cons_self ρ h
    obtain ⟨ρ2, h3, h4⟩ := loopF_inv I (ds := ds) (fun x hx => hb x (List.mem_cons_of_mem _ hx)) h2
    exact ⟨ρ2, by simp [loopF, h1, h3], h4⟩
/-- the same, by the turn -/
theorem loopF_ix {b : D → En → Option So} (I : Nat → En → Prop) : ∀ {ds : List D} {k : Nat} {ρ : En}, (∀ i d ρ, ds[i]? = some d → I (k + i) ρ → ∃ ρ', b d ρ = some (.nx ρ') ∧ I (k + i + 1) ρ') → I k ρ → ∃ ρ', loopF b ds ρ = some (.nx ρ') ∧ I (k + ds.length) ρ'
  | [], k, ρ, _, h => ⟨ρ, rfl, h⟩
  | d :: ds, k, ρ, hb, h => by
    obtain ⟨ρ1, h1, h2⟩ := hb 0 d ρ rfl h
    obtain ⟨ρ2, h3, h4⟩ := loopF_ix I (ds := ds) (k := k + 1) (fun i x ρ hx hi => by
      have := hb (i + 1) x ρ (by simpa using hx) (by rw [show k + (i + 1) = k + 1 + i by omega]; exact hi)
      rw [show k + (i + 1) + 1 = k + 1 + i + 1 by omega] at this
      exact this) h2
    refine ⟨ρ2, by simp [loopF, h1, h3], ?_⟩
    rw [show k + (d :: ds).length = k + 1 + ds.length by simp; omega]
    exact h4
theorem loopW_inv {t : En → Option Ro} {b : En → Option So} (I : En → Prop) (m : En → Nat) : ∀ {n : Nat} {ρ : En}, (∀ ρ, I ρ → (∃ k, t ρ = some (.v k (.bl false))) ∨ ((∃ k, t ρ = some (.v k (.bl true))) ∧ ∃ ρ', b ρ = some (.nx ρ') ∧ I ρ' ∧ m ρ' < m ρ)) → I ρ → m ρ < n →
    ∃ ρ' k, loopW t b n ρ = some (.nx ρ') ∧ I ρ' ∧ t ρ' = some (.v k (.bl false))
  | 0, ρ, _, _, h => absurd h (Nat.not_lt_zero _)
  | n + 1, ρ, hb, h, hm => by
    rcases hb ρ h with ⟨k, h1⟩ | ⟨⟨k, h1⟩, ρ1, h2, h3, h4⟩
    · exact ⟨ρ, k, by simp [loopW, h1], h, h1⟩
    · obtain ⟨ρ2, k2, h5, h6, h7⟩ := loopW_inv I m (n := n) hb h3 (by omega)
      exact ⟨ρ2, k2, by simp [loopW, h1, h2, h5], h6, h7⟩
/-! step by step -/
theorem step {G : Fns} {s : S} {ss : Ss} {ρ ρ' : En} {r : Option So} (h : evS G s ρ = some (.nx ρ')) (h2 : evSs G ss ρ' = r) : evSs G (.cons s ss) ρ = r := by
  rw [ev_cons, h]
  exact h2
theorem stop {G : Fns} {s : S} {ss : Ss} {ρ : En} {d : D} (h : evS G s ρ = some (.rt d)) : evSs G (.cons s ss) ρ = some (.rt d) := by
  rw [ev_cons, h]
theorem run_ret {G : Fns} {d : Def} {ds : List D} {v : D} (hl : ds.length = d.np) (h : evSs G d.body (ds.map .fz ++ List.replicate (d.nl - d.np) .un) = some (.rt v)) : runDef G d ds = some (.ret v) := by
  unfold runDef
  rw [if_pos hl, h]
end LS

set_option Elab.async false
set_option linter.all false
set_option maxRecDepth 100000
set_option maxHeartbeats 1000000
/-! LS18: nets as data. -/
namespace LS
open PySem PySem.Spec PyProof.Rows L2
structure Road where
  s : Int
  e : Int
  t : Int
  g : List Int
  deriving Inhabited
structure Net where
  fast : Int
  slow : Int
  keeps : Int
  roads : List Road
def Road.d (r : Road) : D := .tup [.int r.s, .int r.e, .int r.t, .tup (r.g.map .int)]
def Net.d (n : Net) : D := .tup [.int n.fast, .int n.slow, .int n.keeps, .tup (n.roads.map Road.d)]
structure Road.Ok (r : Road) : Prop where
  s : 0 ≤ r.s ∧ r.s ≤ 5
  e : 0 ≤ r.e ∧ r.e ≤ 5
  t : 0 ≤ r.t ∧ r.t ≤ 1
  l : r.g.length ≤ 3
  g : ∀ x ∈ r.g, 0 ≤ x ∧ x ≤ 13
structure Net.Ok (n : Net) : Prop where
  fast : 5 ≤ n.fast ∧ n.fast ≤ 13
  slow : 1 ≤ n.slow ∧ n.slow ≤ n.fast
  keeps : 0 ≤ n.keeps ∧ n.keeps ≤ 1
  l1 : 1 ≤ n.roads.length
  l8 : n.roads.length ≤ 8
  roads : ∀ r ∈ n.roads, r.Ok
theorem boolsD_map {α : Type} (f : α → Bool) : ∀ l : List α, boolsD (l.map fun a => .bl (f a)) = some (l.map f)
  | [] => rfl
  | a :: l => by
    show (boolsD (l.map _)).map (f a :: ·) = _
    rw [boolsD_map f l]
    rfl
theorem intsD_map {α : Type} (f : α → Int) : ∀ l : List α, intsD (l.map fun a => .int (f a)) = some (l.map f)
  | [] => rfl
  | a :: l => by
    show (intsD (l.map _)).map (f a :: ·) = _
    rw [intsD_map f l]
    rfl
theorem ble_line {n : Nat} (h : n ≤ 100000) : Nat.ble n LINE = true := Nat.ble_eq_true_of_le (Nat.le_trans h (by decide))
/-! equal data -/
mutual
theorem eqD_refl : ∀ d : D, plain d = true → eqD d d = true
  | .non, _ => rfl
  | .bl b, _ => by simp [eqD]
  | .int b, _ => by simp [eqD]
  | .str b, _ => by simp [eqD]
  | .tup xs, h => by simp only [eqD]; exact eqDs_refl xs (by simpa [plain] using h)
  | .lst xs, h => by simp only [eqD]; exact eqDs_refl xs (by simpa [plain] using h)
  | .scr ns, _ => by simp [eqD]
  | .dct _, h => by simp [plain] at h
  | .dck _, h => by simp [plain] at h
  | .ldt _, h => by simp [plain] at h
  | .fnv _, h => by simp [plain] at h
  | .exc _, h => by simp [plain] at h
theorem eqDs_refl : ∀ ds : List D, plains ds = true → eqDs ds ds = true
  | [], _ => rfl
  | d :: ds, h => by
    have h' : plain d = true ∧ plains ds = true := by simpa [plains] using h
    simp only [eqDs, Bool.and_eq_true]
    exact ⟨eqD_refl d h'.1, eqDs_refl ds h'.2⟩
end
theorem cop_ne_self {d : D} (h : plain d = true) (h2 : dep d ≤ 60) : cop .ne d d = some false := by
  have e : eqOk d d = true := by
    unfold eqOk
    rw [h, Nat.ble_eq_true_of_le h2]
    rfl
  show (if eqOk d d = true then some (!eqD d d) else none) = _
  rw [if_pos e, eqD_refl d h]
  rfl
theorem cop_eq_self {d : D} (h : plain d = true) (h2 : dep d ≤ 60) : cop .eq d d = some true := by
  have e : eqOk d d = true := by
    unfold eqOk
    rw [h, Nat.ble_eq_true_of_le h2]
    rfl
  show (if eqOk d d = true then some (eqD d d) else none) = _
  rw [if_pos e, eqD_refl d h]
theorem plains_ints : ∀ l : List Int, plains (l.map .int) = true
  | [] => rfl
  | _ :: l => by simpa [plains, plain] using plains_ints l
theorem deps_ints : ∀ l : List Int, deps (l.map .int) = 0
  | [] => rfl
  | _ :: l => by simpa [deps, dep] using deps_ints l
@[simp] theorem cop_ne_ints (l : List Int) : cop .ne (.lst (l.map .int)) (.lst (l.map .int)) = some false :=
  cop_ne_self (by simp [plain, plains_ints]) (by simp [dep, deps_ints])
@[simp] theorem cop_ne_scr (ns : List Int) : cop .ne (.scr ns) (.lst []) = some (!ns.isEmpty) := by
  show (if eqOk (.scr ns) (.lst []) = true then some (!eqD (.scr ns) (.lst [])) else none) = _
  rw [if_pos (show eqOk (.scr ns) (.lst []) = true by simp [eqOk, plain, plains, dep, deps])]
  cases ns <;> simp [eqD, eqIs]
/-! places, slices -/
theorem ixAt_pos {α : Type} {xs : List α} {i : Int} (h : 0 ≤ i) : ixAt xs i = xs[i.toNat]? := by
  unfold ixAt
  rw [if_pos h]
@[simp] theorem cut_tail {α : Type} (xs : List α) : LS.cut xs (some 1) none = xs.drop 1 := by
  unfold LS.cut slI
  simp only [List.drop_drop]
  cases xs with
  | nil => simp
  | cons x xs => simp
theorem cut_head {α : Type} (xs : List α) (n : Nat) : LS.cut xs none (some (n : Int)) = xs.take n := by
  unfold LS.cut slI
  have : ¬ ((n : Int) < 0) := by omega
  simp [this, List.take_eq_take_iff]
theorem zipD_map {α β : Type} (f : α → D) (g : β → D) : ∀ (xs : List α) (ys : List β), zipD (xs.map f) (ys.map g) = (xs.zip ys).map fun p => .tup [f p.1, g p.2]
  | [], _ => by simp [zipD]
  | _ :: _, [] => by simp [zipD]
  | x :: xs, y :: ys => by simp [zipD, zipD_map f g xs ys]
def Net.road (n : Net) (i : Int) : Road := n.roads.getD i.toNat default
theorem Net.road_mem {n : Net} {i : Int} (h1 : 0 ≤ i) (h2 : i < n.roads.length) : n.road i ∈ n.roads := by
  unfold Net.road
  rw [List.getD_eq_getElem?_getD, List.getElem?_eq_getElem (show i.toNat < n.roads.length by omega)]
  exact List.getElem_mem _
theorem Net.ix {n : Net} {i : Int} (h1 : 0 ≤ i) (h2 : i < n.roads.length) : ixAt (n.roads.map Road.d) i = some (n.road i).d := by
  rw [ixAt_pos h1, List.getElem?_map]
  unfold Net.road
  rw [List.getD_eq_getElem?_getD, List.getElem?_eq_getElem (show i.toNat < n.roads.length by omega)]
  rfl
/-! ways -/
def joins (n : Net) (w : List Int) : Bool := (w.zip (w.drop 1)).all fun p => decide ((n.road p.1).e = (n.road p.2).s)
def inNet (n : Net) (w : List Int) : Bool := w.all fun x => decide (0 ≤ x) && decide (x ≤ n.roads.length - 1)
def isWay (n : Net) (w : List Int) : Bool := decide (1 ≤ w.length) && decide (w.length ≤ 20) && inNet n w && joins n w
def follow (n : Net) (r : Int) : List Int := ((List.range n.roads.length).filter fun (k : Nat) => decide ((n.road k).s = (n.road r).e)).map fun (k : Nat) => (k : Int)
@[simp] theorem all_id_map {α : Type} (f : α → Bool) (l : List α) : (l.map f).all id = l.all f := by
  induction l with
  | nil => rfl
  | cons a l ih => simp only [List.map_cons, List.all_cons, ih]; rfl
@[simp] theorem bools_map {α : Type} (f : α → Bool) (l : List α) : boolsD (l.map fun a => .bl (f a)) = some (l.map f) := boolsD_map f l
@[simp] theorem ints_map (l : List Int) : intsD (l.map .int) = some l := by
  have := intsD_map (fun x : Int => x) l
  simpa using this
@[simp] theorem zipD_tail {α : Type} (f : α → D) (w : List α) : zipD (w.map f) ((w.map f).drop 1) = (w.zip (w.drop 1)).map fun p => .tup [f p.1, f p.2] := by
  rw [← List.map_drop, zipD_map]
@[simp] theorem zipD_tail2 {α : Type} (f : α → D) (w : List α) : zipD (w.map f) (w.map f).tail = (w.zip w.tail).map fun p => .tup [f p.1, f p.2] := by
  rw [← List.map_tail, zipD_map]
theorem zip_mem {α : Type} {w : List α} {p : α × α} (h : p ∈ w.zip w.tail) : p.1 ∈ w ∧ p.2 ∈ w := by
  obtain ⟨h1, h2⟩ := List.of_mem_zip (show (p.1, p.2) ∈ w.zip w.tail from h)
  exact ⟨h1, List.mem_of_mem_tail h2⟩
theorem inNet_mem {n : Net} {w : List Int} (h : inNet n w = true) {x : Int} (hx : x ∈ w) : 0 ≤ x ∧ x < n.roads.length := by
  have := List.all_eq_true.mp h x hx
  simp only [Bool.and_eq_true, decide_eq_true_eq] at this
  omega
@[simp] theorem ixAt_4 {α : Type} (xs : List α) : ixAt xs 4 = xs[4]? := rfl
@[simp] theorem ixAt_5 {α : Type} (xs : List α) : ixAt xs 5 = xs[5]? := rfl
@[simp] theorem ixAt_6 {α : Type} (xs : List α) : ixAt xs 6 = xs[6]? := rfl
theorem ixAt_last {α : Type} (xs : List α) (x : α) : ixAt (xs ++ [x]) (-1) = some x := by
  unfold ixAt
  rw [if_neg (by decide), if_pos (by simp; omega)]
  have : (-1 + ((xs ++ [x]).length : Int)).toNat = xs.length := by simp; omega
  rw [this]
  simp
theorem range_mem {lo hi : Int} {d : D} (h : d ∈ rangeD lo hi) : ∃ i, d = .int i ∧ lo ≤ i ∧ i < hi := by
  unfold rangeD at h
  obtain ⟨k, hk, rfl⟩ := List.mem_map.mp h
  simp at hk
  exact ⟨_, rfl, by omega, by omega⟩
theorem range_get {lo hi : Int} {j : Nat} {d : D} (h : (rangeD lo hi)[j]? = some d) : d = .int (lo + j) ∧ lo + j < hi := by
  unfold rangeD at h
  rw [List.getElem?_map] at h
  cases e : (List.range (hi - lo).toNat)[j]? with
  | none => rw [e] at h; cases h
  | some k =>
    rw [e] at h
    obtain ⟨h1, h2⟩ := List.getElem?_eq_some_iff.mp e
    simp at h1 h2
    subst h2
    cases h
    exact ⟨rfl, by omega⟩
@[simp] theorem range_len (lo hi : Int) : (rangeD lo hi).length = (hi - lo).toNat := by simp [rangeD]
theorem range_nat (n : Nat) : rangeD 0 (n : Int) = (List.range n).map fun (k : Nat) => .int k := by
  unfold rangeD
  simp
theorem rangeOk_of {i : Int} (h1 : -1000000 ≤ i) (h2 : i ≤ 1000000) : rangeOk i = true := by
  unfold rangeOk
  rw [decide_eq_true h1, decide_eq_true h2]
  rfl
/-- a comprehension that gives ints -/
theorem turns_ints {f : D → Option (List D)} {Q : Int → Prop} : ∀ {ds : List D}, (∀ d ∈ ds, ∃ x, f d = some [.int x] ∧ Q x) → ∃ l : List Int, turns f ds = some (l.map .int) ∧ l.length = ds.length ∧ ∀ x ∈ l, Q x
  | [], _ => ⟨[], rfl, rfl, fun _ h => by cases h⟩
  | d :: ds, h => by
    obtain ⟨x, h1, h2⟩ := h d List.mem_cons_self
    obtain ⟨l, h3, h4, h5⟩ := turns_ints (f := f) (Q := Q) (ds := ds) fun y hy => h y (List.mem_cons_of_mem _ hy)
    refine ⟨x :: l, by simp [turns, h1, h3], by simp [h4], fun y hy => ?_⟩
    rcases List.mem_cons.mp hy with rfl | hy
    · exact h2
    · exact h5 y hy
theorem enum_map {α : Type} (f : α → D) (g : Nat → α) : ∀ (m k : Nat), enumFrom k ((List.range' k m).map fun i => f (g i)) = (List.range' k m).map fun i => .tup [.int i, f (g i)]
  | 0, _ => rfl
  | m + 1, k => by simp [List.range'_succ, enumFrom, enum_map f g m (k + 1)]
theorem roads_range (n : Net) : n.roads.map Road.d = (List.range n.roads.length).map fun (i : Nat) => (n.road (i : Int)).d := by
  apply List.ext_getElem
  · simp
  · intro i h1 h2
    simp only [List.length_map] at h1
    simp [Net.road, h1]
theorem enum_roads (n : Net) : enumFrom 0 (n.roads.map Road.d) = (List.range n.roads.length).map fun (i : Nat) => .tup [.int i, (n.road (i : Int)).d] := by
  rw [roads_range, List.range_eq_range']
  exact enum_map Road.d (fun i => n.road (i : Int)) _ 0
theorem follow_len (n : Net) (r : Int) : (follow n r).length ≤ n.roads.length := by
  unfold follow
  rw [List.length_map]
  exact Nat.le_trans (List.length_filter_le _ _) (by simp)
theorem Net.d_ix3 (n : Net) : ixD n.d (.int 3) = some (.tup (n.roads.map Road.d)) := rfl
theorem Net.d_ix0 (n : Net) : ixD n.d (.int 0) = some (.int n.fast) := rfl
theorem Net.d_ix1 (n : Net) : ixD n.d (.int 1) = some (.int n.slow) := rfl
theorem Net.d_ix2 (n : Net) : ixD n.d (.int 2) = some (.int n.keeps) := rfl
/-! pieces of a body -/
def sAt : Ss → Nat → S
  | .cons s _, 0 => s
  | .cons _ r, n + 1 => sAt r n
  | .nil, _ => .ret (.cst .non)
def sB : S → Ss
  | .for_ _ _ b => b
  | .whl _ b => b
  | .ite _ a _ => a
  | .try_ _ b _ _ => b
  | _ => .nil
def sH : S → Ss
  | .try_ _ _ _ h => h
  | .ite _ _ b => b
  | _ => .nil
/-- a comprehension of ints -/
theorem lc_ints {G : Fns} {ρ : En} {elt : E} {tg : Tg} {it : It} {c : OE} {own : List Nat} {ds : List D} {Q : Int → Prop} (hi : evI G it ρ = some ds) (hl : ds.length ≤ 100000) (h : ∀ d ∈ ds, ∃ x, fLc G elt tg c (wipes ρ own) d = some [.int x] ∧ Q x) :
    ∃ l : List Int, evE G (.lc elt tg it c own) ρ = some (.v .fr (.lst (l.map .int))) ∧ l.length = ds.length ∧ ∀ x ∈ l, Q x := by
  obtain ⟨l, h1, h2, h3⟩ := turns_ints h
  have hL : l.length ≤ 16777216 := by omega
  exact ⟨l, by simp [hi, h1, hL], h2, h3⟩
theorem lc_map {α : Type} {G : Fns} {ρ : En} {elt : E} {tg : Tg} {it : It} {c : OE} {own : List Nat} {as : List α} {k : α → D} {g : α → D} (hi : evI G it ρ = some (as.map k)) (hl : as.length ≤ 16777216) (h : ∀ a ∈ as, fLc G elt tg c (wipes ρ own) (k a) = some [g a]) :
    evE G (.lc elt tg it c own) ρ = some (.v .fr (.lst (as.map g))) := by
  have h1 := turns_mapF (f := fLc G elt tg c (wipes ρ own)) h
  simp [hi, h1, hl]
theorem lc_filter {α : Type} {G : Fns} {ρ : En} {elt : E} {tg : Tg} {it : It} {c : OE} {own : List Nat} {as : List α} {k : α → D} {g : α → D} {p : α → Bool} (hi : evI G it ρ = some (as.map k)) (hl : as.length ≤ 16777216) (h : ∀ a ∈ as, fLc G elt tg c (wipes ρ own) (k a) = some (if p a then [g a] else [])) :
    evE G (.lc elt tg it c own) ρ = some (.v .fr (.lst ((as.filter p).map g))) := by
  have h1 := turns_filter (f := fLc G elt tg c (wipes ρ own)) h
  have hL : (as.filter p).length ≤ 16777216 := Nat.le_trans (List.length_filter_le _ _) hl
  simp [hi, h1, hL]
theorem ev_set_fr {G : Fns} {ρ : En} {i : Nat} {e : E} {d : D} (h : evE G e ρ = some (.v .fr d)) : evS G (.set i e) ρ = some (.nx (ρ.set i (.ow d))) := by
  rw [ev_set, h]; rfl
theorem ev_set_cl {G : Fns} {ρ : En} {i : Nat} {e : E} {d : D} (h : evE G e ρ = some (.v .cl d)) : evS G (.set i e) ρ = some (.nx (ρ.set i (.fz d))) := by
  rw [ev_set, h]; rfl
theorem ev_for_of {G : Fns} {ρ ρ' : En} {tg : Tg} {it : It} {b : Ss} {ds : List D} (hi : evI G it ρ = some ds) (h : loopF (bodyF G tg b) ds ρ = some (.nx ρ')) : evS G (.for_ tg it b) ρ = some (.nx ρ') := by
  rw [ev_for, hi]
  exact h
theorem body_of {G : Fns} {ρ ρ' ρ2 : En} {tg : Tg} {b : Ss} {d : D} (hb : bindT tg d ρ = some ρ') (h : evSs G b ρ' = some (.nx ρ2)) : bodyF G tg b d ρ = some (.nx ρ2) := by
  unfold bodyF
  rw [hb]
  exact h
theorem done {G : Fns} {ρ : En} : evSs G .nil ρ = some (.nx ρ) := rfl
def wd (w : List Int) : D := .tup (w.map .int)
theorem follow_mem {n : Net} {r k : Int} (h : k ∈ follow n r) : 0 ≤ k ∧ k < n.roads.length ∧ (n.road k).s = (n.road r).e := by
  unfold follow at h
  obtain ⟨j, hj, rfl⟩ := List.mem_map.mp h
  simp at hj
  exact ⟨by omega, by omega, hj.2⟩
theorem joins_snoc (n : Net) (u : List Int) (x k : Int) : joins n (u ++ [x] ++ [k]) = (joins n (u ++ [x]) && decide ((n.road x).e = (n.road k).s)) := by
  induction u with
  | nil => simp [joins]
  | cons a u ih =>
    cases u with
    | nil => simp [joins]
    | cons b u =>
      have e : ∀ l : List Int, joins n (a :: b :: l) = (decide ((n.road a).e = (n.road b).s) && joins n (b :: l)) := fun l => by simp [joins]
      simp only [List.cons_append] at ih ⊢
      rw [e, e, ih, Bool.and_assoc]
theorem inNet_snoc (n : Net) (w : List Int) (k : Int) : inNet n (w ++ [k]) = (inNet n w && (decide (0 ≤ k) && decide (k ≤ n.roads.length - 1))) := by
  simp [inNet]
theorem way_snoc {n : Net} {u : List Int} {x k : Int} (h : isWay n (u ++ [x]) = true) (hk : k ∈ follow n x) (hl : (u ++ [x]).length < 20) : isWay n (u ++ [x] ++ [k]) = true := by
  obtain ⟨k1, k2, k3⟩ := follow_mem hk
  unfold isWay at h ⊢
  simp only [Bool.and_eq_true, decide_eq_true_eq] at h ⊢
  obtain ⟨⟨⟨h1, h2⟩, h3⟩, h4⟩ := h
  refine ⟨⟨⟨by simp, by simp at hl ⊢; omega⟩, ?_⟩, ?_⟩
  · rw [inNet_snoc, h3]
    simp [k1]
    omega
  · rw [joins_snoc, h4]
    simp [k3]
theorem way_one {n : Net} {k : Int} (h1 : 0 ≤ k) (h2 : k < n.roads.length) : isWay n [k] = true := by
  unfold isWay inNet joins
  simp [h1]
  omega
theorem way_last {n : Net} {w : List Int} (h : isWay n w = true) : ∃ (u : List Int) (x : Int), w = u ++ [x] ∧ 0 ≤ x ∧ x < n.roads.length := by
  have h' := h
  unfold isWay at h'
  simp only [Bool.and_eq_true, decide_eq_true_eq] at h'
  have hne : w ≠ [] := by intro e; subst e; simp at h'
  refine ⟨w.dropLast, w.getLast hne, (List.dropLast_concat_getLast hne).symm, ?_⟩
  have := inNet_mem h'.1.2 (List.getLast_mem hne)
  exact this
theorem cop_in_ints (b : Int) (l : List Int) : cop .inn (.int b) (.lst (l.map .int)) = some (decide (b ∈ l)) := by
  show (if (plain (.int b) && plains (l.map .int) && Nat.ble (dep (.int b)) 60) = true then some (inD (.int b) (l.map .int)) else none) = _
  rw [plains_ints, if_pos (by simp [plain, dep])]
  congr 1
  unfold inD
  induction l with
  | nil => rfl
  | cons x l ih =>
    simp only [List.map_cons, List.any_cons, ih, List.mem_cons]
    by_cases e : x = b
    · subst e; simp [eqD]
    · simp [eqD, e, Ne.symm e]
@[simp] theorem cop_ne_bl (a b : Bool) : cop .ne (.bl a) (.bl b) = some (!(a == b)) := by
  show (if eqOk (.bl a) (.bl b) = true then some (!(a == b)) else none) = _
  rw [if_pos (show eqOk (.bl a) (.bl b) = true from rfl)]
@[simp] theorem cop_eq_bl (a b : Bool) : cop .eq (.bl a) (.bl b) = some (a == b) := by
  show (if eqOk (.bl a) (.bl b) = true then some (a == b) else none) = _
  rw [if_pos (show eqOk (.bl a) (.bl b) = true from rfl)]
theorem isWay_two {n : Net} {a b : Int} (a1 : 0 ≤ a) (a2 : a < n.roads.length) (b1 : 0 ≤ b) (b2 : b < n.roads.length) : isWay n [a, b] = decide (b ∈ follow n a) := by
  have e : (b ∈ follow n a) ↔ (n.road a).e = (n.road b).s := by
    constructor
    · intro h; exact (follow_mem h).2.2.symm
    · intro h
      unfold follow
      refine List.mem_map.mpr ⟨b.toNat, ?_, by omega⟩
      have : ((b.toNat : Nat) : Int) = b := by omega
      simp [this, h]
      omega
  have e2 : decide (b ∈ follow n a) = decide ((n.road a).e = (n.road b).s) := decide_eq_decide.mpr e
  rw [e2]
  unfold isWay inNet joins
  simp [a1, b1]
  omega
end LS

set_option Elab.async false
set_option linter.all false
set_option maxRecDepth 100000
set_option maxHeartbeats 1000000
/-! LS19: driving along ways. -/
namespace LS
open PySem PySem.Spec PyProof.Rows L2
def rest (n : Net) (r : Int) : Int := if (n.road r).t = 1 then n.slow else n.fast
def shown (b x : Int) : Int := if 0 < x then x else b
def pcs (n : Net) (r st : Int) : List Int := (st :: (n.road r).g).map (shown (rest n r))
def leaveS (n : Net) (r st : Int) : Int := (n.road r).g.getLastD st
def goOver (n : Net) (st : Int) : Int := if n.keeps = 1 then st else 0
/-- the rows of a way that begins at the state s -/
def run (n : Net) : Int → List Int → List (List Int)
  | _, [] => []
  | s, r :: w => pcs n r s :: run n (goOver n (leaveS n r s)) w
/-- the state behind -/
def fin (n : Net) : Int → Int → List Int → Int
  | _, o, [] => o
  | s, _, r :: w => fin n (goOver n (leaveS n r s)) (leaveS n r s) w
def rowsD (rs : List (List Int)) : D := .lst (rs.map fun r => .lst (r.map .int))
def okSt (s : Int) : Prop := 0 ≤ s ∧ s ≤ 13
theorem run_length (n : Net) : ∀ (w : List Int) (s : Int), (run n s w).length = w.length
  | [], _ => rfl
  | r :: w, s => by simp [run, run_length n w]
theorem run_mem {n : Net} : ∀ {w : List Int} {s : Int} {x : List Int}, x ∈ run n s w → ∃ r st, r ∈ w ∧ x = pcs n r st
  | [], _, _, h => by cases h
  | r :: w, s, x, h => by
    rcases List.mem_cons.mp h with rfl | h
    · exact ⟨r, s, List.mem_cons_self, rfl⟩
    · obtain ⟨r', st, h1, h2⟩ := run_mem h
      exact ⟨r', st, List.mem_cons_of_mem _ h1, h2⟩
theorem plains_rows : ∀ rs : List (List Int), plains (rs.map fun r => .lst (r.map .int)) = true
  | [] => rfl
  | r :: rs => by simp [plains, plain, plains_ints, plains_rows rs]
theorem deps_rows : ∀ rs : List (List Int), deps (rs.map fun r => .lst (r.map .int)) ≤ 1
  | [] => by simp [deps]
  | r :: rs => by simp [deps, dep, deps_ints, deps_rows rs]
theorem plain_rowsD (rs : List (List Int)) : plain (rowsD rs) = true := by simpa [rowsD, plain] using plains_rows rs
theorem dep_rowsD (rs : List (List Int)) : dep (rowsD rs) ≤ 60 := by
  have := deps_rows rs
  simp only [rowsD, dep]
  omega
theorem cop_ne_rows (rs : List (List Int)) : cop .ne (rowsD rs) (rowsD rs) = some false := cop_ne_self (plain_rowsD rs) (dep_rowsD rs)
theorem cop_eq_rows (rs : List (List Int)) : cop .eq (rowsD rs) (rowsD rs) = some true := cop_eq_self (plain_rowsD rs) (dep_rowsD rs)
theorem shown_pos {b x : Int} (hb : 1 ≤ b) : 1 ≤ shown b x := by
  unfold shown
  split <;> omega
theorem run_drop0 (n : Net) (hk : n.keeps = 0) : ∀ (w : List Int) (c : Nat) (s : Int), 1 ≤ c → (run n s w).drop c = run n 0 (w.drop c)
  | [], c, s, _ => by simp [run]
  | r :: w, c, s, hc => by
    have e : goOver n (leaveS n r s) = 0 := by unfold goOver; rw [if_neg (by omega)]
    cases c with
    | zero => omega
    | succ c =>
      simp only [run, List.drop_succ_cons, e]
      cases c with
      | zero => simp
      | succ c => exact run_drop0 n hk w (c + 1) 0 (by omega)
/-- behind a sign the limits do not depend on the start -/
theorem run_tails (n : Net) : ∀ (w : List Int) (s : Int), (run n s w).map (·.drop 1) = w.map fun r => (n.road r).g.map (shown (rest n r))
  | [], _ => rfl
  | r :: w, s => by
    have ih := run_tails n w (goOver n (leaveS n r s))
    simp only [run, List.map_cons, ih]
    rfl
theorem run_tails_drop (n : Net) (w : List Int) (c : Nat) (s : Int) : ((run n s w).drop c).map (·.drop 1) = (run n 0 (w.drop c)).map (·.drop 1) := by
  rw [run_tails, List.map_drop, run_tails, List.map_drop]
/-- the number of places at which neighbours differ, counted two ways -/
theorem adj_range (xs : List Int) : xs.zip xs.tail = (List.range (xs.length - 1)).map fun i => (xs.getD i 0, xs.getD (i + 1) 0) := by
  apply List.ext_getElem
  · simp
  · intro i h1 h2
    simp at h1 h2
    simp
    constructor
    · rw [List.getElem?_eq_getElem (by omega)]; rfl
    · rw [List.getElem?_eq_getElem (by omega)]; rfl
theorem isWay_drop {n : Net} {w : List Int} (h : isWay n w = true) {c : Nat} (hc : c < w.length) : isWay n (w.drop c) = true := by
  unfold isWay at h ⊢
  simp only [Bool.and_eq_true, decide_eq_true_eq] at h ⊢
  obtain ⟨⟨⟨h1, h2⟩, h3⟩, h4⟩ := h
  refine ⟨⟨⟨by rw [List.length_drop]; omega, by rw [List.length_drop]; omega⟩, ?_⟩, ?_⟩
  · unfold inNet at h3 ⊢
    rw [List.all_eq_true] at h3 ⊢
    exact fun x hx => h3 x (List.mem_of_mem_drop hx)
  · have key : ∀ (c : Nat) (w : List Int), joins n w = true → joins n (w.drop c) = true := fun c => by
      induction c with
      | zero => intro w h; exact h
      | succ c ih =>
        intro w h
        cases w with
        | nil => exact h
        | cons a w =>
          rw [List.drop_succ_cons]
          refine ih w ?_
          cases w with
          | nil => rfl
          | cons b w => simp [joins] at h ⊢; exact h.2
    exact key c w h4
@[simp] theorem cop_ne_tup_nil (g : List Int) : cop .ne (.tup (g.map .int)) (.tup []) = some (!g.isEmpty) := by
  show (if eqOk (.tup (g.map .int)) (.tup []) = true then some (!eqD (.tup (g.map .int)) (.tup [])) else none) = _
  rw [if_pos (show eqOk (.tup (g.map .int)) (.tup []) = true by simp [eqOk, plain, plains, plains_ints, dep, deps])]
  cases g <;> simp [eqD, eqDs]
theorem ixAt_lastD (g : List Int) (st : Int) (h : g ≠ []) : ixAt (g.map D.int) (-1) = some (.int (g.getLastD st)) := by
  have e : g = g.dropLast ++ [g.getLast h] := (List.dropLast_concat_getLast h).symm
  have e2 : g.getLastD st = g.getLast h := by
    cases g with
    | nil => exact absurd rfl h
    | cons a g => simp [List.getLastD, List.getLast_cons]
  rw [e2]
  generalize hx : g.getLast h = x at e ⊢
  rw [e, List.map_append]
  exact ixAt_last _ _
theorem turns_flat {α : Type} {f : D → Option (List D)} {k : α → D} {g : α → List Int} : ∀ {as : List α}, (∀ a ∈ as, f (k a) = some ((g a).map .int)) → turns f (as.map k) = some ((as.flatMap g).map .int)
  | [], _ => rfl
  | d :: ds, h => by
    have h1 := h d List.mem_cons_self
    have h2 := turns_flat (f := f) (k := k) (g := g) (as := ds) fun x hx => h x (List.mem_cons_of_mem _ hx)
    simp [turns, h1, h2]
def chg (xs : List Int) : Int := ((xs.zip xs.tail).filter fun p => !decide (p.1 = p.2)).length
theorem pcs_len {n : Net} {r st : Int} (h : (n.road r).g.length ≤ 3) : (pcs n r st).length ≤ 4 := by simp [pcs]; omega
theorem flat_len {n : Net} (h : n.Ok) : ∀ {w : List Int} {s : Int}, (∀ r ∈ w, 0 ≤ r ∧ r < n.roads.length) → (run n s w).flatten.length ≤ 4 * w.length
  | [], _, _ => by simp [run]
  | r :: w, s, hw => by
    have ih := flat_len h (w := w) (s := goOver n (leaveS n r s)) fun x hx => hw x (List.mem_cons_of_mem _ hx)
    obtain ⟨h1, h2⟩ := hw r List.mem_cons_self
    have := pcs_len (n := n) (r := r) (st := s) (h.roads _ (Net.road_mem h1 h2)).l
    simp only [run, List.flatten_cons, List.length_append, List.length_cons]
    omega
theorem way_all {n : Net} {w : List Int} (h : isWay n w = true) : ∀ r ∈ w, 0 ≤ r ∧ r < n.roads.length := fun r hr => by
  unfold isWay at h
  simp only [Bool.and_eq_true] at h
  exact inNet_mem h.1.2 hr
theorem way_len {n : Net} {w : List Int} (h : isWay n w = true) : 1 ≤ w.length ∧ w.length ≤ 20 := by
  unfold isWay at h
  simp only [Bool.and_eq_true, decide_eq_true_eq] at h
  exact h.1.1
theorem run_ne {n : Net} {w : List Int} {s : Int} (h : 1 ≤ w.length) : ∃ a l, (run n s w).flatten = a :: l := by
  cases w with
  | nil => simp at h
  | cons r w => exact ⟨_, _, rfl⟩
theorem ixAt_mem {α : Type} {xs : List α} (f : α → D) {v : Int} (h1 : 0 ≤ v) (h2 : v < xs.length) : ∃ x ∈ xs, ixAt (xs.map f) v = some (f x) := by
  have hl : v.toNat < xs.length := by omega
  refine ⟨xs[v.toNat], List.getElem_mem _, ?_⟩
  rw [ixAt_pos h1, List.getElem?_map, List.getElem?_eq_getElem hl]
  rfl
theorem plains_ways : ∀ ws : List (List Int), plains (ws.map wd) = true
  | [] => rfl
  | w :: ws => by simp [plains, plain, wd, plains_ints, plains_ways ws]
theorem cop_ne_ways_nil (ws : List (List Int)) : cop .ne (.lst (ws.map wd)) (.lst []) = some (!ws.isEmpty) := by
  show (if eqOk (.lst (ws.map wd)) (.lst []) = true then some (!eqD (.lst (ws.map wd)) (.lst [])) else none) = _
  rw [if_pos (show eqOk (.lst (ws.map wd)) (.lst []) = true by simp [eqOk, plain, plains, plains_ways, dep, deps])]
  cases ws <;> simp [eqD, eqDs]
theorem cut_from {α : Type} (xs : List α) {c : Int} (h1 : 0 ≤ c) : LS.cut xs (some c) none = xs.drop c.toNat := by
  have e1 : slI xs.length 0 (some c) = min c.toNat xs.length := by
    show (if c < 0 then _ else _) = _
    rw [if_neg (by omega)]
  have e2 : slI xs.length xs.length none = xs.length := rfl
  unfold LS.cut
  rw [e1, e2]
  by_cases h : c.toNat ≤ xs.length
  · rw [Nat.min_eq_left h]
    exact List.take_of_length_le (by rw [List.length_drop]; omega)
  · rw [Nat.min_eq_right (by omega), List.drop_of_length_le (show xs.length ≤ c.toNat by omega)]
    simp
theorem range2_nat (k : Nat) : rangeD 1 (k : Int) = (List.range (k - 1)).map fun (i : Nat) => .int (1 + (i : Int)) := by
  unfold rangeD
  have : ((k : Int) - 1).toNat = k - 1 := by omega
  rw [this]
theorem chg_range (xs : List Int) : chg xs = (((List.range (xs.length - 1)).filter fun i => !decide (xs.getD (i + 1) 0 = xs.getD i 0)).length : Nat) := by
  unfold chg
  rw [adj_range, List.filter_map, List.length_map]
  congr 3
  funext i
  simp [eq_comm]
end LS

set_option Elab.async false
set_option linter.all false
set_option maxRecDepth 100000
set_option maxHeartbeats 1000000
/-! LSb: searching level by level. -/
namespace LS
/-- a search: items of type β with keys in α; what follows an item; where it ends -/
structure Sr (α β : Type) where
  key : β → α
  sc : β → List β
  stop : β → Bool
section
variable {α β : Type} [DecidableEq α]
namespace Sr
variable (S : Sr α β)
def pass : List β → List α → List β → Except β (List α × List β)
  | [], kn, la => .ok (kn, la)
  | x :: xs, kn, la => if S.stop x = true then .error x else if S.key x ∈ kn then pass xs kn la else pass xs (kn ++ [S.key x]) (la ++ S.sc x)
def bfs : Nat → List β → List α → Option (Except β (List α))
  | 0, _, _ => none
  | _ + 1, [], kn => some (.ok kn)
  | f + 1, x :: xs, kn => match S.pass (x :: xs) kn [] with
    | .error y => some (.error y)
    | .ok (kn', la) => bfs f la kn'
/-- the levels, nothing left out -/
def lev (st : List β) : Nat → List β
  | 0 => st
  | m + 1 => (lev st m).flatMap S.sc
/-- what an item's key decides -/
structure Ok : Prop where
  sc : ∀ x y, S.key x = S.key y → (S.sc x).map S.key = (S.sc y).map S.key
  stop : ∀ x y, S.key x = S.key y → S.stop x = S.stop y
/-- u without items whose keys were seen -/
inductive Cov : List α → List β → List β → Prop
  | nil {s} : Cov s [] []
  | keep {s x a u} : Cov (s ++ [S.key x]) a u → Cov s (x :: a) (x :: u)
  | drop {s x a u} : S.key x ∈ s → Cov s a u → Cov s a (x :: u)
variable {S}
theorem Cov.mono {s a u} (c : S.Cov s a u) : ∀ {s'}, (∀ k ∈ s, k ∈ s') → S.Cov s' a u := by
  induction c with
  | nil => intro s' _; exact .nil
  | keep _ ih =>
    intro s' h
    refine .keep (ih fun k hk => ?_)
    rcases List.mem_append.mp hk with hk | hk
    · exact List.mem_append_left _ (h k hk)
    · exact List.mem_append_right _ hk
  | drop hx _ ih => intro s' h; exact .drop (h _ hx) (ih h)
theorem Cov.all {s} : ∀ v : List β, S.Cov s v v
  | [] => .nil
  | _ :: v => .keep (Cov.all v)
theorem Cov.none {s} : ∀ {v : List β}, (∀ x ∈ v, S.key x ∈ s) → S.Cov s [] v
  | [], _ => .nil
  | x :: v, h => .drop (h x List.mem_cons_self) (Cov.none fun y hy => h y (List.mem_cons_of_mem _ hy))
theorem Cov.app {s a u} (c : S.Cov s a u) {b v} : S.Cov (s ++ a.map S.key) b v → S.Cov s (a ++ b) (u ++ v) := by
  induction c with
  | nil => intro d; simpa using d
  | keep _ ih =>
    intro d
    exact .keep (ih (by simpa using d))
  | drop hx _ ih => intro d; exact .drop hx (ih d)
theorem Cov.keys {s a u} (c : S.Cov s a u) : ∀ x ∈ u, S.key x ∈ s ∨ S.key x ∈ a.map S.key := by
  induction c with
  | nil => intro x hx; cases hx
  | @keep s x a u _ ih =>
    intro y hy
    rcases List.mem_cons.mp hy with rfl | hy
    · exact .inr (by simp)
    · rcases ih y hy with h | h
      · rcases List.mem_append.mp h with h | h
        · exact .inl h
        · rw [List.mem_singleton.mp h]; exact .inr (by simp)
      · exact .inr (List.mem_cons_of_mem _ h)
  | drop hx _ ih =>
    intro y hy
    rcases List.mem_cons.mp hy with rfl | hy
    · exact .inl hx
    · exact ih y hy
theorem Cov.sub {s a u} (c : S.Cov s a u) : ∀ x ∈ a, x ∈ u := by
  induction c with
  | nil => intro x hx; exact hx
  | keep _ ih =>
    intro y hy
    rcases List.mem_cons.mp hy with rfl | hy
    · exact List.mem_cons_self
    · exact List.mem_cons_of_mem _ (ih y hy)
  | drop _ _ ih => intro y hy; exact List.mem_cons_of_mem _ (ih y hy)
/-- no key ends the search -/
def Calm (S : Sr α β) (s : List α) : Prop := ∀ x, S.key x ∈ s → S.stop x = false
theorem Cov.find {s a u} (c : S.Cov s a u) (ok : S.Ok) (h : Calm S s) : u.find? S.stop = a.find? S.stop := by
  induction c with
  | nil => rfl
  | @keep s x a u _ ih =>
    rw [List.find?_cons, List.find?_cons]
    cases hx : S.stop x with
    | true => rfl
    | false =>
      refine ih fun y hy => ?_
      rcases List.mem_append.mp hy with hy | hy
      · exact h y hy
      · rw [ok.stop y x (List.mem_singleton.mp hy)]; exact hx
  | @drop s x a u hx _ ih =>
    rw [List.find?_cons, h x hx]
    exact ih h
theorem pass_error {y : β} : ∀ {lv : List β} {kn : List α} {la : List β}, S.pass lv kn la = .error y ↔ lv.find? S.stop = some y
  | [], kn, la => by simp [pass]
  | x :: xs, kn, la => by
    rw [pass, List.find?_cons]
    cases hx : S.stop x with
    | true => simp
    | false =>
      simp only [Bool.false_eq_true, if_false]
      split
      · exact pass_error
      · exact pass_error
theorem pass_ok : ∀ {lv : List β} {kn kn' : List α} {la la' : List β}, S.pass lv kn la = .ok (kn', la') → (∀ k ∈ kn, k ∈ kn') ∧ (∀ x ∈ lv, S.key x ∈ kn') ∧ (∀ k ∈ kn', k ∈ kn ∨ k ∈ lv.map S.key) ∧ (kn.Nodup → kn'.Nodup) ∧
    (∀ x ∈ la, x ∈ la') ∧ (∀ x ∈ la', x ∈ la ∨ ∃ z ∈ lv, x ∈ S.sc z) ∧ (kn'.length = kn.length → la' = la) ∧ kn.length ≤ kn'.length
  | [], kn, kn', la, la', h => by
    cases h
    exact ⟨fun _ h => h, fun _ h => absurd h List.not_mem_nil, fun _ h => .inl h, fun h => h, fun _ h => h, fun _ h => .inl h, fun _ => rfl, Nat.le_refl _⟩
  | x :: xs, kn, kn', la, la', h => by
    rw [pass] at h
    split at h
    · cases h
    · split at h
      · rename_i hm
        obtain ⟨h1, h2, h3, h4, h5, h6, h7, h8⟩ := pass_ok h
        refine ⟨h1, fun y hy => ?_, fun k hk => ?_, h4, h5, fun y hy => ?_, h7, h8⟩
        · rcases List.mem_cons.mp hy with rfl | hy
          · exact h1 _ hm
          · exact h2 y hy
        · rcases h3 k hk with q | q
          · exact .inl q
          · exact .inr (List.mem_cons_of_mem _ q)
        · rcases h6 y hy with q | ⟨z, hz, q⟩
          · exact .inl q
          · exact .inr ⟨z, List.mem_cons_of_mem _ hz, q⟩
      · rename_i hm
        obtain ⟨h1, h2, h3, h4, h5, h6, h7, h8⟩ := pass_ok h
        rw [List.length_append, List.length_singleton] at h8
        refine ⟨fun k hk => h1 k (List.mem_append_left _ hk), fun y hy => ?_, fun k hk => ?_, fun nd => ?_, fun y hy => h5 y (List.mem_append_left _ hy), fun y hy => ?_, fun e => by omega, by omega⟩
        · rcases List.mem_cons.mp hy with rfl | hy
          · exact h1 _ (List.mem_append_right _ (List.mem_singleton.mpr rfl))
          · exact h2 y hy
        · rcases h3 k hk with q | q
          · rcases List.mem_append.mp q with q | q
            · exact .inl q
            · rw [List.mem_singleton.mp q]; exact .inr (by simp)
          · exact .inr (List.mem_cons_of_mem _ q)
        · refine h4 (List.nodup_append.mpr ⟨nd, by simp, fun a ha b hb => ?_⟩)
          rw [List.mem_singleton.mp hb]
          intro e
          subst e
          exact hm ha
        · rcases h6 y hy with q | ⟨z, hz, q⟩
          · rcases List.mem_append.mp q with q | q
            · exact .inl q
            · exact .inr ⟨x, List.mem_cons_self, q⟩
          · exact .inr ⟨z, List.mem_cons_of_mem _ hz, q⟩
/-- what follows a key lies in s -/
def Kids (S : Sr α β) (k : α) (s : List α) : Prop := ∀ x, S.key x = k → ∀ y ∈ S.sc x, S.key y ∈ s
theorem kids_of (ok : S.Ok) {x : β} {s : List α} (h : ∀ y ∈ S.sc x, S.key y ∈ s) : Kids S (S.key x) s := fun z hz y hy => by
  have e := ok.sc z x hz
  have : S.key y ∈ (S.sc x).map S.key := by rw [← e]; exact List.mem_map.mpr ⟨y, hy, rfl⟩
  obtain ⟨w, hw, e2⟩ := List.mem_map.mp this
  rw [← e2]
  exact h w hw
/-- one level -/
theorem pass_cov (ok : S.Ok) {kn' : List α} {la' : List β} {s : List α} {lv u : List β} (c : S.Cov s lv u) : ∀ {kn : List α} {la v : List β}, S.pass lv kn la = .ok (kn', la') → (∀ k ∈ s, k ∈ kn) → S.Cov kn' la v → (∀ k ∈ kn, Kids S k (kn' ++ la.map S.key)) →
    S.Cov kn' la' (v ++ u.flatMap S.sc) ∧ ∀ k ∈ kn', Kids S k (kn' ++ la'.map S.key) := by
  induction c with
  | nil =>
    intro kn la v h _ cv hk
    cases h
    exact ⟨by simpa using cv, hk⟩
  | @keep s x a u c ih =>
    intro kn la v h hs cv hk
    rw [pass] at h
    split at h
    · cases h
    · have e : v ++ (x :: u).flatMap S.sc = (v ++ S.sc x) ++ u.flatMap S.sc := by simp
      rw [e]
      split at h
      · rename_i hm
        refine ih h (fun k hk => ?_) ?_ hk
        · rcases List.mem_append.mp hk with q | q
          · exact hs k q
          · rw [List.mem_singleton.mp q]; exact hm
        · have := cv.app (b := []) (v := S.sc x) (Cov.none fun y hy => hk _ hm x rfl y hy)
          simpa using this
      · refine ih h (fun k hk => ?_) (cv.app (Cov.all _)) (fun k hk2 => ?_)
        · rcases List.mem_append.mp hk with q | q
          · exact List.mem_append_left _ (hs k q)
          · exact List.mem_append_right _ q
        · rw [List.map_append, ← List.append_assoc]
          rcases List.mem_append.mp hk2 with q | q
          · exact fun z hz y hy => List.mem_append_left _ (hk k q z hz y hy)
          · rw [List.mem_singleton.mp q]
            exact kids_of ok fun y hy => List.mem_append_right _ (List.mem_map.mpr ⟨y, hy, rfl⟩)
  | @drop s x a u hx c ih =>
    intro kn la v h hs cv hk
    have e : v ++ (x :: u).flatMap S.sc = (v ++ S.sc x) ++ u.flatMap S.sc := by simp
    rw [e]
    refine ih h hs ?_ hk
    have := cv.app (b := []) (v := S.sc x) (Cov.none fun y hy => hk _ (hs _ hx) x rfl y hy)
    simpa using this
/-- what an end tells -/
def Told (S : Sr α β) (st : List β) : Except β (List α) → Prop
  | .error x => ∃ j, (S.lev st j).find? S.stop = some x ∧ ∀ i, i < j → (S.lev st i).find? S.stop = none
  | .ok kn' => (∀ j, (S.lev st j).find? S.stop = none) ∧ kn'.Nodup ∧ ∀ k, k ∈ kn' ↔ ∃ j, ∃ x ∈ S.lev st j, S.key x = k
/-- the whole search from a level on -/
theorem bfs_run (ok : S.Ok) (st : List β) : ∀ (f : Nat) (m : Nat) (lv : List β) (kn : List α) (r : Except β (List α)), S.bfs f lv kn = some r → S.Cov kn lv (S.lev st m) → (∀ k ∈ kn, Kids S k (kn ++ lv.map S.key)) → Calm S kn → kn.Nodup →
    (∀ k, k ∈ kn → ∃ j, j < m ∧ ∃ x ∈ S.lev st j, S.key x = k) → (∀ j, j < m → (S.lev st j).find? S.stop = none ∧ ∀ x ∈ S.lev st j, S.key x ∈ kn) →
    Told S st r
  | 0, m, lv, kn, r, h, _, _, _, _, _, _ => by cases h
  | f + 1, m, [], kn, r, h, c, kids, calm, nd, hk, hj => by
    cases h
    have h0 : ∀ i, ∀ x ∈ S.lev st (m + i), S.key x ∈ kn := fun i => by
      induction i with
      | zero =>
        intro x hx
        rcases c.keys x hx with q | q
        · exact q
        · cases q
      | succ i ih =>
        intro x hx
        obtain ⟨z, hz, hx⟩ := List.mem_flatMap.mp (show x ∈ (S.lev st (m + i)).flatMap S.sc from hx)
        have := kids _ (ih z hz) z rfl x hx
        simpa using this
    have h1 : ∀ j, ∀ x ∈ S.lev st j, S.key x ∈ kn := fun j x hx => by
      by_cases q : j < m
      · exact (hj j q).2 x hx
      · have e : j = m + (j - m) := by omega
        rw [e] at hx
        exact h0 _ x hx
    refine ⟨fun j => List.find?_eq_none.mpr fun x hx => ?_, nd, fun k => ⟨fun h => ?_, fun ⟨j, x, hx, e⟩ => ?_⟩⟩
    · rw [calm x (h1 j x hx)]; exact Bool.false_ne_true
    · obtain ⟨j, _, x, hx, e⟩ := hk k h
      exact ⟨j, x, hx, e⟩
    · rw [← e]; exact h1 j x hx
  | f + 1, m, y :: ys, kn, r, h, c, kids, calm, nd, hk, hj => by
    rw [bfs] at h
    have hf := c.find ok calm
    split at h
    · rename_i z hz
      cases h
      rw [pass_error] at hz
      exact ⟨m, by rw [hf]; exact hz, fun i hi => (hj i hi).1⟩
    · rename_i kn' la hz
      have hnone : (y :: ys).find? S.stop = none := by
        cases e : (y :: ys).find? S.stop with
        | none => rfl
        | some w =>
          rw [← pass_error (kn := kn) (la := [])] at e
          rw [hz] at e
          cases e
      obtain ⟨p1, p2, p3, p4, _, p6, _, _⟩ := pass_ok hz
      obtain ⟨c1, c2⟩ := pass_cov ok (v := []) c hz (fun _ h => h) .nil (fun k hk2 x hx z hz2 => by
        rcases List.mem_append.mp (kids k hk2 x hx z hz2) with q | q
        · exact List.mem_append_left _ (p1 _ q)
        · obtain ⟨w, hw, e⟩ := List.mem_map.mp q
          rw [← e]
          exact List.mem_append_left _ (p2 w hw))
      refine bfs_run ok st f (m + 1) la kn' r h (by rw [List.nil_append] at c1; exact c1) c2 (fun x hx => ?_) (p4 nd) (fun k hk2 => ?_) (fun j hj2 => ?_)
      · rcases p3 _ hx with q | q
        · exact calm x q
        · obtain ⟨w, hw, e⟩ := List.mem_map.mp q
          rw [ok.stop x w e.symm]
          have := List.find?_eq_none.mp hnone w hw
          simpa using this
      · rcases p3 k hk2 with q | q
        · obtain ⟨j, h1, h2⟩ := hk k q
          exact ⟨j, by omega, h2⟩
        · obtain ⟨w, hw, e⟩ := List.mem_map.mp q
          exact ⟨m, by omega, w, c.sub w hw, e⟩
      · by_cases q : j < m
        · exact ⟨(hj j q).1, fun x hx => p1 _ ((hj j q).2 x hx)⟩
        · have e : j = m := by omega
          subst e
          refine ⟨by rw [hf]; exact hnone, fun x hx => ?_⟩
          rcases c.keys x hx with w | w
          · exact p1 _ w
          · obtain ⟨z, hz2, e⟩ := List.mem_map.mp w
            rw [← e]
            exact p2 z hz2
theorem bfs_start (ok : S.Ok) {st : List β} {f : Nat} {r : Except β (List α)} (h : S.bfs f st [] = some r)  : Told S st r :=
  bfs_run ok st f 0 st [] r h (Cov.all _) (fun _ h => by cases h) (fun _ h => by cases h) (by simp) (fun _ h => by cases h) (fun _ h => by omega)
/-- the search ends: U holds all keys -/
theorem bfs_ends {U : List α} (P : β → Prop) (hU : ∀ x, P x → S.key x ∈ U) (hP : ∀ x, P x → ∀ y ∈ S.sc x, P y) : ∀ (f : Nat) (lv : List β) (kn : List α), (∀ x ∈ lv, P x) → kn.Nodup → (∀ k ∈ kn, k ∈ U) → U.length + 2 ≤ f + kn.length → ∃ r, S.bfs f lv kn = some r ∧
    ∀ kn', r = .ok kn' → kn'.Nodup ∧ ∀ k ∈ kn', k ∈ U
  | f, lv, kn, hlv, nd, hk, hf => by
    have hlen := nodup_le kn U nd hk
    cases f with
    | zero => omega
    | succ f =>
      cases lv with
      | nil => exact ⟨_, rfl, fun kn' e => by cases e; exact ⟨nd, hk⟩⟩
      | cons y ys =>
        rw [bfs]
        split
        · exact ⟨_, rfl, fun kn' e => by cases e⟩
        · rename_i kn' la hz
          obtain ⟨p1, p2, p3, p4, _, p6, p7, p8⟩ := pass_ok hz
          have hk' : ∀ k ∈ kn', k ∈ U := fun k h => by
            rcases p3 k h with q | q
            · exact hk k q
            · obtain ⟨w, hw, e⟩ := List.mem_map.mp q
              rw [← e]
              exact hU w (hlv w hw)
          by_cases e : kn'.length = kn.length
          · have := p7 e
            subst this
            cases f with
            | zero => omega
            | succ f => exact ⟨_, rfl, fun kn'' e => by cases e; exact ⟨p4 nd, hk'⟩⟩
          · refine bfs_ends P hU hP f la kn' (fun x hx => ?_) (p4 nd) hk' (by omega)
            rcases p6 x hx with q | ⟨z, hz2, q⟩
            · cases q
            · exact hP z (hlv z hz2) x q
theorem bfs_err {P : Nat → β → Prop} (hs : ∀ f x, P (f + 1) x → ∀ y ∈ S.sc x, P f y) : ∀ (f : Nat) (lv : List β) (kn : List α) (x : β), (∀ y ∈ lv, P f y) → S.bfs f lv kn = some (.error x) → ∃ g, P g x
  | 0, lv, kn, x, _, h => by cases h
  | f + 1, [], kn, x, _, h => by cases h
  | f + 1, y :: ys, kn, x, hlv, h => by
    rw [bfs] at h
    split at h
    · rename_i z hz
      cases h
      rw [pass_error] at hz
      exact ⟨f + 1, hlv _ (List.mem_of_find?_eq_some hz)⟩
    · rename_i kn' la hz
      obtain ⟨_, _, _, _, _, p6, _, _⟩ := pass_ok hz
      refine bfs_err hs f la kn' x (fun w hw => ?_) h
      rcases p6 w hw with q | ⟨z, hz2, q⟩
      · exact absurd q List.not_mem_nil
      · exact hs f z (hlv z hz2) w q
end Sr
end
end LS

set_option Elab.async false
set_option linter.all false
set_option maxRecDepth 100000
set_option maxHeartbeats 1000000
/-! LSp: roads with the states with which drivers come onto them. -/
namespace LS
open PySem PySem.Spec PyProof.Rows L2
def behind (n : Net) (p : Int × Int) : Int := goOver n (leaveS n p.1 p.2)
def nb (n : Net) (p : Int × Int) : List (Int × Int) := (follow n p.1).map fun k => (k, behind n p)
def SP (n : Net) : Sr (Int × Int) (Int × Int) := ⟨id, nb n, fun _ => false⟩
def st0 (n : Net) : List (Int × Int) := (List.range n.roads.length).map fun (k : Nat) => ((k : Int), (0 : Int))
/-- a driver can come onto the road r with the state s -/
def Rc (n : Net) (p : Int × Int) : Prop := ∃ j, p ∈ (SP n).lev (st0 n) j
def lasts (n : Net) : List Int := n.roads.map fun r => r.g.getLastD 0
/-- all that may be -/
def uni (n : Net) : List (Int × Int) := (List.range n.roads.length).flatMap fun (k : Nat) => (0 :: lasts n).map fun s => ((k : Int), s)
def InU (n : Net) (p : Int × Int) : Prop := (0 ≤ p.1 ∧ p.1 < n.roads.length) ∧ p.2 ∈ 0 :: lasts n
theorem SP_ok (n : Net) : (SP n).Ok := ⟨fun x y h => by cases (show x = y from h); rfl, fun _ _ _ => rfl⟩
theorem mem_st0 {n : Net} {p : Int × Int} : p ∈ st0 n ↔ (0 ≤ p.1 ∧ p.1 < n.roads.length) ∧ p.2 = 0 := by
  unfold st0
  rw [List.mem_map]
  constructor
  · rintro ⟨k, hk, rfl⟩
    simp at hk
    exact ⟨⟨by show (0 : Int) ≤ k; omega, by show (k : Int) < _; omega⟩, rfl⟩
  · rintro ⟨⟨h1, h2⟩, h3⟩
    refine ⟨p.1.toNat, by simp; omega, Prod.ext (by show ((p.1.toNat : Nat) : Int) = p.1; omega) h3.symm⟩
theorem InU.st {n : Net} {p : Int × Int} (h : p ∈ st0 n) : InU n p := by
  obtain ⟨h1, h2⟩ := mem_st0.mp h
  exact ⟨h1, by rw [h2]; exact List.mem_cons_self⟩
theorem leave_mem {n : Net} {p : Int × Int} (h : InU n p) : leaveS n p.1 p.2 ∈ 0 :: lasts n := by
  unfold leaveS
  cases hg : (n.road p.1).g with
  | nil => exact h.2
  | cons a g =>
    refine List.mem_cons_of_mem _ (List.mem_map.mpr ⟨n.road p.1, Net.road_mem h.1.1 h.1.2, ?_⟩)
    rw [hg]
    rfl
theorem behind_mem {n : Net} {p : Int × Int} (h : InU n p) : behind n p ∈ 0 :: lasts n := by
  unfold behind goOver
  split
  · exact leave_mem h
  · exact List.mem_cons_self
theorem InU.nb {n : Net} {p q : Int × Int} (h : InU n p) (hq : q ∈ nb n p) : InU n q := by
  obtain ⟨k, hk, rfl⟩ := List.mem_map.mp hq
  obtain ⟨h1, h2, _⟩ := follow_mem hk
  exact ⟨⟨h1, h2⟩, behind_mem h⟩
theorem InU.uni {n : Net} {p : Int × Int} (h : InU n p) : p ∈ uni n := by
  unfold LS.uni
  obtain ⟨⟨h1, h2⟩, h3⟩ := h
  refine List.mem_flatMap.mpr ⟨p.1.toNat, by simp; omega, List.mem_map.mpr ⟨p.2, h3, Prod.ext ?_ rfl⟩⟩
  show ((p.1.toNat : Nat) : Int) = p.1
  omega
theorem lev_InU {n : Net} : ∀ (j : Nat) {p : Int × Int}, p ∈ (SP n).lev (st0 n) j → InU n p
  | 0, _, h => InU.st h
  | j + 1, p, h => by
    obtain ⟨q, hq, hp⟩ := List.mem_flatMap.mp (show p ∈ ((SP n).lev (st0 n) j).flatMap (nb n) from h)
    exact (lev_InU j hq).nb hp
theorem Rc.inU {n : Net} {p : Int × Int} (h : Rc n p) : InU n p := lev_InU _ h.choose_spec
theorem Rc.nb {n : Net} {p q : Int × Int} (h : Rc n p) (hq : q ∈ LS.nb n p) : Rc n q := by
  obtain ⟨j, hj⟩ := h
  exact ⟨j + 1, List.mem_flatMap.mpr ⟨p, hj, hq⟩⟩
theorem Rc.st {n : Net} {p : Int × Int} (h : p ∈ st0 n) : Rc n p := ⟨0, h⟩
theorem sum_const {α : Type} (c : Nat) : ∀ l : List α, (l.map fun _ => c).sum = l.length * c
  | [] => by simp
  | a :: l => by rw [List.map_cons, List.sum_cons, sum_const c l, List.length_cons, Nat.succ_mul, Nat.add_comm]
theorem uni_len (n : Net) : (uni n).length = n.roads.length * (n.roads.length + 1) := by
  unfold uni
  rw [List.length_flatMap]
  have e : (fun (k : Nat) => ((0 :: lasts n).map fun s => ((k : Int), s)).length) = fun _ => n.roads.length + 1 := by
    funext k
    rw [List.length_map, List.length_cons]
    unfold lasts
    rw [List.length_map]
  rw [e, sum_const, List.length_range]
theorem uni_72 {n : Net} (h : n.Ok) : (uni n).length ≤ 72 := by
  rw [uni_len]
  have := h.l8
  exact Nat.le_trans (Nat.mul_le_mul this (Nat.succ_le_succ this)) (by decide)
/-- the search's end -/
theorem found_ex {n : Net} (h : n.Ok) : ∃ kn, (SP n).bfs 1000 (st0 n) [] = some (.ok kn) ∧ kn.Nodup ∧ (∀ p, p ∈ kn ↔ Rc n p) ∧ kn.length ≤ n.roads.length * (n.roads.length + 1) := by
  obtain ⟨r, h1, h2⟩ := Sr.bfs_ends (S := SP n) (U := uni n) (InU n) (fun p hp => hp.uni) (fun p hp q hq => hp.nb hq) 1000 (st0 n) [] (fun p hp => InU.st hp) (by simp) (fun _ h => absurd h List.not_mem_nil) (by have := uni_72 h; simp; omega)
  have t := Sr.bfs_start (SP_ok n) h1
  cases r with
  | error x =>
    obtain ⟨j, hj, _⟩ := t
    have := List.find?_some hj
    cases this
  | ok kn =>
    obtain ⟨_, t2, t3⟩ := t
    refine ⟨kn, h1, t2, fun p => (t3 p).trans ⟨fun ⟨j, x, hx, e⟩ => ?_, fun ⟨j, hj⟩ => ⟨j, p, hj, rfl⟩⟩, ?_⟩
    · cases (show x = p from e)
      exact ⟨j, hx⟩
    · rw [← uni_len]
      exact nodup_le _ _ t2 (h2 kn rfl).2
noncomputable def found (n : Net) : List (Int × Int) := match (SP n).bfs 1000 (st0 n) [] with
  | some (.ok kn) => kn
  | _ => []
theorem found_is {n : Net} (h : n.Ok) : (SP n).bfs 1000 (st0 n) [] = some (.ok (found n)) ∧ (found n).Nodup ∧ (∀ p, p ∈ found n ↔ Rc n p) ∧ (found n).length ≤ n.roads.length * (n.roads.length + 1) := by
  obtain ⟨kn, h1, h2⟩ := found_ex h
  have e : found n = kn := by unfold found; rw [h1]
  rw [e]
  exact ⟨h1, h2⟩
def pl (p : Int × Int) : List Int := [p.1, p.2]
theorem pl_inj {p q : Int × Int} (h : pl p = pl q) : p = q := by
  unfold pl at h
  injection h with h1 h2
  injection h2 with h2
  exact Prod.ext h1 h2
/-- pairs in Python's order -/
def leP (p q : Int × Int) : Bool := leT (pl p) (pl q)
theorem leP_iff {p q : Int × Int} : leP p q = true ↔ p.1 < q.1 ∨ (p.1 = q.1 ∧ p.2 ≤ q.2) := by
  unfold leP pl
  rw [leT_cons, leT_cons]
  simp only [leT_nil, and_true]
  omega
theorem ordP : Ord leP := ⟨fun a b => ordT.tot (pl a) (pl b), fun a b c h1 h2 => ordT.tr _ _ _ h1 h2, fun a b h1 h2 => pl_inj (ordT.anti _ _ h1 h2)⟩
/-- sorted, each once: the roads with their states -/
noncomputable def plc (n : Net) : List (Int × Int) := usort leP (found n)
theorem mem_plc {n : Net} (h : n.Ok) {p : Int × Int} : p ∈ plc n ↔ Rc n p := (mem_usort p _).trans ((found_is h).2.2.1 p)
/-- tuples sorted as pairs -/
theorem usort_pl (l : List (Int × Int)) : usort leT (l.map pl) = (usort leP l).map pl := by
  refine (usort_of ordT ?_ ?_ fun x => ?_).symm
  · rw [List.pairwise_map]
    exact (usort_sorted ordP l).imp fun h => h.1
  · rw [List.nodup_iff_pairwise_ne, List.pairwise_map]
    exact (usort_sorted ordP l).imp fun h e => h.2 (pl_inj e)
  · constructor
    · intro hx
      obtain ⟨p, hp, rfl⟩ := List.mem_map.mp hx
      exact List.mem_map.mpr ⟨p, (mem_usort p l).mp hp, rfl⟩
    · intro hx
      obtain ⟨p, hp, rfl⟩ := List.mem_map.mp hx
      exact List.mem_map.mpr ⟨p, (mem_usort p l).mpr hp, rfl⟩
/-- the states with which drivers come onto a road, ascending -/
noncomputable def sts (n : Net) (r : Int) : List Int := ((plc n).filter fun p => decide (p.1 = r)).map (·.2)
theorem mem_sts {n : Net} (h : n.Ok) {r s : Int} : s ∈ sts n r ↔ Rc n (r, s) := by
  unfold sts
  rw [List.mem_map]
  constructor
  · rintro ⟨p, hp, rfl⟩
    obtain ⟨h1, h2⟩ := List.mem_filter.mp hp
    have e : p.1 = r := by simpa using h2
    rw [← e]
    exact (mem_plc h).mp h1
  · intro hr
    exact ⟨(r, s), List.mem_filter.mpr ⟨(mem_plc h).mpr hr, by simp⟩, rfl⟩
theorem sts_sorted (n : Net) (r : Int) : (sts n r).Pairwise (fun a b => a < b) := by
  unfold sts
  rw [List.pairwise_map]
  refine ((usort_sorted ordP (found n)).filter _).imp_of_mem fun {p q} hp hq h => ?_
  have e1 : p.1 = r := by simpa using (List.mem_filter.mp hp).2
  have e2 : q.1 = r := by simpa using (List.mem_filter.mp hq).2
  rcases leP_iff.mp h.1 with z | ⟨_, z⟩
  · omega
  · rcases Int.lt_or_eq_of_le z with z | z
    · exact z
    · exact absurd (Prod.ext (e1.trans e2.symm) z) h.2
theorem sts_zero {n : Net} (h : n.Ok) {r : Int} (h1 : 0 ≤ r) (h2 : r < n.roads.length) : (0 : Int) ∈ sts n r := (mem_sts h).mpr (Rc.st (mem_st0.mpr ⟨⟨h1, h2⟩, rfl⟩))
theorem state_ok {n : Net} (h : n.Ok) {s : Int} (hs : s ∈ 0 :: lasts n) : okSt s := by
  rcases List.mem_cons.mp hs with rfl | hs
  · exact ⟨by omega, by omega⟩
  · obtain ⟨r, hr, rfl⟩ := List.mem_map.mp hs
    cases hg : r.g with
    | nil => exact ⟨by simp, by simp⟩
    | cons a g =>
      have : (a :: g).getLastD 0 ∈ r.g := by
        rw [hg]
        simp [List.getLastD]
      exact (h.roads r hr).g _ this
theorem sts_ok {n : Net} (h : n.Ok) {r s : Int} (hs : s ∈ sts n r) : okSt s := state_ok h ((mem_sts h).mp hs).inU.2
/-! ### rounds -/
def gr (n : Net) : Nat → List (Int × Int)
  | 0 => st0 n
  | i + 1 => gr n i ++ (gr n i).flatMap (nb n)
theorem gr_mono (n : Net) (i : Nat) {p : Int × Int} (h : p ∈ gr n i) : p ∈ gr n (i + 1) := List.mem_append_left _ h
theorem gr_le (n : Net) {i j : Nat} (hij : i ≤ j) {p : Int × Int} (h : p ∈ gr n i) : p ∈ gr n j := by
  induction hij with
  | refl => exact h
  | step _ ih => exact gr_mono n _ ih
theorem gr_step {n : Net} {i : Nat} {p q : Int × Int} (h : p ∈ gr n i) (hq : q ∈ nb n p) : q ∈ gr n (i + 1) := List.mem_append_right _ (List.mem_flatMap.mpr ⟨p, h, hq⟩)
theorem gr_rc {n : Net} : ∀ {i : Nat} {p : Int × Int}, p ∈ gr n i → Rc n p
  | 0, _, h => Rc.st h
  | i + 1, p, h => by
    rcases List.mem_append.mp h with h | h
    · exact gr_rc h
    · obtain ⟨q, hq, hp⟩ := List.mem_flatMap.mp h
      exact (gr_rc hq).nb hp
def cntR (n : Net) (i : Nat) (s : Int) : Nat := ((List.range n.roads.length).filter fun (r : Nat) => decide (((r : Int), s) ∈ gr n i)).length
theorem filter_grow {α : Type} (p q : α → Bool) (x : α) : ∀ l : List α, (∀ y, p y = true → q y = true) → x ∈ l → p x = false → q x = true → (l.filter p).length < (l.filter q).length
  | [], _, h, _, _ => by cases h
  | y :: l, h, hx, h1, h2 => by
    have le : ∀ l : List α, (l.filter p).length ≤ (l.filter q).length := fun l => by
      induction l with
      | nil => exact Nat.le_refl _
      | cons z l ih =>
        rw [List.filter_cons, List.filter_cons]
        cases hp : p z with
        | true => rw [if_pos rfl, if_pos (h z hp)]; exact Nat.succ_le_succ ih
        | false =>
          rw [if_neg (by simp)]
          split
          · exact Nat.le_succ_of_le ih
          · exact ih
    rw [List.filter_cons, List.filter_cons]
    rcases List.mem_cons.mp hx with rfl | hx
    · rw [h1, h2, if_neg (by simp), if_pos rfl]
      exact Nat.lt_succ_of_le (le l)
    · have ih := filter_grow p q x l h hx h1 h2
      cases hp : p y with
      | true => rw [if_pos rfl, if_pos (h y hp)]; exact Nat.succ_lt_succ ih
      | false =>
        rw [if_neg (by simp)]
        split
        · exact Nat.lt_succ_of_lt ih
        · exact ih
theorem gr_stable (n : Net) : ∀ (i : Nat) (s : Int), (∀ r, (r, s) ∈ gr n (i + 1) → (r, s) ∈ gr n i) ∨ i ≤ cntR n i s
  | 0, s => .inr (Nat.zero_le _)
  | i + 1, s => by
    rcases Classical.em (∀ r, (r, s) ∈ gr n (i + 1) → (r, s) ∈ gr n i) with c | c
    · refine .inl fun r hr => ?_
      rcases List.mem_append.mp hr with hr | hr
      · exact hr
      · obtain ⟨q, hq, hp⟩ := List.mem_flatMap.mp hr
        obtain ⟨k, hk, e⟩ := List.mem_map.mp hp
        have e1 : k = r := congrArg Prod.fst e
        have e2 : behind n q = s := congrArg Prod.snd e
        subst e1
        obtain ⟨f1, f2, _⟩ := follow_mem hk
        have q1 := (gr_rc hq).inU.1
        by_cases hg : (n.road q.1).g = []
        · have es : leaveS n q.1 q.2 = q.2 := by unfold leaveS; rw [hg]; rfl
          by_cases hkp : n.keeps = 1
          · have e3 : q.2 = s := by rw [← e2]; unfold behind goOver; rw [es, if_pos hkp]
            have e4 : q = (q.1, s) := Prod.ext rfl e3
            rw [e4] at hq
            have := c _ hq
            rw [← e4] at this
            exact gr_step this hp
          · have e3 : s = 0 := by rw [← e2]; unfold behind goOver; rw [if_neg hkp]
            exact gr_le n (Nat.zero_le _) (mem_st0.mpr ⟨⟨f1, f2⟩, e3⟩)
        · have z : (q.1, (0 : Int)) ∈ gr n 0 := mem_st0.mpr ⟨q1, rfl⟩
          have eb : behind n (q.1, 0) = behind n q := by
            unfold behind leaveS
            cases hg2 : (n.road q.1).g with
            | nil => exact absurd hg2 hg
            | cons a g => rfl
          refine gr_le n (show 1 ≤ i + 1 by omega) (gr_step z (List.mem_map.mpr ⟨k, hk, Prod.ext rfl (eb.trans e2)⟩))
    · refine .inr ?_
      obtain ⟨r, hr⟩ := Classical.not_forall.mp c
      obtain ⟨h1, h2⟩ := Classical.not_imp.mp hr
      have q1 : 0 ≤ r ∧ r < n.roads.length := (gr_rc h1).inU.1
      have ih : i ≤ cntR n i s := by
        rcases gr_stable n i s with z | z
        · exact absurd z c
        · exact z
      have er : ((r.toNat : Nat) : Int) = r := by omega
      have := filter_grow (fun (r : Nat) => decide (((r : Int), s) ∈ gr n i)) (fun (r : Nat) => decide (((r : Int), s) ∈ gr n (i + 1))) r.toNat (List.range n.roads.length) (fun y hy => by
        simp only [decide_eq_true_eq] at hy ⊢
        exact gr_mono n i hy) (by simp; omega) (by rw [er]; simpa using h2) (by rw [er]; simpa using h1)
      unfold cntR at ih ⊢
      omega
theorem gr_all (n : Net) {p : Int × Int} (h : Rc n p) : p ∈ gr n (n.roads.length + 1) := by
  have closed : ∀ q, q ∈ gr n (n.roads.length + 1 + 1) → q ∈ gr n (n.roads.length + 1) := fun q hq => by
    rcases gr_stable n (n.roads.length + 1) q.2 with c | c
    · exact c q.1 hq
    · have : cntR n (n.roads.length + 1) q.2 ≤ n.roads.length := by
        unfold cntR
        exact Nat.le_trans (List.length_filter_le _ _) (by simp)
      omega
  obtain ⟨j, hj⟩ := h
  induction j generalizing p with
  | zero => exact gr_le n (Nat.zero_le _) hj
  | succ j ih =>
    obtain ⟨q, hq, hp⟩ := List.mem_flatMap.mp (show p ∈ ((SP n).lev (st0 n) j).flatMap (nb n) from hj)
    exact closed p (gr_step (ih hq) hp)
theorem rc_gr (n : Net) {p : Int × Int} : Rc n p ↔ p ∈ gr n (n.roads.length + 1) := ⟨gr_all n, gr_rc⟩
end LS

set_option Elab.async false
set_option linter.all false
set_option maxRecDepth 100000
set_option maxHeartbeats 1000000
/-! LSw: what a block leaves, statement by statement. -/
namespace LS
open PySem PySem.Spec PyProof.Rows L2
def Wp (G : Fns) (ss : Ss) (ρ : En) (Q : So → Prop) : Prop := ∃ r, evSs G ss ρ = some r ∧ Q r
/-- on to K, or it ends -/
def nxO (K : En → Prop) (Q : So → Prop) : So → Prop
  | .nx ρ => K ρ
  | r => Q r
@[simp] theorem nxO_nx (K : En → Prop) (Q : So → Prop) (ρ : En) : nxO K Q (.nx ρ) = K ρ := rfl
@[simp] theorem nxO_rt (K : En → Prop) (Q : So → Prop) (d : D) : nxO K Q (.rt d) = Q (.rt d) := rfl
@[simp] theorem nxO_ex (K : En → Prop) (Q : So → Prop) (c : Str) (ρ : En) : nxO K Q (.ex c ρ) = Q (.ex c ρ) := rfl
section
variable {G : Fns} {ρ : En} {ss : Ss} {Q : So → Prop}
theorem Wp.mono {Q' : So → Prop} (h : Wp G ss ρ Q) (i : ∀ r, Q r → Q' r) : Wp G ss ρ Q' := by
  obtain ⟨r, h1, h2⟩ := h
  exact ⟨r, h1, i r h2⟩
theorem w_nil (h : Q (.nx ρ)) : Wp G .nil ρ Q := ⟨_, rfl, h⟩
theorem w_cons {s : S} {r : So} (h : evS G s ρ = some r) (k : nxO (fun ρ' => Wp G ss ρ' Q) Q r) : Wp G (.cons s ss) ρ Q := by
  cases r with
  | nx ρ' =>
    obtain ⟨q, h1, h2⟩ := k
    exact ⟨q, by rw [ev_cons, h]; exact h1, h2⟩
  | rt d => exact ⟨.rt d, by rw [ev_cons, h], k⟩
  | ex c ρ' => exact ⟨.ex c ρ', by rw [ev_cons, h], k⟩
/-- a block, then the rest -/
theorem w_app {s : S} (h : ∃ r, evS G s ρ = some r ∧ nxO (fun ρ' => Wp G ss ρ' Q) Q r) : Wp G (.cons s ss) ρ Q := by
  obtain ⟨r, h1, h2⟩ := h
  exact w_cons h1 h2
theorem w_set {i : Nat} {e : E} {m : Mk} {d : D} {s : SV} (h : evE G e ρ = some (.v m d)) (hs : stv m d = some s) (k : Wp G ss (ρ.set i s) Q) : Wp G (.cons (.set i e) ss) ρ Q := w_cons (r := .nx (ρ.set i s)) (by rw [ev_set, h]; simp only [hs]) k
theorem w_fr {i : Nat} {e : E} {d : D} (h : evE G e ρ = some (.v .fr d)) (k : Wp G ss (ρ.set i (.ow d)) Q) : Wp G (.cons (.set i e) ss) ρ Q := w_set h rfl k
theorem w_cl {i : Nat} {e : E} {d : D} (h : evE G e ρ = some (.v .cl d)) (k : Wp G ss (ρ.set i (.fz d)) Q) : Wp G (.cons (.set i e) ss) ρ Q := w_set h rfl k
/-- a new list that is kept at once -/
theorem w_frz {i : Nat} {d : D} (h : look ρ i = .ow d) (k : Wp G ss (ρ.set i (.fz d)) Q) : Wp G (.cons (.frz i) ss) ρ Q := w_cons (r := .nx (ρ.set i (.fz d))) (by rw [ev_frz, h]) k
theorem w_frzf {i : Nat} {d : D} (h : look ρ i = .fz d) (k : Wp G ss ρ Q) : Wp G (.cons (.frz i) ss) ρ Q := w_cons (r := .nx ρ) (by rw [ev_frz, h]) k
theorem w_frfz {i : Nat} {e : E} {d : D} (hl : i < ρ.length) (h : evE G e ρ = some (.v .fr d)) (k : Wp G ss (ρ.set i (.fz d)) Q) : Wp G (.cons (.set i e) (.cons (.frz i) ss)) ρ Q :=
  w_fr h (w_frz (look_set_self hl) (by rw [List.set_set]; exact k))
theorem w_unp {is : List Nat} {e : E} {ds : List D} (h : evE G e ρ = some (.v .cl (.tup ds))) (hl : is.length = ds.length) (k : Wp G ss (setAll is ds ρ) Q) : Wp G (.cons (.unp is e) ss) ρ Q := w_cons (r := .nx (setAll is ds ρ)) (by rw [ev_unp, h]; simp only [hl, if_true]) k
theorem w_par {is : List Nat} {es : Es} {vs : List SV} (h : evPs G es ρ = some vs) (hl : is.length = vs.length) (k : Wp G ss (setSV is vs ρ) Q) : Wp G (.cons (.par is es) ss) ρ Q := w_cons (r := .nx (setSV is vs ρ)) (by rw [ev_par, h]; simp only [hl, if_true]) k
theorem w_sto {i : Nat} {k e : E} {y d kd d' : D} (h : cleanE (evE G e ρ) = some y) (hl : look ρ i = .ow d) (hk : cleanE (evE G k ρ) = some kd) (hs : stoD d kd y = some d') (kk : Wp G ss (ρ.set i (.ow d')) Q) : Wp G (.cons (.sto i k e) ss) ρ Q :=
  w_cons (r := .nx (ρ.set i (.ow d'))) (by rw [ev_sto, h]; simp only [hl, hk, hs]) kk
theorem w_add {i : Nat} {e : E} {ds : List D} {y : D} (hl : look ρ i = .ow (.lst ds)) (h : cleanE (evE G e ρ) = some y) (hn : ds.length < 16777216) (k : Wp G ss (ρ.set i (.ow (.lst (ds ++ [y])))) Q) : Wp G (.cons (.app i e) ss) ρ Q :=
  w_cons (r := .nx (ρ.set i (.ow (.lst (ds ++ [y]))))) (by
    have : Nat.blt ds.length LINE = true := by simpa [Nat.blt_eq] using hn
    rw [ev_app, hl]; simp only [h, this, if_true]) k
theorem w_ext {i : Nat} {e : E} {ds es : List D} (hl : look ρ i = .ow (.lst ds)) (h : cleanE (evE G e ρ) = some (.lst es)) (hn : ds.length + es.length ≤ 16777216) (k : Wp G ss (ρ.set i (.ow (.lst (ds ++ es)))) Q) : Wp G (.cons (.ext i e) ss) ρ Q :=
  w_cons (r := .nx (ρ.set i (.ow (.lst (ds ++ es))))) (by
    have : Nat.ble (ds.length + es.length) LINE = true := Nat.ble_eq_true_of_le hn
    rw [ev_ext, hl]; simp only [h, this, if_true]) k
theorem w_exp {e : E} {m : Mk} {d : D} (h : evE G e ρ = some (.v m d)) (k : Wp G ss ρ Q) : Wp G (.cons (.exp e) ss) ρ Q := w_cons (r := .nx ρ) (by rw [ev_exp, h]) k
theorem w_expx {e : E} {c : Str} (h : evE G e ρ = some (.x c)) (k : Q (.ex c ρ)) : Wp G (.cons (.exp e) ss) ρ Q := w_cons (r := .ex c ρ) (by rw [ev_exp, h]) k
theorem w_ret {e : E} {m : Mk} {d : D} (h : evE G e ρ = some (.v m d)) (hm : m ≠ .raw) (k : Q (.rt d)) : Wp G (.cons (.ret e) ss) ρ Q := w_cons (r := .rt d) (by
  rw [ev_ret, h]
  cases m with
  | raw => exact absurd rfl hm
  | _ => rfl) k
theorem w_retx {e : E} {c : Str} (h : evE G e ρ = some (.x c)) (k : Q (.ex c ρ)) : Wp G (.cons (.ret e) ss) ρ Q := w_cons (r := .ex c ρ) (by rw [ev_ret, h]) k
theorem w_rse {c m : Str} (k : Q (.ex c ρ)) : Wp G (.cons (.rse c m) ss) ρ Q := w_cons (r := .ex c ρ) rfl k
theorem w_ift {t : E} {a b : Ss} {m : Mk} (h : evE G t ρ = some (.v m (.bl true))) (k : Wp G a ρ (nxO (fun ρ' => Wp G ss ρ' Q) Q)) : Wp G (.cons (.ite t a b) ss) ρ Q := by
  obtain ⟨r, h1, h2⟩ := k
  exact w_cons (r := r) (by rw [ev_sif, h]; exact h1) h2
theorem w_iff {t : E} {a b : Ss} {m : Mk} (h : evE G t ρ = some (.v m (.bl false))) (k : Wp G b ρ (nxO (fun ρ' => Wp G ss ρ' Q) Q)) : Wp G (.cons (.ite t a b) ss) ρ Q := by
  obtain ⟨r, h1, h2⟩ := k
  exact w_cons (r := r) (by rw [ev_sif, h]; exact h1) h2
/-- a test that is passed -/
theorem w_skip {t : E} {a : Ss} {m : Mk} (h : evE G t ρ = some (.v m (.bl false))) (k : Wp G ss ρ Q) : Wp G (.cons (.ite t a .nil) ss) ρ Q := w_iff h (w_nil k)
theorem w_if {t : E} {a b : Ss} {m : Mk} {c : Bool} (h : evE G t ρ = some (.v m (.bl c))) (k1 : c = true → Wp G a ρ (nxO (fun ρ' => Wp G ss ρ' Q) Q)) (k2 : c = false → Wp G b ρ (nxO (fun ρ' => Wp G ss ρ' Q) Q)) : Wp G (.cons (.ite t a b) ss) ρ Q := by
  cases c with
  | true => exact w_ift h (k1 rfl)
  | false => exact w_iff h (k2 rfl)
theorem loopF_cons {b : D → En → Option So} {d : D} {ds : List D} : loopF b (d :: ds) ρ = (match b d ρ with
    | some (.nx ρ') => loopF b ds ρ'
    | r => r) := rfl
/-- a for, what holds by what is done -/
theorem w_for {α : Type} {tg : Tg} {it : It} {b : Ss} (k : α → D) (J : List α → En → Prop) : ∀ (xs : List α) (hi : evI G it ρ = some (xs.map k)) (h0 : J [] ρ)
    (hb : ∀ pre x post, xs = pre ++ x :: post → ∀ ρ, J pre ρ → ∃ ρ1, bindT tg (k x) ρ = some ρ1 ∧ Wp G b ρ1 (nxO (J (pre ++ [x])) Q)) (hk : ∀ ρ, J xs ρ → Wp G ss ρ Q), Wp G (.cons (.for_ tg it b) ss) ρ Q := by
  intro xs hi h0 hb hk
  have key : ∀ (post pre : List α) (ρ : En), xs = pre ++ post → J pre ρ → ∃ r, loopF (bodyF G tg b) (post.map k) ρ = some r ∧ nxO (fun ρ' => Wp G ss ρ' Q) Q r := fun post => by
    induction post with
    | nil =>
      intro pre ρ e hj
      rw [List.append_nil] at e
      subst e
      exact ⟨.nx ρ, rfl, hk ρ hj⟩
    | cons x post ih =>
      intro pre ρ e hj
      obtain ⟨ρ1, h1, r, h2, h3⟩ := hb pre x post e ρ hj
      have hbody : bodyF G tg b (k x) ρ = some r := by unfold bodyF; rw [h1]; exact h2
      cases r with
      | nx ρ2 =>
        obtain ⟨r', h4, h5⟩ := ih (pre ++ [x]) ρ2 (by rw [e, List.append_assoc]; rfl) h3
        exact ⟨r', by rw [List.map_cons, loopF_cons, hbody]; exact h4, h5⟩
      | rt d => exact ⟨.rt d, by rw [List.map_cons, loopF_cons, hbody], h3⟩
      | ex c ρ' => exact ⟨.ex c ρ', by rw [List.map_cons, loopF_cons, hbody], h3⟩
  obtain ⟨r, h1, h2⟩ := key xs [] ρ rfl h0
  exact w_cons (r := r) (by rw [ev_for, hi]; exact h1) h2
/-- a for, what holds all the time -/
theorem w_forI {α : Type} {tg : Tg} {it : It} {b : Ss} (k : α → D) (J : En → Prop) (xs : List α) (hi : evI G it ρ = some (xs.map k)) (h0 : J ρ)
    (hb : ∀ x ∈ xs, ∀ ρ, J ρ → ∃ ρ1, bindT tg (k x) ρ = some ρ1 ∧ Wp G b ρ1 (nxO J Q)) (hk : ∀ ρ, J ρ → Wp G ss ρ Q) : Wp G (.cons (.for_ tg it b) ss) ρ Q :=
  w_for k (fun _ => J) xs hi h0 (fun pre x post e ρ hj => hb x (by rw [e]; simp) ρ hj) hk
theorem w_forR {i : Nat} {it : It} {b : Ss} (J : En → Prop) {n : Int} (hi : evI G it ρ = some (rangeD 0 n)) (h0 : J ρ)
    (hb : ∀ x : Int, 0 ≤ x → x < n → ∀ ρ, J ρ → Wp G b (ρ.set i (.fz (.int x))) (nxO J Q)) (hk : ∀ ρ, J ρ → Wp G ss ρ Q) : Wp G (.cons (.for_ (.one i) it b) ss) ρ Q :=
  w_forI (fun (k : Nat) => .int (0 + (k : Int))) J (List.range (n - 0).toNat) hi h0 (fun x hx ρ hj => ⟨_, rfl, by
    have hx' : x < (n - 0).toNat := by simpa using hx
    rw [Int.zero_add]
    exact hb x (by omega) (by omega) ρ hj⟩) hk
/-- a while: at most n turns are left -/
theorem w_whl {t : E} {b : Ss} (J : Nat → En → Prop) {n : Nat} (h0 : J n ρ) (hn : n < 100000)
    (hb : ∀ n ρ, J n ρ → (∃ m, evE G t ρ = some (.v m (.bl false)) ∧ Wp G ss ρ Q) ∨ ((∃ m, evE G t ρ = some (.v m (.bl true))) ∧ ∃ k, n = k + 1 ∧ Wp G b ρ (nxO (J k) Q))) : Wp G (.cons (.whl t b) ss) ρ Q := by
  have key : ∀ (n : Nat) (f : Nat) (ρ : En), n < f → J n ρ → ∃ r, loopW (evE G t) (fun ρ => evSs G b ρ) f ρ = some r ∧ nxO (fun ρ' => Wp G ss ρ' Q) Q r := fun n => by
    induction n with
    | zero =>
      intro f ρ hf hj
      cases f with
      | zero => omega
      | succ f =>
        rcases hb 0 ρ hj with ⟨m, h1, h2⟩ | ⟨_, k, hk, _⟩
        · exact ⟨.nx ρ, by simp [loopW, h1], h2⟩
        · cases hk
    | succ n ih =>
      intro f ρ hf hj
      cases f with
      | zero => omega
      | succ f =>
        rcases hb (n + 1) ρ hj with ⟨m, h1, h2⟩ | ⟨⟨m, h1⟩, k, hk, r, h2, h3⟩
        · exact ⟨.nx ρ, by simp [loopW, h1], h2⟩
        · cases hk
          cases r with
          | nx ρ2 =>
            obtain ⟨r', h4, h5⟩ := ih f ρ2 (by omega) h3
            exact ⟨r', by simp [loopW, h1, h2, h4], h5⟩
          | rt d => exact ⟨.rt d, by simp [loopW, h1, h2], h3⟩
          | ex c ρ' => exact ⟨.ex c ρ', by simp [loopW, h1, h2], h3⟩
  obtain ⟨r, h1, h2⟩ := key n FUEL ρ hn h0
  exact w_cons (r := r) (by rw [ev_whl]; exact h1) h2
/-- try: .. except: the clause ends by a return -/
theorem w_try {cs : List Str} {b h : Ss} {i : Nat} (k : Wp G b ρ (fun r => match r with
    | .nx ρ' => Wp G ss ρ' Q
    | .rt d => Q (.rt d)
    | .ex c ρ' => cs.contains c = true ∧ Wp G h (ρ'.set i (.fz (.exc c))) (fun r' => ∃ d, r' = .rt d ∧ plain d = true ∧ Q (.rt d)))) : Wp G (.cons (.try_ cs b i h) ss) ρ Q := by
  obtain ⟨r, h1, h2⟩ := k
  have hev : evS G (.try_ cs b i h) ρ = (match evSs G b ρ with
    | some (.ex c ρ') => if cs.contains c then (match evSs G h (ρ'.set i (.fz (.exc c))) with
      | some (.rt d) => if plain d then some (.rt d) else none
      | _ => none) else none
    | r => r) := rfl
  rw [h1] at hev
  cases r with
  | nx ρ' => exact w_cons (r := .nx ρ') hev h2
  | rt d => exact w_cons (r := .rt d) hev h2
  | ex c ρ' =>
    obtain ⟨hc, r', h3, d, rfl, hp, hq⟩ := h2
    simp only [hc, h3, hp, if_true] at hev
    exact w_cons (r := .rt d) hev hq
end
/-- a def's end by its block -/
theorem wp_run {G : Fns} {d : Def} {ds : List D} {v : D} (hl : ds.length = d.np) (h : Wp G d.body (ds.map .fz ++ List.replicate (d.nl - d.np) .un) (· = .rt v)) : runDef G d ds = some (.ret v) := by
  obtain ⟨r, h1, rfl⟩ := h
  exact run_ret hl h1
theorem wp_runx {G : Fns} {d : Def} {ds : List D} {c : Str} (hl : ds.length = d.np) (h : Wp G d.body (ds.map .fz ++ List.replicate (d.nl - d.np) .un) (fun r => ∃ ρ, r = .ex c ρ)) : runDef G d ds = some (.exc c) := by
  obtain ⟨r, h1, ρ, rfl⟩ := h
  unfold runDef
  rw [if_pos hl, h1]
theorem wp_runN {G : Fns} {d : Def} {ds : List D} (hl : ds.length = d.np) (h : Wp G d.body (ds.map .fz ++ List.replicate (d.nl - d.np) .un) (fun r => ∃ ρ, r = .nx ρ)) : runDef G d ds = some (.ret .non) := by
  obtain ⟨r, h1, ρ, rfl⟩ := h
  unfold runDef
  rw [if_pos hl, h1]
/-! slots, by their numbers -/
theorem look_set {ρ : En} {i j : Nat} {s : SV} (hl : i < ρ.length) : look (ρ.set i s) j = if i = j then s else look ρ j := by
  split
  · rename_i h; subst h; exact look_set_self hl
  · rename_i h; exact look_set_ne h
end LS

set_option Elab.async false
set_option linter.all false
set_option maxRecDepth 100000
set_option maxHeartbeats 1000000
/-! LSq: dicts as sets of keys; pairs as data. -/
namespace LS
open PySem PySem.Spec PyProof.Rows L2
def pd (p : Int × Int) : D := .tup [.int p.1, .int p.2]
theorem tupI_pl (p : Int × Int) : tupI (pl p) = pd p := rfl
theorem plains_pd : ∀ l : List (Int × Int), plains (l.map pd) = true
  | [] => rfl
  | p :: l => by simp [plains, plain, pd, plains_pd l]
theorem cop_ne_nil {xs : List D} (h : plains xs = true) : cop .ne (.lst xs) (.lst []) = some (!xs.isEmpty) := by
  show (if eqOk (.lst xs) (.lst []) = true then some (!eqD (.lst xs) (.lst [])) else none) = _
  rw [if_pos (show eqOk (.lst xs) (.lst []) = true by simp [eqOk, plain, plains, h, dep, deps])]
  cases xs <;> simp [eqD, eqDs]
theorem cop_eq_nil {xs : List D} (h : plains xs = true) : cop .eq (.lst xs) (.lst []) = some xs.isEmpty := by
  show (if eqOk (.lst xs) (.lst []) = true then some (eqD (.lst xs) (.lst [])) else none) = _
  rw [if_pos (show eqOk (.lst xs) (.lst []) = true by simp [eqOk, plain, plains, h, dep, deps])]
  cases xs <;> simp [eqD, eqDs]
section
variable {α : Type} [DecidableEq α] {κ : α → List Int} {v : D}
/-- the dict's rows of a list of keys -/
def kvD (κ : α → List Int) (v : D) (l : List α) : List (List Int × D) := l.map fun p => (κ p, v)
theorem lookT_kv (inj : ∀ a b, κ a = κ b → a = b) (p : α) : ∀ l : List α, (lookT (κ p) (kvD κ v l)).isSome = decide (p ∈ l)
  | [] => by simp [kvD, lookT]
  | q :: l => by
    have ih := lookT_kv inj p l
    unfold kvD at ih ⊢
    rw [List.map_cons, lookT]
    by_cases e : q = p
    · subst e
      simp
    · rw [if_neg (fun h => e (inj _ _ h)), ih]
      have : p ≠ q := fun h => e h.symm
      simp [this]
theorem putT_kv (inj : ∀ a b, κ a = κ b → a = b) {p : α} {l : List α} (h : p ∉ l) : putT (κ p) v (kvD κ v l) = kvD κ v (l ++ [p]) := by
  unfold putT putD
  have : ((kvD κ v l).any fun kv => decide (kv.1 = κ p)) = false := by
    rw [List.any_eq_false]
    intro kv hkv
    obtain ⟨q, hq, rfl⟩ := List.mem_map.mp hkv
    simp only [decide_eq_true_eq]
    intro e
    exact h (by rw [← inj _ _ e]; exact hq)
  rw [this, if_neg Bool.false_ne_true]
  unfold kvD
  rw [List.map_append]
  rfl
theorem kvD_len (l : List α) : (kvD κ v l).length = l.length := List.length_map ..
theorem kvD_keys (l : List α) : (kvD κ v l).map (·.1) = l.map κ := by unfold kvD; rw [List.map_map]; rfl
end
theorem pl_inj' (a b : Int × Int) (h : pl a = pl b) : a = b := pl_inj h
theorem cop_nin_pl {v : D} (p : Int × Int) (l : List (Int × Int)) : cop .nin (.tup [.int p.1, .int p.2]) (.dct (kvD pl v l)) = some (!decide (p ∈ l)) := by
  show (intsD [.int p.1, .int p.2]).map (fun ns => !(lookT ns (kvD pl v l)).isSome) = _
  show some (!(lookT (pl p) (kvD pl v l)).isSome) = _
  rw [lookT_kv (v := v) pl_inj' p l]
  exact congrArg some (congrArg not (decide_eq_decide.mpr Iff.rfl))
theorem sto_pl {v : D} {p : Int × Int} {l : List (Int × Int)} (h : p ∉ l) (hl : l.length ≤ 100000) : stoD (.dct (kvD pl v l)) (.tup [.int p.1, .int p.2]) v = some (.dct (kvD pl v (l ++ [p]))) := by
  show (if Nat.blt (kvD pl v l).length LINE then some (D.dct (putT (pl p) v (kvD pl v l))) else none) = _
  rw [if_pos (by rw [kvD_len]; simp [Nat.blt_eq]; omega), putT_kv pl_inj' h]
theorem dims_pl {l : List (Int × Int)} (h : ∀ p ∈ l, (0 ≤ p.1 ∧ p.1 < 64) ∧ 0 ≤ p.2 ∧ p.2 < 64) : dims (l.map pl) = true := by
  cases l with
  | nil => rfl
  | cons p l =>
    rw [List.map_cons]
    show (Nat.ble 1 (pl p).length && (pl p :: l.map pl).all fun j => (j.length == (pl p).length) && j.all fun m => decide (0 ≤ m) && decide (m < 64)) = true
    rw [Bool.and_eq_true]
    refine ⟨rfl, List.all_eq_true.mpr fun j hj => ?_⟩
    rw [← List.map_cons] at hj
    obtain ⟨q, hq, rfl⟩ := List.mem_map.mp hj
    obtain ⟨⟨h1, h2⟩, h3, h4⟩ := h q hq
    simp [pl, h1, h2, h3, h4]
theorem rc_bd {n : Net} (h : n.Ok) {p : Int × Int} (hp : Rc n p) : (0 ≤ p.1 ∧ p.1 < 64) ∧ 0 ≤ p.2 ∧ p.2 < 64 := by
  have h1 := hp.inU
  have h2 := state_ok h h1.2
  have h8 := h.l8
  obtain ⟨⟨a, b⟩, _⟩ := h1
  obtain ⟨c, d⟩ := h2
  omega
/-- sorted(d) of the places found -/
theorem sorted_found {n : Net} (h : n.Ok) (h7 : n.roads.length ≤ 7) (v : D) : b1D .sorted (.dct (kvD pl v (found n))) = some (.v .fr (.lst ((plc n).map pd))) := by
  obtain ⟨_, f2, f3, f4⟩ := found_is h
  have hlen : (found n).length ≤ 60 := Nat.le_trans f4 (Nat.le_trans (Nat.mul_le_mul h7 (Nat.succ_le_succ h7)) (by decide))
  show (if (Nat.ble (kvD pl v (found n)).length 60 && dims ((kvD pl v (found n)).map (·.1))) = true then fr (.lst ((isort leT ((kvD pl v (found n)).map (·.1))).map tupI)) else none) = _
  rw [kvD_len, kvD_keys, if_pos (by rw [Nat.ble_eq_true_of_le hlen, dims_pl fun p hp => rc_bd h ((f3 p).mp hp)]; rfl)]
  have nd : ((found n).map pl).Nodup := by
    rw [List.nodup_iff_pairwise_ne, List.pairwise_map]
    exact (List.nodup_iff_pairwise_ne.mp f2).imp fun h e => h (pl_inj e)
  rw [isort_nodup ordT nd, usort_pl, List.map_map]
  rfl
end LS

set_option Elab.async false
set_option linter.all false
set_option maxRecDepth 100000
set_option maxHeartbeats 1000000
/-! LSr: the limits that drivers can have. -/
namespace LS
open PySem PySem.Spec PyProof.Rows L2
theorem plc_nodup (n : Net) : (plc n).Nodup := usort_nodup ordP _
theorem plc_len {n : Net} (h : n.Ok) : (plc n).length ≤ n.roads.length * (n.roads.length + 1) := by
  rw [← uni_len]
  exact nodup_le _ _ (plc_nodup n) fun p hp => ((mem_plc h).mp hp).inU.uni
theorem plc_len7 {n : Net} (h : n.Ok) (h7 : n.roads.length ≤ 7) : (plc n).length ≤ 56 :=
  Nat.le_trans (plc_len h) (Nat.le_trans (Nat.mul_le_mul h7 (Nat.succ_le_succ h7)) (by decide))
theorem sts_len {n : Net} (r : Int) : (sts n r).length ≤ (plc n).length := by
  unfold sts
  rw [List.length_map]
  exact List.length_filter_le _ _
theorem usort_len {α : Type} [DecidableEq α] {le : α → α → Bool} (O : Ord le) (l : List α) : (usort le l).length ≤ l.length :=
  nodup_le _ _ (usort_nodup O l) fun x hx => (mem_usort x l).mp hx
/-- the limits that drivers can have on a piece, ascending -/
noncomputable def poss (n : Net) (r : Int) (j : Nat) : List Int := usort leI ((sts n r).map fun s => (pcs n r s).getD j 0)
theorem poss_len {n : Net} (h : n.Ok) (h7 : n.roads.length ≤ 7) (r : Int) (j : Nat) : (poss n r j).length ≤ 56 := by
  refine Nat.le_trans (usort_len ordI _) ?_
  rw [List.length_map]
  exact Nat.le_trans (sts_len r) (plc_len7 h h7)
theorem pcs_zero (n : Net) (r s : Int) : (pcs n r s).getD 0 0 = shown (rest n r) s := rfl
theorem pcs_succ {n : Net} {r s : Int} {j : Nat} (hj : j < (n.road r).g.length) : (pcs n r s).getD (j + 1) 0 = shown (rest n r) ((n.road r).g.getD j 0) := by
  unfold pcs
  rw [List.getD_eq_getElem?_getD, List.getElem?_map, List.getElem?_cons_succ, List.getElem?_eq_getElem hj, List.getD_eq_getElem?_getD, List.getElem?_eq_getElem hj]
  rfl
theorem usort_const {α : Type} (c : Int) (l : List α) (h : l ≠ []) : usort leI (l.map fun _ => c) = [c] := by
  refine (usort_of ordI (.cons (fun _ h => by cases h) .nil) (by simp) fun x => ?_).symm
  rw [List.mem_singleton, List.mem_map]
  constructor
  · rintro rfl
    obtain ⟨a, ha⟩ := List.exists_mem_of_ne_nil l h
    exact ⟨a, ha, rfl⟩
  · rintro ⟨_, _, rfl⟩
    rfl
theorem sts_ne {n : Net} (h : n.Ok) {r : Int} (h1 : 0 ≤ r) (h2 : r < n.roads.length) : sts n r ≠ [] := List.ne_nil_of_mem (sts_zero h h1 h2)
/-- behind a sign there is one limit -/
theorem poss_succ {n : Net} (h : n.Ok) {r : Int} (h1 : 0 ≤ r) (h2 : r < n.roads.length) {j : Nat} (hj : j < (n.road r).g.length) : poss n r (j + 1) = [shown (rest n r) ((n.road r).g.getD j 0)] := by
  unfold poss
  have e : (fun s => (pcs n r s).getD (j + 1) 0) = fun _ => shown (rest n r) ((n.road r).g.getD j 0) := by funext s; exact pcs_succ hj
  rw [e]
  exact usort_const _ _ (sts_ne h h1 h2)
theorem poss_zero (n : Net) (r : Int) : poss n r 0 = usort leI ((sts n r).map (shown (rest n r))) := rfl
theorem rest_pos {n : Net} (h : n.Ok) (r : Int) : 1 ≤ rest n r ∧ rest n r ≤ 13 := by
  have h1 := h.slow
  have h2 := h.fast
  unfold rest
  split <;> omega
theorem one_lt {l : List Int} (nd : l.Nodup) {a : Int} (ha : a ∈ l) : 1 < l.length ↔ ∃ x ∈ l, x ≠ a := by
  constructor
  · intro h
    rcases Classical.em (∃ x ∈ l, x ≠ a) with c | c
    · exact c
    · have : l.length ≤ [a].length := nodup_le l [a] nd fun x hx => by
        rcases Classical.em (x = a) with e | e
        · rw [e]; exact List.mem_singleton.mpr rfl
        · exact absurd ⟨x, hx, e⟩ c
      simp at this
      omega
  · rintro ⟨x, hx, hne⟩
    have : [a, x].length ≤ l.length := nodup_le [a, x] l (by simp; exact fun e => hne e.symm) fun y hy => by
      rcases List.mem_cons.mp hy with rfl | hy
      · exact ha
      · rw [List.mem_singleton.mp hy]; exact hx
    exact this
/-- a driver comes with another limit than the standing one -/
theorem odd_poss {n : Net} (h : n.Ok) {r : Int} (h1 : 0 ≤ r) (h2 : r < n.roads.length) : (1 < (poss n r 0).length) ↔ ∃ s ∈ sts n r, s ≠ 0 ∧ s ≠ rest n r := by
  have hr := rest_pos h r
  have ha : rest n r ∈ poss n r 0 := (mem_usort _ _).mpr (List.mem_map.mpr ⟨0, sts_zero h h1 h2, by simp [pcs, shown]⟩)
  have nd : (poss n r 0).Nodup := usort_nodup ordI _
  rw [one_lt nd ha]
  constructor
  · rintro ⟨x, hx, hne⟩
    obtain ⟨s, hs, e⟩ := List.mem_map.mp ((mem_usort _ _).mp hx)
    have e' : shown (rest n r) s = x := e
    refine ⟨s, hs, fun z => ?_, fun z => ?_⟩
    · subst z; apply hne; rw [← e']; simp [shown]
    · subst z; apply hne; rw [← e']; unfold shown; rw [if_pos (by omega)]
  · rintro ⟨s, hs, z1, z2⟩
    have hok := sts_ok h hs
    refine ⟨s, (mem_usort _ _).mpr (List.mem_map.mpr ⟨s, hs, ?_⟩), z2⟩
    show shown (rest n r) s = s
    unfold shown
    rw [if_pos]
    obtain ⟨a, b⟩ := hok
    omega
/-- the unclear roads -/
noncomputable def murky (n : Net) : List Int := ((List.range n.roads.length).filter fun (k : Nat) => decide (1 < (poss n k 0).length)).map fun (k : Nat) => (k : Int)
theorem rc_keeps0 {n : Net} (hk : n.keeps = 0) {p : Int × Int} (hp : Rc n p) : p.2 = 0 := by
  obtain ⟨j, hj⟩ := hp
  cases j with
  | zero => exact (mem_st0.mp hj).2
  | succ j =>
    obtain ⟨q, hq, hp⟩ := List.mem_flatMap.mp (show p ∈ ((SP n).lev (st0 n) j).flatMap (nb n) from hj)
    obtain ⟨k, _, rfl⟩ := List.mem_map.mp hp
    show behind n q = 0
    unfold behind goOver
    rw [if_neg (by omega)]
theorem murky_keeps0 {n : Net} (h : n.Ok) (hk : n.keeps = 0) : murky n = [] := by
  unfold murky
  rw [List.map_eq_nil_iff, List.filter_eq_nil_iff]
  intro k hk2
  have hk3 : k < n.roads.length := by simpa using hk2
  rw [decide_eq_true_eq, odd_poss h (by omega) (by omega)]
  rintro ⟨s, hs, z, _⟩
  exact z (rc_keeps0 hk ((mem_sts h).mp hs))
/-! ### ways -/
theorem mem_follow {n : Net} {r k : Int} : k ∈ follow n r ↔ 0 ≤ k ∧ k < n.roads.length ∧ (n.road k).s = (n.road r).e := by
  refine ⟨follow_mem, fun ⟨h1, h2, h3⟩ => ?_⟩
  unfold follow
  refine List.mem_map.mpr ⟨k.toNat, List.mem_filter.mpr ⟨by simp; omega, ?_⟩, by omega⟩
  have e : ((k.toNat : Nat) : Int) = k := by omega
  rw [e]
  simpa using h3
/-- the state with which one comes behind a way -/
def arr (n : Net) : Int → List Int → Int
  | s, [] => s
  | s, r :: w => arr n (goOver n (leaveS n r s)) w
theorem arr_snoc (n : Net) : ∀ (w : List Int) (s x : Int), arr n s (w ++ [x]) = goOver n (leaveS n x (arr n s w))
  | [], _, _ => rfl
  | _ :: w, _, _ => arr_snoc n w _ _
theorem run_snoc (n : Net) : ∀ (w : List Int) (s x : Int), run n s (w ++ [x]) = run n s w ++ [pcs n x (arr n s w)]
  | [], _, _ => rfl
  | _ :: w, _, _ => by
    simp only [List.cons_append, run, arr]
    rw [run_snoc n w]
theorem isWay_init {n : Net} {u : List Int} {x k : Int} (h : isWay n (u ++ [x] ++ [k]) = true) : isWay n (u ++ [x]) = true ∧ k ∈ follow n x := by
  have hw := way_all h k (by simp)
  unfold isWay at h ⊢
  simp only [Bool.and_eq_true, decide_eq_true_eq] at h ⊢
  obtain ⟨⟨⟨h1, h2⟩, h3⟩, h4⟩ := h
  rw [inNet_snoc, Bool.and_eq_true] at h3
  rw [joins_snoc, Bool.and_eq_true, decide_eq_true_eq] at h4
  refine ⟨⟨⟨⟨by simp, by simp at h2 ⊢; omega⟩, h3.1⟩, h4.1⟩, mem_follow.mpr ⟨hw.1, hw.2, h4.2.symm⟩⟩
theorem rc_way {n : Net} : ∀ (m : Nat) (u : List Int) (x : Int), u.length = m → isWay n (u ++ [x]) = true → Rc n (x, arr n 0 u)
  | 0, u, x, hu, h => by
    have e : u = [] := List.length_eq_zero_iff.mp hu
    subst e
    exact Rc.st (mem_st0.mpr ⟨way_all h x (by simp), rfl⟩)
  | m + 1, u, x, hu, h => by
    have hne : u ≠ [] := fun e => by subst e; simp at hu
    obtain ⟨v, y, rfl⟩ : ∃ v y, u = v ++ [y] := ⟨u.dropLast, u.getLast hne, (List.dropLast_concat_getLast hne).symm⟩
    obtain ⟨h1, h2⟩ := isWay_init h
    have ih := rc_way m v y (by simpa using hu) h1
    refine ih.nb (List.mem_map.mpr ⟨x, h2, ?_⟩)
    rw [arr_snoc]
    rfl
theorem poss_mem {n : Net} (h : n.Ok) {r s : Int} (hs : Rc n (r, s)) (j : Nat) : (pcs n r s).getD j 0 ∈ poss n r j := (mem_usort _ _).mpr (List.mem_map.mpr ⟨s, (mem_sts h).mpr hs, rfl⟩)
/-! ### sorted(set(..)) -/
theorem intsD_pd {p : Int × Int} {l : List (Int × Int)} : intsD ((p :: l).map pd) = none := rfl
theorem tupsD_pd : ∀ l : List (Int × Int), tupsD (l.map pd) = some (l.map pl)
  | [] => rfl
  | p :: l => by
    show (intsD [.int p.1, .int p.2]).bind (fun ns => (tupsD (l.map pd)).map (ns :: ·)) = _
    rw [tupsD_pd l]
    rfl
theorem sset_pd {l : List (Int × Int)} (hne : l ≠ []) (h : ∀ p ∈ l, (0 ≤ p.1 ∧ p.1 < 64) ∧ 0 ≤ p.2 ∧ p.2 < 64) (hl : (usort leP l).length ≤ 60) : b1D .sset (.lst (l.map pd)) = some (.v .fr (.lst ((usort leP l).map pd))) := by
  show (match intsD (l.map pd) with
    | some ns => if (Nat.ble ns.length 4000 && Nat.ble (usort leI ns).length 60) = true then fr (.lst ((usort leI ns).map .int)) else none
    | none => (match tupsD (l.map pd) with
      | some ks => if (Nat.ble (usort leT ks).length 60 && dims (usort leT ks)) = true then fr (.lst ((usort leT ks).map tupI)) else none
      | none => none)) = _
  have e : intsD (l.map pd) = none := by
    cases l with
    | nil => exact absurd rfl hne
    | cons p l => exact intsD_pd
  rw [e, tupsD_pd]
  simp only
  rw [usort_pl, List.length_map, if_pos, List.map_map]
  · rfl
  · rw [Nat.ble_eq_true_of_le hl, dims_pl fun p hp => h p ((mem_usort _ _).mp hp)]
    rfl
theorem sset_ints {l : List Int} (h : l.length ≤ 4000) (hl : (usort leI l).length ≤ 60) : b1D .sset (.lst (l.map .int)) = some (.v .fr (.lst ((usort leI l).map .int))) := by
  show (match intsD (l.map .int) with
    | some ns => if (Nat.ble ns.length 4000 && Nat.ble (usort leI ns).length 60) = true then fr (.lst ((usort leI ns).map .int)) else none
    | none => (match tupsD (l.map .int) with
      | some ks => if (Nat.ble (usort leT ks).length 60 && dims (usort leT ks)) = true then fr (.lst ((usort leT ks).map tupI)) else none
      | none => none)) = _
  rw [ints_map]
  simp only
  rw [if_pos (by rw [Nat.ble_eq_true_of_le h, Nat.ble_eq_true_of_le hl]; rfl)]
  rfl
theorem range3 {n : Net} (h : n.Ok) : rangeOk (n.roads.length : Int) = true := by
  have := h.l8
  exact rangeOk_of (by omega) (by omega)
theorem cop_nin_ints (x : Int) (l : List Int) : cop .nin (.int x) (.lst (l.map .int)) = some (!decide (x ∈ l)) := by
  have e : inD (.int x) (l.map .int) = decide (x ∈ l) := by
    unfold inD
    induction l with
    | nil => simp
    | cons y l ih =>
      rw [List.map_cons, List.any_cons, ih]
      by_cases c : y = x
      · subst c; simp [eqD]
      · have c' : x ≠ y := fun e => c e.symm
        simp [eqD, c, c']
  show (if (plain (.int x) && plains (l.map .int) && Nat.ble (dep (.int x)) 60) = true then some (!inD (.int x) (l.map .int)) else none) = _
  rw [if_pos (by rw [plains_ints]; rfl), e]
theorem cop_inn_ints (x : Int) (l : List Int) : cop .inn (.int x) (.lst (l.map .int)) = some (decide (x ∈ l)) := by
  have := cop_nin_ints x l
  have e1 : cop .nin (.int x) (.lst (l.map .int)) = (if (plain (.int x) && plains (l.map .int) && Nat.ble (dep (.int x)) 60) = true then some (!inD (.int x) (l.map .int)) else none) := rfl
  have e2 : cop .inn (.int x) (.lst (l.map .int)) = (if (plain (.int x) && plains (l.map .int) && Nat.ble (dep (.int x)) 60) = true then some (inD (.int x) (l.map .int)) else none) := rfl
  rw [e1] at this
  rw [e2]
  split at this
  · rename_i h
    rw [if_pos h]
    have h2 := Option.some.inj this
    congr 1
    have h3 := congrArg not h2
    simpa using h3
  · cases this
@[simp] theorem cop_eq_ints (l : List Int) : cop .eq (.lst (l.map .int)) (.lst (l.map .int)) = some true := cop_eq_self (by simp [plain, plains_ints]) (by simp [dep, deps_ints])
theorem eqDs_ints : ∀ l m : List Int, eqDs (l.map .int) (m.map .int) = decide (l = m)
  | [], [] => by simp [eqDs]
  | [], _ :: _ => by simp [eqDs]
  | _ :: _, [] => by simp [eqDs]
  | a :: l, b :: m => by
    rw [List.map_cons, List.map_cons, eqDs, eqDs_ints l m]
    by_cases c : a = b <;> by_cases d : l = m <;> simp [eqD, c, d]
theorem cop_eq_il (l m : List Int) : cop .eq (.lst (l.map .int)) (.lst (m.map .int)) = some (decide (l = m)) := by
  show (if eqOk (.lst (l.map .int)) (.lst (m.map .int)) = true then some (eqDs (l.map .int) (m.map .int)) else none) = _
  rw [if_pos (by simp [eqOk, plain, plains_ints, dep, deps_ints]), eqDs_ints]
theorem cop_ne_il (l m : List Int) : cop .ne (.lst (l.map .int)) (.lst (m.map .int)) = some (!decide (l = m)) := by
  show (if eqOk (.lst (l.map .int)) (.lst (m.map .int)) = true then some (!eqDs (l.map .int) (m.map .int)) else none) = _
  rw [if_pos (by simp [eqOk, plain, plains_ints, dep, deps_ints]), eqDs_ints]
theorem inD_ints (x : Int) : ∀ l : List Int, inD (.int x) (l.map .int) = decide (x ∈ l)
  | [] => by simp [inD]
  | y :: l => by
    have ih := inD_ints x l
    unfold inD at ih ⊢
    rw [List.map_cons, List.any_cons, ih]
    by_cases c : y = x
    · subst c; simp [eqD]
    · have c' : x ≠ y := fun e => c e.symm
      simp [eqD, c, c']
theorem cop_nin_intsT (x : Int) (l : List Int) : cop .nin (.int x) (.tup (l.map .int)) = some (!decide (x ∈ l)) := by
  show (if (plain (.int x) && plains (l.map .int) && Nat.ble (dep (.int x)) 60) = true then some (!inD (.int x) (l.map .int)) else none) = _
  rw [if_pos (by rw [plains_ints]; rfl), inD_ints]
theorem cop_inn_intsT (x : Int) (l : List Int) : cop .inn (.int x) (.tup (l.map .int)) = some (decide (x ∈ l)) := by
  show (if (plain (.int x) && plains (l.map .int) && Nat.ble (dep (.int x)) 60) = true then some (inD (.int x) (l.map .int)) else none) = _
  rw [if_pos (by rw [plains_ints]; rfl), inD_ints]
theorem rows_last (rs : List (List Int)) (r : List Int) : ixD (rowsD (rs ++ [r])) (.int (-1)) = some (.lst (r.map .int)) := by
  unfold rowsD
  rw [ix_lst, List.map_append]
  exact ixAt_last _ _
theorem wd_last (u : List Int) (x : Int) : ixD (wd (u ++ [x])) (.int (-1)) = some (.int x) := by
  unfold wd
  rw [ix_tup, List.map_append]
  exact ixAt_last _ _
theorem ixAt_get {l : List Int} {x : Int} (h1 : 0 ≤ x) (h2 : x < l.length) : ixAt (l.map D.int) x = some (.int (l.getD x.toNat 0)) := by
  rw [ixAt_pos h1, List.getElem?_map, List.getD_eq_getElem?_getD, List.getElem?_eq_getElem (show x.toNat < l.length by omega)]
  rfl
end LS

set_option Elab.async false
set_option linter.all false
set_option maxRecDepth 100000
set_option maxHeartbeats 1000000
/-! LSs: the first of the shortest ways; how far a limit goes. -/
namespace LS
open PySem PySem.Spec PyProof.Rows L2
def lastW (w : List Int) : Int := w.getLastD 0
theorem lastW_snoc (u : List Int) (x : Int) : lastW (u ++ [x]) = x := by simp [lastW, List.getLastD_eq_getLast?]
/-- all ways of m + 1 roads, in order -/
def lvw (n : Net) : Nat → List (List Int)
  | 0 => (List.range n.roads.length).map fun (k : Nat) => [(k : Int)]
  | m + 1 => (lvw n m).flatMap fun w => (follow n (lastW w)).map fun k => w ++ [k]
/-- the state with which one comes onto the last road -/
def ast (n : Net) (w : List Int) : Int := arr n 0 w.dropLast
theorem ast_snoc (n : Net) (u : List Int) (x : Int) : ast n (u ++ [x]) = arr n 0 u := by simp [ast]
/-- a way of a net, of any length -/
def Way (n : Net) (w : List Int) : Prop := w ≠ [] ∧ ∀ r ∈ w, 0 ≤ r ∧ r < n.roads.length
theorem lvw_way {n : Net} : ∀ {m : Nat} {w : List Int}, w ∈ lvw n m → (∃ u x, w = u ++ [x] ∧ u.length = m) ∧ (∀ r ∈ w, 0 ≤ r ∧ r < n.roads.length) ∧ joins n w = true
  | 0, w, h => by
    obtain ⟨k, hk, rfl⟩ := List.mem_map.mp h
    have hk' : k < n.roads.length := by simpa using hk
    refine ⟨⟨[], k, rfl, rfl⟩, fun r hr => ?_, by simp [joins]⟩
    rw [List.mem_singleton.mp hr]
    omega
  | m + 1, w, h => by
    obtain ⟨v, hv, hw⟩ := List.mem_flatMap.mp h
    obtain ⟨k, hk, rfl⟩ := List.mem_map.mp hw
    obtain ⟨⟨u, x, rfl, hu⟩, h1, h2⟩ := lvw_way hv
    rw [lastW_snoc] at hk
    obtain ⟨k1, k2, k3⟩ := follow_mem hk
    refine ⟨⟨u ++ [x], k, rfl, by simp [hu]⟩, fun r hr => ?_, by rw [joins_snoc, h2]; simp [k3]⟩
    rcases List.mem_append.mp hr with hr | hr
    · exact h1 r hr
    · rw [List.mem_singleton.mp hr]; exact ⟨k1, k2⟩
theorem lvw_isWay {n : Net} {m : Nat} {w : List Int} (h : w ∈ lvw n m) (hm : m < 20) : isWay n w = true ∧ w.length = m + 1 := by
  obtain ⟨⟨u, x, rfl, hu⟩, h1, h2⟩ := lvw_way h
  refine ⟨?_, by simp [hu]⟩
  unfold isWay inNet
  rw [h2]
  simp only [Bool.and_eq_true, decide_eq_true_eq, and_true]
  refine ⟨⟨by simp, by simp; omega⟩, List.all_eq_true.mpr fun r hr => ?_⟩
  have := h1 r hr
  simp
  omega
theorem lvw_len (n : Net) (h8 : n.roads.length ≤ 8) : ∀ m : Nat, (lvw n m).length ≤ 8 ^ (m + 1)
  | 0 => by simp [lvw]; omega
  | m + 1 => by
    have ih := lvw_len n h8 m
    have key : ∀ l : List (List Int), (l.flatMap fun w => (follow n (lastW w)).map fun k => w ++ [k]).length ≤ l.length * 8 := fun l => by
      induction l with
      | nil => simp
      | cons w l ih =>
        have := follow_len n (lastW w)
        rw [List.flatMap_cons, List.length_append, List.length_map, List.length_cons]
        omega
    have := key (lvw n m)
    show ((lvw n m).flatMap fun w => (follow n (lastW w)).map fun k => w ++ [k]).length ≤ _
    rw [Nat.pow_succ]
    omega
def rts (n : Net) (most : Nat) : List (List Int) := (List.range most).flatMap (lvw n)
theorem rts_succ (n : Net) (m : Nat) : rts n (m + 1) = rts n m ++ lvw n m := by
  unfold rts
  rw [List.range_succ, List.flatMap_append]
  simp
theorem mem_rts {n : Net} {most : Nat} {w : List Int} : w ∈ rts n most ↔ ∃ j, j < most ∧ w ∈ lvw n j := by
  unfold rts
  rw [List.mem_flatMap]
  simp
/-! ### the search of ways -/
abbrev WS := List Int × Int
def SW (n : Net) (T : Int × Int → Bool) : Sr (Int × Int) WS := ⟨fun p => (lastW p.1, p.2), fun p => (follow n (lastW p.1)).map fun k => (p.1 ++ [k], behind n (lastW p.1, p.2)), fun p => T (lastW p.1, p.2)⟩
def sw0 (n : Net) : List WS := (List.range n.roads.length).map fun (k : Nat) => ([(k : Int)], (0 : Int))
theorem SW_ok (n : Net) (T : Int × Int → Bool) : (SW n T).Ok := by
  refine ⟨fun x y h => ?_, fun x y h => ?_⟩
  · have h' : (lastW x.1, x.2) = (lastW y.1, y.2) := h
    show ((follow n (lastW x.1)).map fun k => (x.1 ++ [k], behind n (lastW x.1, x.2))).map (fun p : WS => (lastW p.1, p.2)) = ((follow n (lastW y.1)).map fun k => (y.1 ++ [k], behind n (lastW y.1, y.2))).map fun p : WS => (lastW p.1, p.2)
    rw [List.map_map, List.map_map]
    have e1 : ((fun p : WS => (lastW p.1, p.2)) ∘ fun k => (x.1 ++ [k], behind n (lastW x.1, x.2))) = fun k => (k, behind n (lastW x.1, x.2)) := by funext k; exact Prod.ext (lastW_snoc _ _) rfl
    have e2 : ((fun p : WS => (lastW p.1, p.2)) ∘ fun k => (y.1 ++ [k], behind n (lastW y.1, y.2))) = fun k => (k, behind n (lastW y.1, y.2)) := by funext k; exact Prod.ext (lastW_snoc _ _) rfl
    rw [e1, e2, h', show lastW x.1 = lastW y.1 from congrArg Prod.fst h']
  · show T _ = T _
    rw [show (lastW x.1, x.2) = (lastW y.1, y.2) from h]
theorem sw_lev (n : Net) (T : Int × Int → Bool) : ∀ m : Nat, (SW n T).lev (sw0 n) m = (lvw n m).map fun w => (w, ast n w)
  | 0 => by
    show sw0 n = _
    unfold sw0 lvw
    rw [List.map_map]
    rfl
  | m + 1 => by
    show ((SW n T).lev (sw0 n) m).flatMap (SW n T).sc = _
    rw [sw_lev n T m]
    show _ = ((lvw n m).flatMap fun w => (follow n (lastW w)).map fun k => w ++ [k]).map fun w => (w, ast n w)
    have key : ∀ l : List (List Int), (∀ w ∈ l, w ≠ []) → (l.map fun w => (w, ast n w)).flatMap (SW n T).sc = (l.flatMap fun w => (follow n (lastW w)).map fun k => w ++ [k]).map fun w => (w, ast n w) := fun l hl => by
      induction l with
      | nil => rfl
      | cons w l ih =>
        rw [List.map_cons, List.flatMap_cons, List.flatMap_cons, List.map_append, ih fun v hv => hl v (List.mem_cons_of_mem _ hv)]
        congr 1
        have hne := hl w List.mem_cons_self
        obtain ⟨u, x, rfl⟩ : ∃ u x, w = u ++ [x] := ⟨w.dropLast, w.getLast hne, (List.dropLast_concat_getLast hne).symm⟩
        show ((follow n (lastW (u ++ [x]))).map fun k => (u ++ [x] ++ [k], behind n (lastW (u ++ [x]), ast n (u ++ [x])))) = ((follow n (lastW (u ++ [x]))).map fun k => u ++ [x] ++ [k]).map fun w => (w, ast n w)
        rw [List.map_map]
        refine List.map_congr_left fun k _ => ?_
        refine Prod.ext rfl ?_
        show behind n (lastW (u ++ [x]), ast n (u ++ [x])) = ast n (u ++ [x] ++ [k])
        rw [ast_snoc, ast_snoc, arr_snoc, lastW_snoc]
        rfl
    exact key _ fun w hw => by
      obtain ⟨⟨u, x, rfl, _⟩, _⟩ := lvw_way hw
      simp
/-- the keys of the ways are the places -/
theorem sw_keys (n : Net) (T : Int × Int → Bool) : ∀ m : Nat, ((SW n T).lev (sw0 n) m).map (SW n T).key = (SP n).lev (st0 n) m
  | 0 => by
    show (sw0 n).map (SW n T).key = st0 n
    unfold sw0 st0
    rw [List.map_map]
    rfl
  | m + 1 => by
    have ih := sw_keys n T m
    show (((SW n T).lev (sw0 n) m).flatMap (SW n T).sc).map (SW n T).key = ((SP n).lev (st0 n) m).flatMap (nb n)
    rw [← ih]
    generalize (SW n T).lev (sw0 n) m = l
    induction l with
    | nil => rfl
    | cons p l ih =>
      rw [List.flatMap_cons, List.map_append, List.map_cons, List.flatMap_cons, ih]
      congr 1
      show ((follow n (lastW p.1)).map fun k => (p.1 ++ [k], behind n (lastW p.1, p.2))).map (fun p : WS => (lastW p.1, p.2)) = (follow n (lastW p.1)).map fun k => (k, behind n (lastW p.1, p.2))
      rw [List.map_map]
      exact List.map_congr_left fun k _ => Prod.ext (lastW_snoc _ _) rfl
theorem rc_ways {n : Net} {p : Int × Int} : Rc n p ↔ ∃ j, ∃ w ∈ lvw n j, (lastW w, ast n w) = p := by
  constructor
  · rintro ⟨j, hj⟩
    rw [← sw_keys n (fun _ => false) j, sw_lev, List.map_map] at hj
    obtain ⟨w, hw, e⟩ := List.mem_map.mp hj
    exact ⟨j, w, hw, e⟩
  · rintro ⟨j, w, hw, e⟩
    refine ⟨j, ?_⟩
    rw [← sw_keys n (fun _ => false) j, sw_lev, List.map_map]
    exact List.mem_map.mpr ⟨w, hw, e⟩
def SwU (n : Net) (p : WS) : Prop := InU n (lastW p.1, p.2)
/-- what the search finds -/
theorem sw_ends {n : Net} (h : n.Ok) (T : Int × Int → Bool) : ∃ r, (SW n T).bfs 1000 (sw0 n) [] = some r := by
  obtain ⟨r, h1, _⟩ := Sr.bfs_ends (S := SW n T) (U := uni n) (SwU n) (fun p hp => InU.uni hp) (fun p hp q hq => by
    obtain ⟨k, hk, rfl⟩ := List.mem_map.mp (show q ∈ (follow n (lastW p.1)).map fun k => (p.1 ++ [k], behind n (lastW p.1, p.2)) from hq)
    show InU n (lastW (p.1 ++ [k]), behind n (lastW p.1, p.2))
    rw [lastW_snoc]
    exact InU.nb hp (List.mem_map.mpr ⟨k, hk, rfl⟩)) 1000 (sw0 n) [] (fun p hp => by
    obtain ⟨k, hk, rfl⟩ := List.mem_map.mp hp
    exact InU.st (mem_st0.mpr ⟨⟨by show (0 : Int) ≤ k; omega, by have : k < n.roads.length := by simpa using hk
                                                                 show (k : Int) < _; omega⟩, rfl⟩)) (by simp) (fun _ h => absurd h List.not_mem_nil) (by have := uni_72 h; simp; omega)
  exact ⟨r, h1⟩
/-- the first of the shortest ways whose end is as wanted -/
noncomputable def shw (n : Net) (T : Int × Int → Bool) : Option (List Int) := match (SW n T).bfs 1000 (sw0 n) [] with
  | some (.error p) => some p.1
  | _ => none
def endW (n : Net) (T : Int × Int → Bool) (w : List Int) : Bool := T (lastW w, ast n w)
theorem find_map (n : Net) (T : Int × Int → Bool) (l : List (List Int)) : (l.map fun w => (w, ast n w)).find? (SW n T).stop = (l.find? (endW n T)).map fun w => (w, ast n w) := by
  rw [List.find?_map]
  rfl
theorem shw_told {n : Net} (h : n.Ok) (T : Int × Int → Bool) : (∀ w, shw n T = some w → ∃ j, (lvw n j).find? (endW n T) = some w ∧ ∀ i, i < j → (lvw n i).find? (endW n T) = none) ∧
    (shw n T = none → ∀ j, (lvw n j).find? (endW n T) = none) := by
  obtain ⟨r, hr⟩ := sw_ends h T
  have t := Sr.bfs_start (SW_ok n T) hr
  have none_of : ∀ {i}, ((SW n T).lev (sw0 n) i).find? (SW n T).stop = none → (lvw n i).find? (endW n T) = none := fun {i} hi => by
    rw [sw_lev, find_map] at hi
    cases e : (lvw n i).find? (endW n T) with
    | none => rfl
    | some w => rw [e] at hi; cases hi
  unfold shw
  rw [hr]
  cases r with
  | error p =>
    obtain ⟨j, hj, hlt⟩ := t
    refine ⟨fun w e => ?_, fun e => nomatch (show some p.1 = none from e)⟩
    have e' : p.1 = w := Option.some.inj e
    refine ⟨j, ?_, fun i hi => none_of (hlt i hi)⟩
    rw [sw_lev, find_map] at hj
    cases e2 : (lvw n j).find? (endW n T) with
    | none => rw [e2] at hj; cases hj
    | some v =>
      rw [e2] at hj
      have := Option.some.inj hj
      rw [← e', ← this]
  | ok kn =>
    exact ⟨(fun w e => nomatch (show none = some w from e)), fun _ j => none_of (t.1 j)⟩
/-! ### how far a limit goes -/
def sless (n : Net) (k : Int) : Bool := (n.road k).g.isEmpty
def adv (n : Net) (l : List Int) : List Int := l.flatMap fun k => if sless n k then follow n k else []
def fars (n : Net) (r : Int) : Nat → List Int
  | 0 => follow n r
  | i + 1 => adv n (fars n r i)
/-- from k one can go on i times -/
def alive (n : Net) : Nat → Int → Bool
  | 0, _ => true
  | i + 1, k => sless n k && (follow n k).any (alive n i)
theorem alive_anti (n : Net) : ∀ (i : Nat) (k : Int), alive n (i + 1) k = true → alive n i k = true
  | 0, _, _ => rfl
  | i + 1, k, h => by
    have h' : (sless n k && (follow n k).any (alive n (i + 1))) = true := h
    show (sless n k && (follow n k).any (alive n i)) = true
    rw [Bool.and_eq_true] at h' ⊢
    refine ⟨h'.1, ?_⟩
    obtain ⟨x, hx, ha⟩ := List.any_eq_true.mp h'.2
    exact List.any_eq_true.mpr ⟨x, hx, alive_anti n i x ha⟩
def acnt (n : Net) (i : Nat) : Nat := ((List.range n.roads.length).filter fun (r : Nat) => alive n i r).length
theorem alive_stable (n : Net) : ∀ i : Nat, (∀ k : Int, 0 ≤ k → k < n.roads.length → alive n i k = true → alive n (i + 1) k = true) ∨ acnt n i + i ≤ n.roads.length
  | 0 => .inr (by
    have := List.length_filter_le (fun (r : Nat) => alive n 0 r) (List.range n.roads.length)
    unfold acnt
    simpa using this)
  | i + 1 => by
    rcases Classical.em (∀ k : Int, 0 ≤ k → k < n.roads.length → alive n i k = true → alive n (i + 1) k = true) with c | c
    · refine .inl fun k k1 k2 h => ?_
      have h' : (sless n k && (follow n k).any (alive n i)) = true := h
      show (sless n k && (follow n k).any (alive n (i + 1))) = true
      rw [Bool.and_eq_true] at h' ⊢
      refine ⟨h'.1, ?_⟩
      obtain ⟨x, hx, ha⟩ := List.any_eq_true.mp h'.2
      obtain ⟨x1, x2, _⟩ := follow_mem hx
      exact List.any_eq_true.mpr ⟨x, hx, c x x1 x2 ha⟩
    · refine .inr ?_
      obtain ⟨k, hk⟩ := Classical.not_forall.mp c
      obtain ⟨k1, hk⟩ := Classical.not_imp.mp hk
      obtain ⟨k2, hk⟩ := Classical.not_imp.mp hk
      obtain ⟨a1, a2⟩ := Classical.not_imp.mp hk
      have ih : acnt n i + i ≤ n.roads.length := by
        rcases alive_stable n i with z | z
        · exact absurd z c
        · exact z
      have ek : ((k.toNat : Nat) : Int) = k := by omega
      have := filter_grow (fun (r : Nat) => alive n (i + 1) r) (fun (r : Nat) => alive n i r) k.toNat (List.range n.roads.length) (fun y hy => alive_anti n i y hy) (by simp; omega)
        (by rw [ek]; simpa using a2) (by rw [ek]; exact a1)
      unfold acnt at ih ⊢
      omega
theorem alive_all (n : Net) {k : Int} (k1 : 0 ≤ k) (k2 : k < n.roads.length) (h : alive n n.roads.length k = true) : ∀ i, alive n i k = true := by
  have st : ∃ j, j ≤ n.roads.length ∧ ∀ k : Int, 0 ≤ k → k < n.roads.length → alive n j k = true → alive n (j + 1) k = true := by
    rcases alive_stable n n.roads.length with c | c
    · exact ⟨_, Nat.le_refl _, c⟩
    · exfalso
      have h0 : acnt n n.roads.length = 0 := by omega
      unfold acnt at h0
      have e := List.length_eq_zero_iff.mp h0
      have ek : ((k.toNat : Nat) : Int) = k := by omega
      have : k.toNat ∈ (List.range n.roads.length).filter fun (r : Nat) => alive n n.roads.length r := List.mem_filter.mpr ⟨by simp; omega, by rw [ek]; exact h⟩
      rw [e] at this
      cases this
  obtain ⟨j, hj, hs⟩ := st
  have down : ∀ (i d : Nat) (k : Int), alive n (i + d) k = true → alive n i k = true := fun i d => by
    induction d with
    | zero => exact fun k h => h
    | succ d ih => exact fun k h => ih k (alive_anti n (i + d) k h)
  have up : ∀ (d : Nat) (k : Int), 0 ≤ k → k < n.roads.length → alive n j k = true → alive n (j + d) k = true := fun d => by
    induction d with
    | zero => exact fun k _ _ h => h
    | succ d ih =>
      intro k k1 k2 hk
      have step : ∀ (e : Nat) (k : Int), 0 ≤ k → k < n.roads.length → alive n (j + e) k = true → alive n (j + e + 1) k = true := fun e => by
        induction e with
        | zero => exact hs
        | succ e ih2 =>
          intro k k1 k2 h
          have h' : (sless n k && (follow n k).any (alive n (j + e))) = true := h
          show (sless n k && (follow n k).any (alive n (j + e + 1))) = true
          rw [Bool.and_eq_true] at h' ⊢
          refine ⟨h'.1, ?_⟩
          obtain ⟨x, hx, ha⟩ := List.any_eq_true.mp h'.2
          obtain ⟨x1, x2, _⟩ := follow_mem hx
          exact List.any_eq_true.mpr ⟨x, hx, ih2 x x1 x2 ha⟩
      exact step d k k1 k2 (ih k k1 k2 hk)
  intro i
  have h0 : alive n j k = true := down j (n.roads.length - j) k (by rw [show j + (n.roads.length - j) = n.roads.length by omega]; exact h)
  by_cases c : i ≤ j
  · exact down i (j - i) k (by rw [show i + (j - i) = j by omega]; exact h0)
  · have := up (i - j) k k1 k2 h0
    rwa [show j + (i - j) = i by omega] at this
def adv_it (n : Net) : Nat → List Int → List Int
  | 0, l => l
  | i + 1, l => adv_it n i (adv n l)
theorem adv_it_succ (n : Net) : ∀ (i : Nat) (l : List Int), adv_it n (i + 1) l = adv n (adv_it n i l)
  | 0, _ => rfl
  | i + 1, l => by
    show adv_it n (i + 1) (adv n l) = adv n (adv_it n i (adv n l))
    exact adv_it_succ n i (adv n l)
theorem fars_it (n : Net) (r : Int) : ∀ i : Nat, fars n r i = adv_it n i (follow n r)
  | 0 => rfl
  | i + 1 => by
    rw [adv_it_succ, ← fars_it n r i]
    rfl
theorem adv_ne (n : Net) : ∀ (i : Nat) (l : List Int), adv_it n i l ≠ [] ↔ ∃ k ∈ l, alive n i k = true
  | 0, l => by
    show l ≠ [] ↔ _
    constructor
    · intro h
      obtain ⟨k, hk⟩ := List.exists_mem_of_ne_nil l h
      exact ⟨k, hk, rfl⟩
    · rintro ⟨k, hk, _⟩
      exact List.ne_nil_of_mem hk
  | i + 1, l => by
    show adv_it n i (adv n l) ≠ [] ↔ _
    rw [adv_ne n i (adv n l)]
    constructor
    · rintro ⟨x, hx, ha⟩
      obtain ⟨k, hk, hx⟩ := List.mem_flatMap.mp hx
      split at hx
      · rename_i hs
        refine ⟨k, hk, ?_⟩
        show (sless n k && (follow n k).any (alive n i)) = true
        rw [hs, Bool.true_and]
        exact List.any_eq_true.mpr ⟨x, hx, ha⟩
      · cases hx
    · rintro ⟨k, hk, ha⟩
      have ha' : (sless n k && (follow n k).any (alive n i)) = true := ha
      rw [Bool.and_eq_true] at ha'
      obtain ⟨x, hx, hx2⟩ := List.any_eq_true.mp ha'.2
      exact ⟨x, List.mem_flatMap.mpr ⟨k, hk, by rw [if_pos ha'.1]; exact hx⟩, hx2⟩
/-- what has gone on long enough goes on for ever -/
theorem fars_all (n : Net) (r : Int) (h : fars n r n.roads.length ≠ []) (i : Nat) : fars n r i ≠ [] := by
  rw [fars_it] at h ⊢
  rw [adv_ne] at h ⊢
  obtain ⟨k, hk, ha⟩ := h
  obtain ⟨k1, k2, _⟩ := follow_mem hk
  exact ⟨k, hk, alive_all n k1 k2 ha i⟩
theorem fars_mem {n : Net} {r : Int} : ∀ {i : Nat} {k : Int}, k ∈ fars n r i → 0 ≤ k ∧ k < n.roads.length
  | 0, k, h => ⟨(follow_mem h).1, (follow_mem h).2.1⟩
  | i + 1, k, h => by
    obtain ⟨x, _, hx⟩ := List.mem_flatMap.mp (show k ∈ (fars n r i).flatMap _ from h)
    split at hx
    · exact ⟨(follow_mem hx).1, (follow_mem hx).2.1⟩
    · cases hx
theorem adv_mem {n : Net} {l m : List Int} (h : ∀ x, x ∈ l ↔ x ∈ m) (x : Int) : x ∈ adv n l ↔ x ∈ adv n m := by
  unfold adv
  rw [List.mem_flatMap, List.mem_flatMap]
  exact ⟨fun ⟨a, h1, h2⟩ => ⟨a, (h a).mp h1, h2⟩, fun ⟨a, h1, h2⟩ => ⟨a, (h a).mpr h1, h2⟩⟩
/-- the number told: the first empty level, or none -/
def farD (n : Net) (r : Int) : D := if n.keeps = 0 ∨ leaveS n r 0 = 0 then .int 0 else match (List.range (n.roads.length + 1)).find? (fun i => (fars n r i).isEmpty) with
  | some i => .int i
  | none => .non
theorem cop_eq_tup_nil (g : List Int) : cop .eq (.tup (g.map .int)) (.tup []) = some g.isEmpty := by
  show (if eqOk (.tup (g.map .int)) (.tup []) = true then some (eqD (.tup (g.map .int)) (.tup [])) else none) = _
  rw [if_pos (show eqOk (.tup (g.map .int)) (.tup []) = true by simp [eqOk, plain, plains, plains_ints, dep, deps])]
  cases g <;> simp [eqD, eqDs]
/-- a level of roads, each once -/
structure Lvl (n : Net) (L : List Int) : Prop where
  nd : L.Nodup
  rg : ∀ x ∈ L, 0 ≤ x ∧ x < n.roads.length
theorem Lvl.len {n : Net} {L : List Int} (h : Lvl n L) : L.length ≤ n.roads.length := by
  have := nodup_le L ((List.range n.roads.length).map fun (k : Nat) => (k : Int)) h.nd fun x hx => by
    obtain ⟨h1, h2⟩ := h.rg x hx
    exact List.mem_map.mpr ⟨x.toNat, by simp; omega, by omega⟩
  simpa using this
theorem Lvl.us {n : Net} {l : List Int} (h : ∀ x ∈ l, 0 ≤ x ∧ x < n.roads.length) : Lvl n (usort leI l) := ⟨usort_nodup ordI _, fun x hx => h x ((mem_usort _ _).mp hx)⟩
theorem follow_nodup (n : Net) (r : Int) : (follow n r).Nodup := by
  unfold follow
  rw [List.nodup_iff_pairwise_ne, List.pairwise_map]
  exact ((List.nodup_iff_pairwise_ne.mp List.nodup_range).filter _).imp fun h e => h (by omega)
theorem Lvl.fol (n : Net) (r : Int) : Lvl n (follow n r) := ⟨follow_nodup n r, fun x hx => ⟨(follow_mem hx).1, (follow_mem hx).2.1⟩⟩
theorem ne_of_mem {l m : List Int} (h : ∀ x, x ∈ l ↔ x ∈ m) : l = [] ↔ m = [] := by
  rw [List.eq_nil_iff_forall_not_mem, List.eq_nil_iff_forall_not_mem]
  exact forall_congr' fun x => not_congr (h x)
theorem farD_zero {n : Net} {r : Int} (h : n.keeps = 0 ∨ leaveS n r 0 = 0) : farD n r = .int 0 := by
  unfold farD
  rw [if_pos h]
theorem farD_some {n : Net} {r : Int} (h : ¬ (n.keeps = 0 ∨ leaveS n r 0 = 0)) {t : Nat} (h1 : ∀ i, i < t → fars n r i ≠ []) (h2 : fars n r t = []) : farD n r = .int t := by
  have ht : t ≤ n.roads.length := by
    rcases Nat.lt_or_ge n.roads.length t with c | c
    · exact absurd h2 (fars_all n r (h1 _ c) t)
    · exact c
  unfold farD
  rw [if_neg h]
  have e : (List.range (n.roads.length + 1)).find? (fun i => (fars n r i).isEmpty) = some t := by
    rw [List.find?_range_eq_some]
    refine ⟨by rw [h2]; rfl, by simp; omega, fun j hj => ?_⟩
    have := h1 j hj
    simpa using this
  rw [e]
theorem farD_none {n : Net} {r : Int} (h : ¬ (n.keeps = 0 ∨ leaveS n r 0 = 0)) {t : Nat} (ht : n.roads.length ≤ t) (h1 : ∀ i, i ≤ t → fars n r i ≠ []) : farD n r = .non := by
  unfold farD
  rw [if_neg h]
  have e : (List.range (n.roads.length + 1)).find? (fun i => (fars n r i).isEmpty) = none := by
    rw [List.find?_range_eq_none]
    intro i hi
    have := h1 i (by omega)
    simpa using this
  rw [e]
theorem flat8 {n : Net} (h8 : n.roads.length ≤ 8) (c : Int → Bool) : ∀ l : List Int, (l.flatMap fun k => if c k then follow n k else []).length ≤ 8 * l.length
  | [] => by simp
  | k :: l => by
    have ih := flat8 h8 c l
    have := follow_len n k
    rw [List.flatMap_cons, List.length_append, List.length_cons]
    split
    · omega
    · simp only [List.length_nil]; omega
theorem shw_len {n : Net} {T : Int × Int → Bool} {w : List Int} (h : shw n T = some w) : w.length ≤ 1001 := by
  unfold shw at h
  split at h
  · rename_i p hp
    cases h
    obtain ⟨g, hg⟩ := Sr.bfs_err (S := SW n T) (P := fun f p => p.1.length + f ≤ 1001) (fun f x hx y hy => by
      obtain ⟨k, hk, rfl⟩ := List.mem_map.mp (show y ∈ (follow n (lastW x.1)).map fun k => (x.1 ++ [k], behind n (lastW x.1, x.2)) from hy)
      simp at hx ⊢
      omega) 1000 (sw0 n) [] p (fun y hy => by
      obtain ⟨k, hk, rfl⟩ := List.mem_map.mp hy
      simp) hp
    omega
  · cases h
theorem rts_none {n : Net} {P : List Int → Bool} : ∀ {m : Nat}, (∀ i, i < m → (lvw n i).find? P = none) → (rts n m).find? P = none
  | 0, _ => by simp [rts]
  | m + 1, h => by
    rw [rts_succ, List.find?_append, rts_none fun i hi => h i (by omega), h m (by omega)]
    rfl
theorem rts_some {n : Net} {P : List Int → Bool} {w : List Int} : ∀ {m : Nat}, (rts n m).find? P = some w → ∃ j, j < m ∧ (lvw n j).find? P = some w ∧ ∀ i, i < j → (lvw n i).find? P = none
  | 0, h => by simp [rts] at h
  | m + 1, h => by
    rw [rts_succ, List.find?_append] at h
    cases e : (rts n m).find? P with
    | some v =>
      rw [e] at h
      have h' : some v = some w := h
      obtain ⟨j, h1, h2, h3⟩ := rts_some (h' ▸ e)
      exact ⟨j, by omega, h2, h3⟩
    | none =>
      rw [e] at h
      have h' : (lvw n m).find? P = some w := h
      refine ⟨m, by omega, h', fun i hi => ?_⟩
      cases e2 : (lvw n i).find? P with
      | none => rfl
      | some v =>
        have hv := List.mem_of_find?_eq_some e2
        have hp := List.find?_some e2
        have := List.find?_eq_none.mp e v (mem_rts.mpr ⟨i, hi, hv⟩)
        exact absurd hp this
theorem first_unique {n : Net} {P : List Int → Bool} {v w : List Int} {i j : Nat} (h1 : (lvw n i).find? P = some v) (h2 : ∀ k, k < i → (lvw n k).find? P = none) (h3 : (lvw n j).find? P = some w) (h4 : ∀ k, k < j → (lvw n k).find? P = none) : v = w ∧ i = j := by
  rcases Nat.lt_trichotomy i j with c | c | c
  · rw [h4 i c] at h1; cases h1
  · subst c
    rw [h1] at h3
    exact ⟨Option.some.inj h3, rfl⟩
  · rw [h2 j c] at h3; cases h3
/-- the search and the list of all short ways -/
theorem shw_rts {n : Net} (h : n.Ok) (T : Int × Int → Bool) (m : Nat) : (∀ w, (rts n m).find? (endW n T) = some w → shw n T = some w) ∧
    ((rts n m).find? (endW n T) = none → ∀ w, shw n T = some w → m + 1 ≤ w.length) := by
  obtain ⟨t1, t2⟩ := shw_told h T
  constructor
  · intro w hw
    obtain ⟨j, hj, h1, h2⟩ := rts_some hw
    cases e : shw n T with
    | none => rw [t2 e j] at h1; cases h1
    | some v =>
      obtain ⟨i, h3, h4⟩ := t1 v e
      rw [(first_unique h3 h4 h1 h2).1]
  · intro hn w e
    obtain ⟨i, h3, h4⟩ := t1 w e
    obtain ⟨⟨u, x, rfl, hu⟩, _⟩ := lvw_way (List.mem_of_find?_eq_some h3)
    rcases Nat.lt_or_ge i m with c | c
    · have := List.find?_eq_none.mp hn _ (mem_rts.mpr ⟨i, c, List.mem_of_find?_eq_some h3⟩)
      exact absurd (List.find?_some h3) this
    · simp; omega
theorem shw_end {n : Net} (h : n.Ok) {T : Int × Int → Bool} {w : List Int} (e : shw n T = some w) : w ≠ [] ∧ (∀ r ∈ w, 0 ≤ r ∧ r < n.roads.length) ∧ T (lastW w, ast n w) = true := by
  obtain ⟨i, h3, _⟩ := (shw_told h T).1 w e
  obtain ⟨⟨u, x, rfl, hu⟩, hr, _⟩ := lvw_way (List.mem_of_find?_eq_some h3)
  have h5 : endW n T (u ++ [x]) = true := List.find?_some h3
  exact ⟨by simp, hr, h5⟩
theorem shw_none {n : Net} (h : n.Ok) {T : Int × Int → Bool} : shw n T = none ↔ ∀ p, Rc n p → T p = false := by
  constructor
  · intro e p hp
    obtain ⟨j, w, hw, e2⟩ := rc_ways.mp hp
    have := List.find?_eq_none.mp ((shw_told h T).2 e j) w hw
    rw [← e2]
    simpa [endW] using this
  · intro hT
    cases e : shw n T with
    | none => rfl
    | some w =>
      obtain ⟨i, h3, _⟩ := (shw_told h T).1 w e
      have hw := List.mem_of_find?_eq_some h3
      have := hT _ (rc_ways.mpr ⟨i, w, hw, rfl⟩)
      have h4 := List.find?_some h3
      unfold endW at h4
      rw [h4] at this
      cases this
def wantT (n : Net) (r L : Int) : Int × Int → Bool := fun p => decide (p.1 = r) && decide (shown (rest n r) p.2 = L)
theorem want_poss {n : Net} (h : n.Ok) {r L : Int} : shw n (wantT n r L) = none ↔ L ∉ poss n r 0 := by
  rw [shw_none h, poss_zero, mem_usort, List.mem_map]
  constructor
  · rintro hT ⟨s, hs, e⟩
    have := hT (r, s) ((mem_sts h).mp hs)
    simp [wantT, e] at this
  · intro hn p hp
    unfold wantT
    by_cases c1 : p.1 = r
    · by_cases c2 : shown (rest n r) p.2 = L
      · refine absurd ⟨p.2, (mem_sts h).mpr ?_, c2⟩ hn
        rw [← c1]
        exact hp
      · simp [c2]
    · simp [c1]
theorem poss_bd {n : Net} (h : n.Ok) {r L : Int} (hL : L ∈ poss n r 0) : 1 ≤ L ∧ L ≤ 13 := by
  rw [poss_zero, mem_usort, List.mem_map] at hL
  obtain ⟨s, hs, rfl⟩ := hL
  obtain ⟨a, b⟩ := sts_ok h hs
  have := rest_pos h r
  unfold shown
  split <;> omega
theorem lookI_map (k L : Int) (v : D) : ∀ kvs : List (Int × D), (kvs.any fun kv => decide (kv.1 = k)) = true → lookI L (kvs.map fun kv => if kv.1 = k then (kv.1, v) else kv) = if L = k then some v else lookI L kvs
  | [], h => by cases h
  | (j, d) :: r, h => by
    rw [List.map_cons]
    by_cases e : j = k
    · subst e
      rw [if_pos rfl, lookI]
      by_cases e2 : j = L
      · subst e2; simp
      · rw [if_neg e2, if_neg (fun z => e2 z.symm), lookI, if_neg e2]
        by_cases q : (r.any fun kv => decide (kv.1 = j)) = true
        · rw [lookI_map j L v r q, if_neg (fun z => e2 z.symm)]
        · have : (r.map fun kv => if kv.1 = j then (kv.1, v) else kv) = r := by
            conv => rhs; rw [← List.map_id r]
            refine List.map_congr_left fun kv hkv => ?_
            rw [if_neg]
            · rfl
            · intro z
              exact q (List.any_eq_true.mpr ⟨kv, hkv, by simpa using z⟩)
          rw [this]
    · rw [if_neg e, lookI, lookI]
      have h2 : (r.any fun kv => decide (kv.1 = k)) = true := by simpa [e] using h
      rw [lookI_map k L v r h2]
      by_cases e2 : j = L
      · subst e2
        rw [if_pos rfl, if_pos rfl, if_neg e]
      · rw [if_neg e2, if_neg e2]
theorem lookI_app (k L : Int) (v : D) : ∀ kvs : List (Int × D), (kvs.any fun kv => decide (kv.1 = k)) = false → lookI L (kvs ++ [(k, v)]) = if L = k then some v else lookI L kvs
  | [], _ => by
    show (if k = L then some v else none) = _
    by_cases e : k = L
    · rw [if_pos e, if_pos e.symm]
    · rw [if_neg e, if_neg (fun z => e z.symm)]; rfl
  | (j, d) :: r, h => by
    have hj : j ≠ k := by
      intro e
      simp [e] at h
    have h2 : (r.any fun kv => decide (kv.1 = k)) = false := by simpa [hj] using h
    rw [List.cons_append, lookI, lookI, lookI_app k L v r h2]
    by_cases e2 : j = L
    · subst e2
      rw [if_pos rfl, if_pos rfl, if_neg hj]
    · rw [if_neg e2, if_neg e2]
theorem lookI_putI (k L : Int) (v : D) (kvs : List (Int × D)) : lookI L (putI k v kvs) = if L = k then some v else lookI L kvs := by
  unfold putI putD
  split
  · rename_i h
    exact lookI_map k L v kvs h
  · rename_i h
    exact lookI_app k L v kvs ((Bool.not_eq_true _).mp h)
theorem putI_len (k : Int) (v : D) (kvs : List (Int × D)) : (putI k v kvs).length ≤ kvs.length + 1 := by
  unfold putI putD
  split
  · simp
  · simp
end LS

set_option Elab.async false
set_option linter.all false
set_option maxRecDepth 100000
set_option maxHeartbeats 1000000
/-! LSt: two nets. -/
namespace LS
open PySem PySem.Spec PyProof.Rows L2
/-! ### equal lists of tuples, of rows -/
theorem eqD_tupI (a b : List Int) : eqD (tupI a) (tupI b) = decide (a = b) := by
  show eqDs (a.map .int) (b.map .int) = _
  exact eqDs_ints a b
theorem plains_tupI : ∀ l : List (List Int), plains (l.map tupI) = true
  | [] => rfl
  | a :: l => by simp [plains, plain, tupI, plains_ints, plains_tupI l]
theorem deps_tupI : ∀ l : List (List Int), deps (l.map tupI) ≤ 1
  | [] => by simp [deps]
  | a :: l => by simp [deps, dep, tupI, deps_ints, deps_tupI l]
theorem eqDs_tupI : ∀ l m : List (List Int), eqDs (l.map tupI) (m.map tupI) = decide (l = m)
  | [], [] => by simp [eqDs]
  | [], _ :: _ => by simp [eqDs]
  | _ :: _, [] => by simp [eqDs]
  | a :: l, b :: m => by
    rw [List.map_cons, List.map_cons, eqDs, eqDs_tupI l m, eqD_tupI]
    by_cases c : a = b <;> by_cases d : l = m <;> simp [c, d]
theorem eqOk_of {d e : D} (h1 : plain d = true) (h2 : plain e = true) (h3 : dep d ≤ 60) : eqOk d e = true := by
  unfold eqOk
  rw [h1, h2, Nat.ble_eq_true_of_le h3]
  rfl
theorem cop_eq_tl (l m : List (List Int)) : cop .eq (.lst (l.map tupI)) (.lst (m.map tupI)) = some (decide (l = m)) := by
  show (if eqOk (.lst (l.map tupI)) (.lst (m.map tupI)) = true then some (eqDs (l.map tupI) (m.map tupI)) else none) = _
  rw [if_pos (eqOk_of (by simpa [plain] using plains_tupI l) (by simpa [plain] using plains_tupI m) (by have := deps_tupI l; simp only [dep]; omega)), eqDs_tupI]
theorem cop_ne_tl (l m : List (List Int)) : cop .ne (.lst (l.map tupI)) (.lst (m.map tupI)) = some (!decide (l = m)) := by
  show (if eqOk (.lst (l.map tupI)) (.lst (m.map tupI)) = true then some (!eqDs (l.map tupI) (m.map tupI)) else none) = _
  rw [if_pos (eqOk_of (by simpa [plain] using plains_tupI l) (by simpa [plain] using plains_tupI m) (by have := deps_tupI l; simp only [dep]; omega)), eqDs_tupI]
theorem eqDs_rows : ∀ l m : List (List Int), eqDs (l.map fun r => .lst (r.map .int)) (m.map fun r => .lst (r.map .int)) = decide (l = m)
  | [], [] => by simp [eqDs]
  | [], _ :: _ => by simp [eqDs]
  | _ :: _, [] => by simp [eqDs]
  | a :: l, b :: m => by
    rw [List.map_cons, List.map_cons, eqDs, eqDs_rows l m]
    show (eqDs (a.map .int) (b.map .int) && _) = _
    rw [eqDs_ints]
    by_cases c : a = b <;> by_cases d : l = m <;> simp [c, d]
theorem cop_eq_rr (l m : List (List Int)) : cop .eq (rowsD l) (rowsD m) = some (decide (l = m)) := by
  show (if eqOk (rowsD l) (rowsD m) = true then some (eqDs (l.map fun r => .lst (r.map .int)) (m.map fun r => .lst (r.map .int))) else none) = _
  rw [if_pos (eqOk_of (plain_rowsD l) (plain_rowsD m) (dep_rowsD l)), eqDs_rows]
theorem cop_ne_rr (l m : List (List Int)) : cop .ne (rowsD l) (rowsD m) = some (!decide (l = m)) := by
  show (if eqOk (rowsD l) (rowsD m) = true then some (!eqDs (l.map fun r => .lst (r.map .int)) (m.map fun r => .lst (r.map .int))) else none) = _
  rw [if_pos (eqOk_of (plain_rowsD l) (plain_rowsD m) (dep_rowsD l)), eqDs_rows]
/-! equal nets -/
theorem Road.d_inj {a b : Road} (h : a.d = b.d) : a = b := by
  obtain ⟨s, e, t, g⟩ := a
  obtain ⟨s', e', t', g'⟩ := b
  unfold Road.d at h
  injection h with h
  injection h with h1 h
  injection h with h2 h
  injection h with h3 h
  injection h with h4 h
  injection h1 with h1
  injection h2 with h2
  injection h3 with h3
  injection h4 with h4
  have : g = g' := by
    have e : ∀ l m : List Int, l.map D.int = m.map D.int → l = m := fun l => by
      induction l with
      | nil => intro m hm; cases m with
        | nil => rfl
        | cons _ _ => cases hm
      | cons a l ih => intro m hm; cases m with
        | nil => cases hm
        | cons b m =>
          rw [List.map_cons, List.map_cons] at hm
          injection hm with q1 q2
          injection q1 with q1
          rw [q1, ih m q2]
    exact e _ _ h4
  simp only at h1 h2 h3
  subst h1 h2 h3 this
  rfl
theorem eqD_road (a b : Road) : eqD a.d b.d = true ↔ a = b := by
  obtain ⟨s, e, t, g⟩ := a
  obtain ⟨s', e', t', g'⟩ := b
  simp only [Road.d, eqD, eqDs, eqDs_ints, Bool.and_true, Bool.and_eq_true, beq_iff_eq, decide_eq_true_eq, Road.mk.injEq]
theorem eqDs_roads : ∀ l m : List Road, eqDs (l.map Road.d) (m.map Road.d) = true ↔ l = m
  | [], [] => by simp [eqDs]
  | [], _ :: _ => by simp [eqDs]
  | _ :: _, [] => by simp [eqDs]
  | a :: l, b :: m => by
    rw [List.map_cons, List.map_cons, eqDs, Bool.and_eq_true, eqD_road, eqDs_roads l m, List.cons.injEq]
theorem eqD_net (a b : Net) : eqD a.d b.d = true ↔ a = b := by
  obtain ⟨s, e, t, g⟩ := a
  obtain ⟨s', e', t', g'⟩ := b
  simp only [Net.d, eqD, eqDs, Bool.and_true, Bool.and_eq_true, beq_iff_eq, eqDs_roads, Net.mk.injEq]
theorem plains_roads : ∀ l : List Road, plains (l.map Road.d) = true
  | [] => rfl
  | a :: l => by simp [plains, plain, Road.d, plains_ints, plains_roads l]
theorem deps_roads : ∀ l : List Road, deps (l.map Road.d) ≤ 2
  | [] => by simp [deps]
  | a :: l => by
    have := deps_roads l
    simp only [List.map_cons, deps, Road.d, dep, deps_ints]
    omega
theorem plain_net (n : Net) : plain n.d = true := by simp [Net.d, plain, plains, plains_roads]
theorem dep_net (n : Net) : dep n.d ≤ 4 := by
  have := deps_roads n.roads
  simp only [Net.d, dep, deps]
  omega
instance : DecidableEq Road := fun a b => decidable_of_iff (eqD a.d b.d = true) (eqD_road a b)
instance : DecidableEq Net := fun a b => decidable_of_iff (eqD a.d b.d = true) (eqD_net a b)
theorem cop_eq_net (a b : Net) : cop .eq a.d b.d = some (decide (a = b)) := by
  show (if eqOk a.d b.d = true then some (eqD a.d b.d) else none) = _
  rw [if_pos (eqOk_of (plain_net a) (plain_net b) (Nat.le_trans (dep_net a) (by decide)))]
  congr 1
  rw [Bool.eq_iff_iff, eqD_net, decide_eq_true_eq]
theorem cop_ne_net (a b : Net) : cop .ne a.d b.d = some (!decide (a = b)) := by
  show (if eqOk a.d b.d = true then some (!eqD a.d b.d) else none) = _
  rw [if_pos (eqOk_of (plain_net a) (plain_net b) (Nat.le_trans (dep_net a) (by decide)))]
  congr 2
  rw [Bool.eq_iff_iff, eqD_net, decide_eq_true_eq]
/-! ### other signs of a road -/
def setN (n : Net) (k : Int) (g : List Int) : Net := { n with roads := n.roads.set k.toNat { n.road k with g := g } }
def dropN (n : Net) (k : Int) (i : Nat) : Net := setN n k ((n.road k).g.eraseIdx i)
theorem setN_len (n : Net) (k : Int) (g : List Int) : (setN n k g).roads.length = n.roads.length := by simp [setN]
theorem setN_self {n : Net} {k : Int} {g : List Int} (h1 : 0 ≤ k) (h2 : k < n.roads.length) : (setN n k g).road k = { n.road k with g := g } := by
  unfold setN Net.road
  simp only
  rw [List.getD_eq_getElem?_getD, List.getElem?_set_self (by omega)]
  rfl
theorem setN_ne {n : Net} {k r : Int} {g : List Int} (h1 : 0 ≤ k) (h : 0 ≤ r) (hne : r ≠ k) : (setN n k g).road r = n.road r := by
  unfold setN Net.road
  simp only
  rw [List.getD_eq_getElem?_getD, List.getElem?_set_ne (by omega)]
  exact (List.getD_eq_getElem?_getD ..).symm
theorem setN_ok {n : Net} (h : n.Ok) {k : Int} (h1 : 0 ≤ k) (h2 : k < n.roads.length) {g : List Int} (hg : g.length ≤ 3) (hb : ∀ x ∈ g, 0 ≤ x ∧ x ≤ 13) : (setN n k g).Ok := by
  refine ⟨h.fast, h.slow, h.keeps, by rw [setN_len]; exact h.l1, by rw [setN_len]; exact h.l8, fun r hr => ?_⟩
  have ho := h.roads _ (Net.road_mem h1 h2)
  rcases List.mem_or_eq_of_mem_set hr with q | q
  · exact h.roads r q
  · subst q
    exact ⟨ho.s, ho.e, ho.t, hg, hb⟩
theorem setN_set (n : Net) (k : Int) (h1 : 0 ≤ k) (h2 : k < n.roads.length) (g g' : List Int) : setN (setN n k g) k g' = setN n k g' := by
  unfold setN
  have e : ({ fast := n.fast, slow := n.slow, keeps := n.keeps, roads := n.roads.set k.toNat { n.road k with g := g } } : Net).road k = { n.road k with g := g } := setN_self h1 h2
  simp only [e, List.set_set]
theorem setN_id {n : Net} {k : Int} (h1 : 0 ≤ k) (h2 : k < n.roads.length) : setN n k (n.road k).g = n := by
  unfold setN
  have e : ({ n.road k with g := (n.road k).g } : Road) = n.road k := rfl
  rw [e]
  have : n.roads.set k.toNat (n.road k) = n.roads := by
    unfold Net.road
    rw [List.getD_eq_getElem?_getD, List.getElem?_eq_getElem (show k.toNat < n.roads.length by omega)]
    exact List.set_getElem_self _
  rw [this]
theorem setN_d (n : Net) {k : Int} (h1 : 0 ≤ k) (h2 : k < n.roads.length) (g : List Int) :
    D.tup ([D.int n.fast, .int n.slow, .int n.keeps] ++ [.tup ((n.roads.map Road.d).take k.toNat ++ [.tup [.int (n.road k).s, .int (n.road k).e, .int (n.road k).t, .tup (g.map .int)]] ++ (n.roads.map Road.d).drop (k.toNat + 1))]) = (setN n k g).d := by
  show _ = D.tup [.int n.fast, .int n.slow, .int n.keeps, .tup ((n.roads.set k.toNat { n.road k with g := g }).map Road.d)]
  rw [List.map_set, List.set_eq_take_append_cons_drop, if_pos (by rw [List.length_map]; omega)]
  simp [Road.d]
/-! ### two nets with as many roads -/
abbrev T3 := Int × Int × Int
def nb2 (n o : Net) (p : T3) : List T3 := (follow n p.1).map fun k => (k, behind n (p.1, p.2.1), behind o (p.1, p.2.2))
def S2 (n o : Net) (T : T3 → Bool) : Sr T3 T3 := ⟨id, nb2 n o, T⟩
def st2 (n : Net) : List T3 := (List.range n.roads.length).map fun (k : Nat) => ((k : Int), (0 : Int), (0 : Int))
def pt (n o : Net) (w : List Int) : T3 := (lastW w, ast n w, ast o w)
def Rc2 (n o : Net) (p : T3) : Prop := ∃ j, ∃ w ∈ lvw n j, pt n o w = p
theorem S2_ok (n o : Net) (T : T3 → Bool) : (S2 n o T).Ok := ⟨fun x y h => by cases (show x = y from h); rfl, fun x y h => by cases (show x = y from h); rfl⟩
theorem ast_step (n : Net) (u : List Int) (x k : Int) : ast n (u ++ [x] ++ [k]) = behind n (x, ast n (u ++ [x])) := by
  rw [ast_snoc, ast_snoc, arr_snoc]
  rfl
theorem S2_lev (n o : Net) (T : T3 → Bool) : ∀ m : Nat, (S2 n o T).lev (st2 n) m = (lvw n m).map (pt n o)
  | 0 => by
    show st2 n = _
    unfold st2 lvw
    rw [List.map_map]
    rfl
  | m + 1 => by
    show ((S2 n o T).lev (st2 n) m).flatMap (nb2 n o) = _
    rw [S2_lev n o T m]
    show _ = ((lvw n m).flatMap fun w => (follow n (lastW w)).map fun k => w ++ [k]).map (pt n o)
    have key : ∀ l : List (List Int), (∀ w ∈ l, w ≠ []) → (l.map (pt n o)).flatMap (nb2 n o) = (l.flatMap fun w => (follow n (lastW w)).map fun k => w ++ [k]).map (pt n o) := fun l hl => by
      induction l with
      | nil => rfl
      | cons w l ih =>
        rw [List.map_cons, List.flatMap_cons, List.flatMap_cons, List.map_append, ih fun v hv => hl v (List.mem_cons_of_mem _ hv)]
        congr 1
        have hne := hl w List.mem_cons_self
        obtain ⟨u, x, rfl⟩ : ∃ u x, w = u ++ [x] := ⟨w.dropLast, w.getLast hne, (List.dropLast_concat_getLast hne).symm⟩
        show ((follow n (lastW (u ++ [x]))).map fun k => (k, behind n (lastW (u ++ [x]), ast n (u ++ [x])), behind o (lastW (u ++ [x]), ast o (u ++ [x])))) = _
        rw [List.map_map]
        refine List.map_congr_left fun k _ => ?_
        show _ = (lastW (u ++ [x] ++ [k]), ast n (u ++ [x] ++ [k]), ast o (u ++ [x] ++ [k]))
        rw [lastW_snoc, lastW_snoc, ast_step, ast_step]
    exact key _ fun w hw => by
      obtain ⟨⟨u, x, rfl, _⟩, _⟩ := lvw_way hw
      simp
theorem rc2_lev {n o : Net} {T : T3 → Bool} {p : T3} : Rc2 n o p ↔ ∃ j, p ∈ (S2 n o T).lev (st2 n) j := by
  unfold Rc2
  refine exists_congr fun j => ?_
  rw [S2_lev, List.mem_map]
theorem Rc2.st {n o : Net} {p : T3} (h : p ∈ st2 n) : Rc2 n o p := (rc2_lev (T := fun _ => false)).mpr ⟨0, h⟩
theorem Rc2.nb {n o : Net} {p q : T3} (h : Rc2 n o p) (hq : q ∈ nb2 n o p) : Rc2 n o q := by
  obtain ⟨j, hj⟩ := (rc2_lev (T := fun _ => false)).mp h
  exact (rc2_lev (T := fun _ => false)).mpr ⟨j + 1, List.mem_flatMap.mpr ⟨p, hj, hq⟩⟩
/-- both states are told by both nets -/
def InU2 (n o : Net) (p : T3) : Prop := InU n (p.1, p.2.1) ∧ InU o (p.1, p.2.2)
theorem InU2.st {n o : Net} (hlen : o.roads.length = n.roads.length) {p : T3} (h : p ∈ st2 n) : InU2 n o p := by
  obtain ⟨k, hk, rfl⟩ := List.mem_map.mp h
  have hk' : k < n.roads.length := by simpa using hk
  exact ⟨⟨⟨by show (0 : Int) ≤ k; omega, by show (k : Int) < _; omega⟩, List.mem_cons_self⟩, ⟨⟨by show (0 : Int) ≤ k; omega, by show (k : Int) < _; omega⟩, List.mem_cons_self⟩⟩
theorem InU2.nb {n o : Net} (hlen : o.roads.length = n.roads.length) {p q : T3} (h : InU2 n o p) (hq : q ∈ nb2 n o p) : InU2 n o q := by
  obtain ⟨k, hk, rfl⟩ := List.mem_map.mp hq
  obtain ⟨h1, h2, _⟩ := follow_mem hk
  exact ⟨⟨⟨h1, h2⟩, behind_mem h.1⟩, ⟨⟨h1, by show k < (o.roads.length : Int); omega⟩, behind_mem h.2⟩⟩
def uni2 (n o : Net) : List T3 := (uni n).flatMap fun p => (0 :: lasts o).map fun b => (p.1, p.2, b)
theorem InU2.uni {n o : Net} {p : T3} (h : InU2 n o p) : p ∈ uni2 n o := by
  unfold uni2
  exact List.mem_flatMap.mpr ⟨(p.1, p.2.1), h.1.uni, List.mem_map.mpr ⟨p.2.2, h.2.2, rfl⟩⟩
theorem uni2_len {n o : Net} (h : n.Ok) (hlen : o.roads.length = n.roads.length) : (uni2 n o).length ≤ 648 := by
  unfold uni2
  rw [List.length_flatMap]
  have e : (fun (p : Int × Int) => ((0 :: lasts o).map fun b => (p.1, p.2, b)).length) = fun _ => n.roads.length + 1 := by
    funext k
    rw [List.length_map, List.length_cons]
    unfold lasts
    rw [List.length_map, hlen]
  rw [e, sum_const]
  have h1 := uni_72 h
  have h2 := h.l8
  exact Nat.le_trans (Nat.mul_le_mul h1 (Nat.succ_le_succ h2)) (by decide)
theorem rc2_inU {n o : Net} (hlen : o.roads.length = n.roads.length) {p : T3} (h : Rc2 n o p) : InU2 n o p := by
  obtain ⟨j, hj⟩ := (rc2_lev (T := fun _ => false)).mp h
  induction j generalizing p with
  | zero => exact InU2.st hlen hj
  | succ j ih =>
    obtain ⟨q, hq, hp⟩ := List.mem_flatMap.mp (show p ∈ ((S2 n o fun _ => false).lev (st2 n) j).flatMap (nb2 n o) from hj)
    exact (ih ⟨j, S2_lev n o _ j ▸ hq |> fun z => by
      obtain ⟨w, hw, e⟩ := List.mem_map.mp z
      exact ⟨w, hw, e⟩⟩ hq).nb hlen hp
theorem S2_ends {n o : Net} (h : n.Ok) (hlen : o.roads.length = n.roads.length) (T : T3 → Bool) : ∃ r, (S2 n o T).bfs 1000 (st2 n) [] = some r := by
  obtain ⟨r, h1, _⟩ := Sr.bfs_ends (S := S2 n o T) (U := uni2 n o) (InU2 n o) (fun p hp => hp.uni) (fun p hp q hq => hp.nb hlen hq) 1000 (st2 n) [] (fun p hp => InU2.st hlen hp) (by simp) (fun _ h => absurd h List.not_mem_nil) (by have := uni2_len h hlen; simp; omega)
  exact ⟨r, h1⟩
/-- all triples found -/
noncomputable def found2 (n o : Net) : List T3 := match (S2 n o fun _ => false).bfs 1000 (st2 n) [] with
  | some (.ok kn) => kn
  | _ => []
theorem found2_is {n o : Net} (h : n.Ok) (hlen : o.roads.length = n.roads.length) : (S2 n o fun _ => false).bfs 1000 (st2 n) [] = some (.ok (found2 n o)) ∧ (found2 n o).Nodup ∧ ∀ p, p ∈ found2 n o ↔ Rc2 n o p := by
  obtain ⟨r, h1⟩ := S2_ends h hlen fun _ => false
  have t := Sr.bfs_start (S2_ok n o _) h1
  cases r with
  | error x =>
    obtain ⟨j, hj, _⟩ := t
    have := List.find?_some hj
    cases this
  | ok kn =>
    obtain ⟨_, t2, t3⟩ := t
    have e : found2 n o = kn := by unfold found2; rw [h1]
    rw [e]
    refine ⟨h1, t2, fun p => (t3 p).trans ?_⟩
    rw [rc2_lev (T := fun _ => false)]
    exact ⟨fun ⟨j, x, hx, e⟩ => by cases (show x = p from e); exact ⟨j, hx⟩, fun ⟨j, hj⟩ => ⟨j, p, hj, rfl⟩⟩
def tl (p : T3) : List Int := [p.1, p.2.1, p.2.2]
theorem tl_inj (p q : T3) (h : tl p = tl q) : p = q := by
  unfold tl at h
  injection h with h1 h
  injection h with h2 h
  injection h with h3 h
  exact Prod.ext h1 (Prod.ext h2 h3)
def td (p : T3) : D := .tup [.int p.1, .int p.2.1, .int p.2.2]
def leP3 (p q : T3) : Bool := leT (tl p) (tl q)
theorem ordP3 : Ord leP3 := ⟨fun a b => ordT.tot (tl a) (tl b), fun a b c h1 h2 => ordT.tr _ _ _ h1 h2, fun a b h1 h2 => tl_inj _ _ (ordT.anti _ _ h1 h2)⟩
/-- sorted -/
noncomputable def prs (n o : Net) : List T3 := usort leP3 (found2 n o)
theorem mem_prs {n o : Net} (h : n.Ok) (hlen : o.roads.length = n.roads.length) {p : T3} : p ∈ prs n o ↔ Rc2 n o p := (mem_usort p _).trans ((found2_is h hlen).2.2 p)
theorem usort_tl (l : List T3) : usort leT (l.map tl) = (usort leP3 l).map tl := by
  refine (usort_of ordT ?_ ?_ fun x => ?_).symm
  · rw [List.pairwise_map]
    exact (usort_sorted ordP3 l).imp fun h => h.1
  · rw [List.nodup_iff_pairwise_ne, List.pairwise_map]
    exact (usort_sorted ordP3 l).imp fun h e => h.2 (tl_inj _ _ e)
  · constructor
    · intro hx
      obtain ⟨p, hp, rfl⟩ := List.mem_map.mp hx
      exact List.mem_map.mpr ⟨p, (mem_usort p l).mp hp, rfl⟩
    · intro hx
      obtain ⟨p, hp, rfl⟩ := List.mem_map.mp hx
      exact List.mem_map.mpr ⟨p, (mem_usort p l).mpr hp, rfl⟩
theorem plains_td : ∀ l : List T3, plains (l.map td) = true
  | [] => rfl
  | p :: l => by simp [plains, plain, td, plains_td l]
theorem cop_nin_tl {v : D} (a b c : Int) (l : List T3) : cop .nin (.tup [.int a, .int b, .int c]) (.dct (kvD tl v l)) = some (!decide ((a, b, c) ∈ l)) := by
  show some (!(lookT (tl (a, b, c)) (kvD tl v l)).isSome) = _
  rw [lookT_kv (v := v) tl_inj (a, b, c) l]
  exact congrArg some (congrArg not (decide_eq_decide.mpr Iff.rfl))
theorem sto_tl {v : D} {a b c : Int} {l : List T3} (h : (a, b, c) ∉ l) (hl : l.length ≤ 100000) : stoD (.dct (kvD tl v l)) (.tup [.int a, .int b, .int c]) v = some (.dct (kvD tl v (l ++ [(a, b, c)]))) := by
  show (if Nat.blt (kvD tl v l).length LINE then some (D.dct (putT (tl (a, b, c)) v (kvD tl v l))) else none) = _
  rw [if_pos (by rw [kvD_len]; simp [Nat.blt_eq]; omega), putT_kv tl_inj h]
theorem sorted_found2 {n o : Net} (h : n.Ok) (ho : o.Ok) (hlen : o.roads.length = n.roads.length) (h60 : (found2 n o).length ≤ 60) (v : D) : b1D .sorted (.dct (kvD tl v (found2 n o))) = some (.v .fr (.lst ((prs n o).map td))) := by
  obtain ⟨_, f2, f3⟩ := found2_is h hlen
  have hd : dims ((found2 n o).map tl) = true := by
    have hb : ∀ p ∈ found2 n o, (0 ≤ p.1 ∧ p.1 < 64) ∧ (0 ≤ p.2.1 ∧ p.2.1 < 64) ∧ 0 ≤ p.2.2 ∧ p.2.2 < 64 := fun p hp => by
      obtain ⟨⟨⟨a1, a2⟩, a3⟩, ⟨_, a5⟩⟩ := rc2_inU hlen ((f3 p).mp hp)
      obtain ⟨b1, b2⟩ := state_ok h a3
      obtain ⟨b3, b4⟩ := state_ok ho a5
      have := h.l8
      simp only at a1 a2 b1 b2 b3 b4
      omega
    generalize found2 n o = l at hb
    cases l with
    | nil => rfl
    | cons p l =>
      rw [List.map_cons]
      show (Nat.ble 1 (tl p).length && (tl p :: l.map tl).all fun j => (j.length == (tl p).length) && j.all fun m => decide (0 ≤ m) && decide (m < 64)) = true
      rw [Bool.and_eq_true]
      refine ⟨rfl, List.all_eq_true.mpr fun j hj => ?_⟩
      rw [← List.map_cons] at hj
      obtain ⟨q, hq, rfl⟩ := List.mem_map.mp hj
      obtain ⟨⟨h1, h2⟩, ⟨h3, h4⟩, h5, h6⟩ := hb q hq
      simp [tl, h1, h2, h3, h4, h5, h6]
  show (if (Nat.ble (kvD tl v (found2 n o)).length 60 && dims ((kvD tl v (found2 n o)).map (·.1))) = true then fr (.lst ((isort leT ((kvD tl v (found2 n o)).map (·.1))).map tupI)) else none) = _
  rw [kvD_len, kvD_keys, if_pos (by rw [Nat.ble_eq_true_of_le h60, hd]; rfl)]
  have nd : ((found2 n o).map tl).Nodup := by
    rw [List.nodup_iff_pairwise_ne, List.pairwise_map]
    exact (List.nodup_iff_pairwise_ne.mp f2).imp fun h e => h (tl_inj _ _ e)
  rw [isort_nodup ordT nd, usort_tl, List.map_map]
  rfl
/-! ### a sign left out -/
/-- the states' pairs with and without a sign of the road k -/
def pairsU (n : Net) (k : Int) (y : Int) : List (Int × Int) := (0, 0) :: (((n.roads.eraseIdx k.toNat).map fun r => r.g.getLastD 0).map fun l => (l, l)) ++ ((0 :: (n.roads.eraseIdx k.toNat).map fun r => r.g.getLastD 0).map fun l => ((n.road k).g.getLastD 0, l)) ++ [((n.road k).g.getLastD 0, y)]
theorem road_erase {n : Net} {k r : Int} (h1 : 0 ≤ k) (hr : 0 ≤ r) (hr2 : r < n.roads.length) (hne : r ≠ k) : n.road r ∈ n.roads.eraseIdx k.toNat := by
  rw [List.mem_eraseIdx_iff_getElem]
  refine ⟨r.toNat, by omega, by omega, ?_⟩
  unfold Net.road
  rw [List.getD_eq_getElem?_getD, List.getElem?_eq_getElem (show r.toNat < n.roads.length by omega)]
  rfl
theorem drop_road {n : Net} {k r : Int} {i : Nat} (h1 : 0 ≤ k) (h2 : k < n.roads.length) (hr : 0 ≤ r) : (dropN n k i).road r = if r = k then { n.road k with g := (n.road k).g.eraseIdx i } else n.road r := by
  unfold dropN
  split
  · rename_i e; subst e; exact setN_self h1 h2
  · rename_i e; exact setN_ne h1 hr e
theorem drop_len (n : Net) (k : Int) (i : Nat) : (dropN n k i).roads.length = n.roads.length := setN_len ..
theorem getLastD_ne {g : List Int} (h : g ≠ []) (a b : Int) : g.getLastD a = g.getLastD b := by
  cases g with
  | nil => exact absurd rfl h
  | cons x g => rfl
theorem pairs_step {n : Net} {k : Int} {i : Nat} (h1 : 0 ≤ k) (h2 : k < n.roads.length) (hi : i < (n.road k).g.length) {r a b : Int} (hr : 0 ≤ r) (hr2 : r < n.roads.length)
    (hp : (a, b) ∈ pairsU n k (((n.road k).g.eraseIdx i).getLastD 0)) : (behind n (r, a), behind (dropN n k i) (r, b)) ∈ pairsU n k (((n.road k).g.eraseIdx i).getLastD 0) := by
  have hkeep : (dropN n k i).keeps = n.keeps := rfl
  unfold behind goOver leaveS
  simp only
  rw [hkeep]
  by_cases hk : n.keeps = 1
  · rw [if_pos hk, if_pos hk, drop_road h1 h2 hr]
    by_cases e : r = k
    · subst e
      rw [if_pos rfl]
      have hne : (n.road r).g ≠ [] := fun z => by rw [z] at hi; simp at hi
      rw [getLastD_ne hne a 0]
      by_cases hz : (n.road r).g.eraseIdx i = []
      · rw [hz]
        show ((n.road r).g.getLastD 0, b) ∈ _
        rw [hz] at hp
        unfold pairsU at hp ⊢
        simp only [List.mem_append, List.mem_cons, List.mem_map, Prod.mk.injEq] at hp ⊢
        rcases hp with ((⟨_, rfl⟩ | ⟨l, ⟨q, hq, rfl⟩, e1, rfl⟩) | ⟨l, hl, e1, rfl⟩) | h
        · exact .inl (.inr ⟨0, .inl rfl, trivial, rfl⟩)
        · exact .inl (.inr ⟨_, .inr ⟨q, hq, rfl⟩, trivial, rfl⟩)
        · exact .inl (.inr ⟨_, hl, trivial, rfl⟩)
        · rcases h with ⟨_, h⟩ | h
          · exact .inl (.inr ⟨0, .inl rfl, trivial, h.symm⟩)
          · cases h
      · rw [getLastD_ne hz b 0]
        unfold pairsU
        simp
    · rw [if_neg e]
      by_cases hz : (n.road r).g = []
      · rw [hz]; exact hp
      · rw [getLastD_ne hz a 0, getLastD_ne hz b 0]
        unfold pairsU
        simp only [List.mem_append, List.mem_cons, List.mem_map]
        exact .inl (.inl (.inr ⟨_, ⟨_, road_erase h1 hr hr2 e, rfl⟩, rfl⟩))
  · rw [if_neg hk, if_neg hk]
    unfold pairsU
    simp
theorem pairsU_len {n : Net} {k : Int} (h2 : k.toNat < n.roads.length) (y : Int) : (pairsU n k y).length = 2 * n.roads.length + 1 := by
  unfold pairsU
  simp only [List.length_append, List.length_cons, List.length_map, List.length_eraseIdx, List.length_nil]
  rw [if_pos h2]
  omega
theorem rc2_drop {n : Net} {k : Int} {i : Nat} (h1 : 0 ≤ k) (h2 : k < n.roads.length) (hi : i < (n.road k).g.length) {p : T3} (h : Rc2 n (dropN n k i) p) : (0 ≤ p.1 ∧ p.1 < n.roads.length) ∧ (p.2.1, p.2.2) ∈ pairsU n k (((n.road k).g.eraseIdx i).getLastD 0) := by
  obtain ⟨j, hj⟩ := (rc2_lev (T := fun _ => false)).mp h
  clear h
  induction j generalizing p with
  | zero =>
    obtain ⟨x, hx, rfl⟩ := List.mem_map.mp hj
    have hx' : x < n.roads.length := by simpa using hx
    exact ⟨⟨by show (0 : Int) ≤ x; omega, by show (x : Int) < _; omega⟩, by unfold pairsU; simp⟩
  | succ j ih =>
    obtain ⟨q, hq, hp⟩ := List.mem_flatMap.mp (show p ∈ ((S2 n (dropN n k i) fun _ => false).lev (st2 n) j).flatMap (nb2 n (dropN n k i)) from hj)
    obtain ⟨⟨q1, q2⟩, q3⟩ := ih hq
    obtain ⟨x, hx, rfl⟩ := List.mem_map.mp hp
    obtain ⟨x1, x2, _⟩ := follow_mem hx
    exact ⟨⟨x1, x2⟩, pairs_step h1 h2 hi q1 q2 q3⟩
theorem found2_drop {n : Net} (h : n.Ok) (h5 : n.roads.length ≤ 5) {k : Int} {i : Nat} (h1 : 0 ≤ k) (h2 : k < n.roads.length) (hi : i < (n.road k).g.length) : (found2 n (dropN n k i)).length ≤ 60 := by
  obtain ⟨_, f2, f3⟩ := found2_is (o := dropN n k i) h (drop_len n k i)
  obtain ⟨U, hU⟩ : ∃ U : List T3, U = (List.range n.roads.length).flatMap fun (r : Nat) => (pairsU n k (((n.road k).g.eraseIdx i).getLastD 0)).map fun q => ((r : Int), q.1, q.2) := ⟨_, rfl⟩
  have hlen : U.length = n.roads.length * (2 * n.roads.length + 1) := by
    rw [hU, List.length_flatMap]
    have e : (fun (r : Nat) => ((pairsU n k (((n.road k).g.eraseIdx i).getLastD 0)).map fun q => ((r : Int), q.1, q.2)).length) = fun _ => 2 * n.roads.length + 1 := by
      funext r
      rw [List.length_map, pairsU_len (by omega)]
    rw [e, sum_const, List.length_range]
  have := nodup_le _ U f2 fun p hp => by
    obtain ⟨⟨a1, a2⟩, a3⟩ := rc2_drop h1 h2 hi ((f3 p).mp hp)
    rw [hU]
    refine List.mem_flatMap.mpr ⟨p.1.toNat, by simp; omega, List.mem_map.mpr ⟨(p.2.1, p.2.2), a3, ?_⟩⟩
    exact Prod.ext (by show ((p.1.toNat : Nat) : Int) = p.1; omega) rfl
  rw [hlen] at this
  have hm : n.roads.length * (2 * n.roads.length + 1) ≤ 5 * 11 := Nat.mul_le_mul h5 (by omega)
  omega
/-- whether a driver with and without the sign sees the same on this road -/
def okP (n o : Net) (k : Int) (i : Nat) (p : T3) : Bool := (!decide (p.1 = k) || decide ((pcs n p.1 p.2.1).getD i 0 = (pcs n p.1 p.2.1).getD (i + 1) 0)) && decide ((if p.1 = k then (pcs n p.1 p.2.1).eraseIdx i else pcs n p.1 p.2.1) = pcs o p.1 p.2.2)
noncomputable def idle (n : Net) (k : Int) (i : Nat) : Bool := (prs n (dropN n k i)).all (okP n (dropN n k i) k i)
theorem idle_iff {n : Net} (h : n.Ok) {k : Int} {i : Nat} : idle n k i = true ↔ ∀ p, Rc2 n (dropN n k i) p → okP n (dropN n k i) k i p = true := by
  unfold idle
  rw [List.all_eq_true]
  exact forall_congr' fun p => by rw [mem_prs h (drop_len n k i)]
noncomputable def idles (n : Net) : List (Int × Int) := (List.range n.roads.length).flatMap fun (k : Nat) => ((List.range (n.road k).g.length).filter fun i => idle n k i).map fun (i : Nat) => ((k : Int), (i : Int))
theorem mem_idles {n : Net} {p : Int × Int} (h : p ∈ idles n) : (0 ≤ p.1 ∧ p.1 < n.roads.length) ∧ 0 ≤ p.2 ∧ p.2 < (n.road p.1).g.length ∧ idle n p.1 p.2.toNat = true := by
  unfold idles at h
  obtain ⟨k, hk, h⟩ := List.mem_flatMap.mp h
  obtain ⟨i, hi, rfl⟩ := List.mem_map.mp h
  obtain ⟨h1, h2⟩ := List.mem_filter.mp hi
  simp at hk h1
  exact ⟨⟨by show (0 : Int) ≤ k; omega, by show (k : Int) < _; omega⟩, by show (0 : Int) ≤ i; omega, by show (i : Int) < ((n.road (k : Int)).g.length : Int); omega, h2⟩
theorem drop_ok {n : Net} (h : n.Ok) {k : Int} (h1 : 0 ≤ k) (h2 : k < n.roads.length) (i : Nat) : (dropN n k i).Ok := by
  have hr := h.roads _ (Net.road_mem h1 h2)
  refine setN_ok h h1 h2 ?_ fun x hx => hr.g x (List.mem_of_mem_eraseIdx hx)
  have := hr.l
  rw [List.length_eraseIdx]
  split <;> omega
theorem cut_upto {α : Type} (xs : List α) {k : Int} (h : 0 ≤ k) : LS.cut xs none (some k) = xs.take k.toNat := by
  have := cut_head xs k.toNat
  rwa [show ((k.toNat : Nat) : Int) = k by omega] at this
theorem idles_len {n : Net} (h : n.Ok) : (idles n).length ≤ 24 := by
  unfold idles
  rw [List.length_flatMap]
  have key : ∀ l : List Nat, (∀ k ∈ l, k < n.roads.length) → (l.map fun (k : Nat) => (((List.range (n.road k).g.length).filter fun i => idle n k i).map fun (i : Nat) => ((k : Int), (i : Int))).length).sum ≤ l.length * 3 := fun l hl => by
    induction l with
    | nil => simp
    | cons k l ih =>
      have := ih fun x hx => hl x (List.mem_cons_of_mem _ hx)
      have hk := hl k List.mem_cons_self
      have hr := (h.roads _ (Net.road_mem (n := n) (i := (k : Int)) (by omega) (by omega))).l
      have h2 := List.length_filter_le (fun i => idle n k i) (List.range (n.road k).g.length)
      rw [List.length_range] at h2
      rw [List.map_cons, List.sum_cons, List.length_cons, List.length_map]
      omega
  have := key (List.range n.roads.length) fun k hk => by simpa using hk
  rw [List.length_range] at this
  have := h.l8
  omega
end LS

set_option Elab.async false
set_option linter.all false
set_option maxRecDepth 100000
set_option maxHeartbeats 1000000
/-! LSu: ways on which two nets part; idle signs left out. -/
namespace LS
open PySem PySem.Spec PyProof.Rows L2
abbrev WS3 := List Int × Int × Int
def SW2 (n o : Net) (T : T3 → Bool) : Sr T3 WS3 := ⟨fun p => (lastW p.1, p.2.1, p.2.2), fun p => (follow n (lastW p.1)).map fun k => (p.1 ++ [k], behind n (lastW p.1, p.2.1), behind o (lastW p.1, p.2.2)), fun p => T (lastW p.1, p.2.1, p.2.2)⟩
def sw20 (n : Net) : List WS3 := (List.range n.roads.length).map fun (k : Nat) => ([(k : Int)], (0 : Int), (0 : Int))
def w3 (n o : Net) (w : List Int) : WS3 := (w, ast n w, ast o w)
theorem SW2_ok (n o : Net) (T : T3 → Bool) : (SW2 n o T).Ok := by
  refine ⟨fun x y h => ?_, fun x y h => ?_⟩
  · have h' : (lastW x.1, x.2.1, x.2.2) = (lastW y.1, y.2.1, y.2.2) := h
    have h1 : lastW x.1 = lastW y.1 := congrArg Prod.fst h'
    have h2 : x.2.1 = y.2.1 := congrArg (fun p => p.2.1) h'
    have h3 : x.2.2 = y.2.2 := congrArg (fun p => p.2.2) h'
    show ((follow n (lastW x.1)).map fun k => (x.1 ++ [k], behind n (lastW x.1, x.2.1), behind o (lastW x.1, x.2.2))).map (fun p : WS3 => (lastW p.1, p.2.1, p.2.2)) = ((follow n (lastW y.1)).map fun k => (y.1 ++ [k], behind n (lastW y.1, y.2.1), behind o (lastW y.1, y.2.2))).map fun p : WS3 => (lastW p.1, p.2.1, p.2.2)
    rw [List.map_map, List.map_map, h1, h2, h3]
    exact List.map_congr_left fun k _ => Prod.ext (by simp [lastW_snoc]) rfl
  · show T _ = T _
    rw [show (lastW x.1, x.2.1, x.2.2) = (lastW y.1, y.2.1, y.2.2) from h]
theorem SW2_lev (n o : Net) (T : T3 → Bool) : ∀ m : Nat, (SW2 n o T).lev (sw20 n) m = (lvw n m).map (w3 n o)
  | 0 => by
    show sw20 n = _
    unfold sw20 lvw
    rw [List.map_map]
    rfl
  | m + 1 => by
    show ((SW2 n o T).lev (sw20 n) m).flatMap (SW2 n o T).sc = _
    rw [SW2_lev n o T m]
    show _ = ((lvw n m).flatMap fun w => (follow n (lastW w)).map fun k => w ++ [k]).map (w3 n o)
    have key : ∀ l : List (List Int), (∀ w ∈ l, w ≠ []) → (l.map (w3 n o)).flatMap (SW2 n o T).sc = (l.flatMap fun w => (follow n (lastW w)).map fun k => w ++ [k]).map (w3 n o) := fun l hl => by
      induction l with
      | nil => rfl
      | cons w l ih =>
        rw [List.map_cons, List.flatMap_cons, List.flatMap_cons, List.map_append, ih fun v hv => hl v (List.mem_cons_of_mem _ hv)]
        congr 1
        have hne := hl w List.mem_cons_self
        obtain ⟨u, x, rfl⟩ : ∃ u x, w = u ++ [x] := ⟨w.dropLast, w.getLast hne, (List.dropLast_concat_getLast hne).symm⟩
        show ((follow n (lastW (u ++ [x]))).map fun k => (u ++ [x] ++ [k], behind n (lastW (u ++ [x]), ast n (u ++ [x])), behind o (lastW (u ++ [x]), ast o (u ++ [x])))) = _
        rw [List.map_map]
        refine List.map_congr_left fun k _ => ?_
        show _ = (u ++ [x] ++ [k], ast n (u ++ [x] ++ [k]), ast o (u ++ [x] ++ [k]))
        rw [lastW_snoc, ast_step, ast_step]
    exact key _ fun w hw => by
      obtain ⟨⟨u, x, rfl, _⟩, _⟩ := lvw_way hw
      simp
def SwU2 (n o : Net) (p : WS3) : Prop := InU2 n o (lastW p.1, p.2.1, p.2.2)
theorem SwU2.sc {n o : Net} (hlen : o.roads.length = n.roads.length) {T : T3 → Bool} {p q : WS3} (h : SwU2 n o p) (hq : q ∈ (SW2 n o T).sc p) : SwU2 n o q := by
  obtain ⟨k, hk, rfl⟩ := List.mem_map.mp (show q ∈ (follow n (lastW p.1)).map fun k => (p.1 ++ [k], behind n (lastW p.1, p.2.1), behind o (lastW p.1, p.2.2)) from hq)
  show InU2 n o (lastW (p.1 ++ [k]), behind n (lastW p.1, p.2.1), behind o (lastW p.1, p.2.2))
  rw [lastW_snoc]
  exact InU2.nb hlen h (List.mem_map.mpr ⟨k, hk, rfl⟩)
theorem SwU2.st {n o : Net} (hlen : o.roads.length = n.roads.length) {p : WS3} (hp : p ∈ sw20 n) : SwU2 n o p := by
  obtain ⟨k, hk, rfl⟩ := List.mem_map.mp hp
  exact InU2.st hlen (List.mem_map.mpr ⟨k, hk, rfl⟩)
theorem SW2_ends {n o : Net} (h : n.Ok) (hlen : o.roads.length = n.roads.length) (T : T3 → Bool) : ∃ r, (SW2 n o T).bfs 1000 (sw20 n) [] = some r := by
  obtain ⟨r, h1, _⟩ := Sr.bfs_ends (S := SW2 n o T) (U := uni2 n o) (SwU2 n o) (fun p hp => InU2.uni hp) (fun p hp q hq => hp.sc hlen hq) 1000 (sw20 n) [] (fun p hp => SwU2.st hlen hp) (by simp) (fun _ h => absurd h List.not_mem_nil) (by have := uni2_len h hlen; simp; omega)
  exact ⟨r, h1⟩
noncomputable def shp (n o : Net) (T : T3 → Bool) : Option (List Int) := match (SW2 n o T).bfs 1000 (sw20 n) [] with
  | some (.error p) => some p.1
  | _ => none
def end2 (n o : Net) (T : T3 → Bool) (w : List Int) : Bool := T (pt n o w)
theorem find_map2 (n o : Net) (T : T3 → Bool) (l : List (List Int)) : (l.map (w3 n o)).find? (SW2 n o T).stop = (l.find? (end2 n o T)).map (w3 n o) := by
  rw [List.find?_map]
  rfl
theorem shp_told {n o : Net} (h : n.Ok) (hlen : o.roads.length = n.roads.length) (T : T3 → Bool) : (∀ w, shp n o T = some w → ∃ j, (lvw n j).find? (end2 n o T) = some w ∧ ∀ i, i < j → (lvw n i).find? (end2 n o T) = none) ∧
    (shp n o T = none → ∀ j, (lvw n j).find? (end2 n o T) = none) := by
  obtain ⟨r, hr⟩ := SW2_ends h hlen T
  have t := Sr.bfs_start (SW2_ok n o T) hr
  have none_of : ∀ {i}, ((SW2 n o T).lev (sw20 n) i).find? (SW2 n o T).stop = none → (lvw n i).find? (end2 n o T) = none := fun {i} hi => by
    rw [SW2_lev, find_map2] at hi
    cases e : (lvw n i).find? (end2 n o T) with
    | none => rfl
    | some w => rw [e] at hi; cases hi
  unfold shp
  rw [hr]
  cases r with
  | error p =>
    obtain ⟨j, hj, hlt⟩ := t
    refine ⟨fun w e => ?_, fun e => nomatch (show some p.1 = none from e)⟩
    have e' : p.1 = w := Option.some.inj e
    refine ⟨j, ?_, fun i hi => none_of (hlt i hi)⟩
    rw [SW2_lev, find_map2] at hj
    cases e2 : (lvw n j).find? (end2 n o T) with
    | none => rw [e2] at hj; cases hj
    | some v =>
      rw [e2] at hj
      have := Option.some.inj hj
      rw [← e', ← this]
      rfl
  | ok kn =>
    exact ⟨(fun w e => nomatch (show none = some w from e)), fun _ j => none_of (t.1 j)⟩
theorem shp_len {n o : Net} {T : T3 → Bool} {w : List Int} (h : shp n o T = some w) : w.length ≤ 1001 := by
  unfold shp at h
  split at h
  · rename_i p hp
    cases h
    obtain ⟨g, hg⟩ := Sr.bfs_err (S := SW2 n o T) (P := fun f p => p.1.length + f ≤ 1001) (fun f x hx y hy => by
      obtain ⟨k, hk, rfl⟩ := List.mem_map.mp (show y ∈ (follow n (lastW x.1)).map fun k => (x.1 ++ [k], behind n (lastW x.1, x.2.1), behind o (lastW x.1, x.2.2)) from hy)
      simp at hx ⊢
      omega) 1000 (sw20 n) [] p (fun y hy => by
      obtain ⟨k, hk, rfl⟩ := List.mem_map.mp hy
      simp) hp
    omega
  · cases h
theorem shp_end {n o : Net} (h : n.Ok) (hlen : o.roads.length = n.roads.length) {T : T3 → Bool} {w : List Int} (e : shp n o T = some w) : w ≠ [] ∧ (∀ r ∈ w, 0 ≤ r ∧ r < n.roads.length) ∧ T (pt n o w) = true := by
  obtain ⟨i, h3, _⟩ := (shp_told h hlen T).1 w e
  obtain ⟨⟨u, x, rfl, hu⟩, hr, _⟩ := lvw_way (List.mem_of_find?_eq_some h3)
  have h5 : end2 n o T (u ++ [x]) = true := List.find?_some h3
  exact ⟨by simp, hr, h5⟩
theorem shp_rts {n o : Net} (h : n.Ok) (hlen : o.roads.length = n.roads.length) (T : T3 → Bool) (m : Nat) : (∀ w, (rts n m).find? (end2 n o T) = some w → shp n o T = some w) ∧
    ((rts n m).find? (end2 n o T) = none → ∀ w, shp n o T = some w → m + 1 ≤ w.length) := by
  obtain ⟨t1, t2⟩ := shp_told h hlen T
  constructor
  · intro w hw
    obtain ⟨j, hj, h1, h2⟩ := rts_some hw
    cases e : shp n o T with
    | none => rw [t2 e j] at h1; cases h1
    | some v =>
      obtain ⟨i, h3, h4⟩ := t1 v e
      rw [(first_unique h3 h4 h1 h2).1]
  · intro hn w e
    obtain ⟨i, h3, h4⟩ := t1 w e
    obtain ⟨⟨u, x, rfl, hu⟩, _⟩ := lvw_way (List.mem_of_find?_eq_some h3)
    rcases Nat.lt_or_ge i m with c | c
    · have := List.find?_eq_none.mp hn _ (mem_rts.mpr ⟨i, c, List.mem_of_find?_eq_some h3⟩)
      exact absurd (List.find?_some h3) this
    · simp; omega
theorem shp_none {n o : Net} (h : n.Ok) (hlen : o.roads.length = n.roads.length) {T : T3 → Bool} : shp n o T = none ↔ ∀ p, Rc2 n o p → T p = false := by
  constructor
  · rintro e p ⟨j, w, hw, e2⟩
    have := List.find?_eq_none.mp ((shp_told h hlen T).2 e j) w hw
    rw [← e2]
    simpa [end2] using this
  · intro hT
    cases e : shp n o T with
    | none => rfl
    | some w =>
      obtain ⟨i, h3, _⟩ := (shp_told h hlen T).1 w e
      have hw := List.mem_of_find?_eq_some h3
      have := hT _ ⟨i, w, hw, rfl⟩
      have h4 : end2 n o T w = true := List.find?_some h3
      unfold end2 at h4
      rw [h4] at this
      cases this
/-- the limits on the road are not the same -/
def partT (n o : Net) : T3 → Bool := fun p => !decide (pcs n p.1 p.2.1 = pcs o p.1 p.2.2)
/-! ### shapes -/
def shape (n : Net) : List (List Int) := n.roads.map fun r => [r.s, r.e, r.g.length]
theorem shape_len {n o : Net} (h : shape n = shape o) : o.roads.length = n.roads.length := by
  have := congrArg List.length h
  unfold shape at this
  rw [List.length_map, List.length_map] at this
  exact this.symm
theorem shape_road {n o : Net} (h : shape n = shape o) (r : Int) : (n.road r).s = (o.road r).s ∧ (n.road r).e = (o.road r).e ∧ (n.road r).g.length = (o.road r).g.length := by
  have h1 : (shape n)[r.toNat]? = (shape o)[r.toNat]? := by rw [h]
  unfold shape at h1
  rw [List.getElem?_map, List.getElem?_map] at h1
  unfold Net.road
  rw [List.getD_eq_getElem?_getD, List.getD_eq_getElem?_getD]
  cases e1 : n.roads[r.toNat]? with
  | none =>
    cases e2 : o.roads[r.toNat]? with
    | none => exact ⟨rfl, rfl, rfl⟩
    | some b => rw [e1, e2] at h1; cases h1
  | some a =>
    cases e2 : o.roads[r.toNat]? with
    | none => rw [e1, e2] at h1; cases h1
    | some b =>
      rw [e1, e2] at h1
      have h2 : [a.s, a.e, (a.g.length : Int)] = [b.s, b.e, (b.g.length : Int)] := Option.some.inj h1
      injection h2 with q1 h2
      injection h2 with q2 h2
      injection h2 with q3 h2
      exact ⟨q1, q2, by show a.g.length = b.g.length; omega⟩
theorem shape_follow {n o : Net} (h : shape n = shape o) (r : Int) : follow n r = follow o r := by
  unfold follow
  rw [shape_len h]
  congr 1
  refine List.filter_congr fun k _ => ?_
  rw [(shape_road h k).1, (shape_road h r).2.1]
theorem shape_lvw {n o : Net} (h : shape n = shape o) : ∀ m : Nat, lvw n m = lvw o m
  | 0 => by unfold lvw; rw [shape_len h]
  | m + 1 => by
    show (lvw n m).flatMap _ = (lvw o m).flatMap _
    rw [shape_lvw h m]
    congr 1
    funext w
    rw [shape_follow h]
theorem part_comm {n o : Net} (h : n.Ok) (ho : o.Ok) (hs : shape n = shape o) : shp o n (partT o n) = shp n o (partT n o) := by
  have hl := shape_len hs
  obtain ⟨a1, a2⟩ := shp_told h hl (partT n o)
  obtain ⟨b1, b2⟩ := shp_told ho hl.symm (partT o n)
  have hf : ∀ j, (lvw o j).find? (end2 o n (partT o n)) = (lvw n j).find? (end2 n o (partT n o)) := fun j => by
    rw [shape_lvw hs j]
    congr 1
    funext w
    unfold end2 partT pt
    simp only
    rw [decide_eq_decide.mpr (Iff.intro Eq.symm Eq.symm)]
  cases e : shp n o (partT n o) with
  | none =>
    cases e2 : shp o n (partT o n) with
    | none => rfl
    | some w =>
      obtain ⟨j, h1, _⟩ := b1 w e2
      rw [hf, a2 e j] at h1
      cases h1
  | some v =>
    obtain ⟨i, h3, h4⟩ := a1 v e
    cases e2 : shp o n (partT o n) with
    | none =>
      have := b2 e2 i
      rw [hf, h3] at this
      cases this
    | some w =>
      obtain ⟨j, h1, h2⟩ := b1 w e2
      rw [hf] at h1
      rw [(first_unique h3 h4 h1 fun k hk => by rw [← hf]; exact h2 k hk).1]
/-- whole rows: the first way with other rows is the first with another last row -/
def diffW (n o : Net) (w : List Int) : Bool := !decide (run n 0 w = run o 0 w)
theorem run_last (n : Net) (u : List Int) (x : Int) : run n 0 (u ++ [x]) = run n 0 u ++ [pcs n x (ast n (u ++ [x]))] := by rw [run_snoc, ast_snoc]
theorem diff_snoc (n o : Net) (u : List Int) (x : Int) : diffW n o (u ++ [x]) = (diffW n o u || end2 n o (partT n o) (u ++ [x])) := by
  unfold diffW end2 partT pt
  simp only
  rw [run_last, run_last, lastW_snoc]
  by_cases c : run n 0 u = run o 0 u
  · rw [c]
    have : (run o 0 u ++ [pcs n x (ast n (u ++ [x]))] = run o 0 u ++ [pcs o x (ast o (u ++ [x]))]) ↔ pcs n x (ast n (u ++ [x])) = pcs o x (ast o (u ++ [x])) := by rw [List.append_cancel_left_eq]; simp
    rw [show decide (run o 0 u ++ [pcs n x (ast n (u ++ [x]))] = run o 0 u ++ [pcs o x (ast o (u ++ [x]))]) = decide (pcs n x (ast n (u ++ [x])) = pcs o x (ast o (u ++ [x]))) from decide_eq_decide.mpr this]
    simp
  · have : ¬ (run n 0 u ++ [pcs n x (ast n (u ++ [x]))] = run o 0 u ++ [pcs o x (ast o (u ++ [x]))]) := fun e => c (List.append_inj' e rfl).1
    simp [c, this]
theorem find_both {α : Type} {P Q : α → Bool} {x : α} : ∀ {l : List α}, (∀ y ∈ l, Q y = true → P y = true) → l.find? P = some x → Q x = true → l.find? Q = some x
  | [], _, h, _ => by cases h
  | y :: l, hpq, h, hq => by
    rw [List.find?_cons] at h ⊢
    cases hy : P y with
    | true =>
      rw [hy] at h
      have e : y = x := Option.some.inj h
      subst e
      rw [hq]
    | false =>
      rw [hy] at h
      cases hqy : Q y with
      | true => rw [hpq y List.mem_cons_self hqy] at hy; cases hy
      | false => exact find_both (fun z hz => hpq z (List.mem_cons_of_mem _ hz)) h hq
theorem rts_diff {n o : Net} (m : Nat) : (rts n m).find? (diffW n o) = (rts n m).find? (end2 n o (partT n o)) := by
  have hpq : ∀ y ∈ rts n m, end2 n o (partT n o) y = true → diffW n o y = true := fun y hy hq => by
    obtain ⟨j, _, hw⟩ := mem_rts.mp hy
    obtain ⟨⟨u, x, rfl, _⟩, _⟩ := lvw_way hw
    rw [diff_snoc, hq, Bool.or_true]
  cases e : (rts n m).find? (diffW n o) with
  | none =>
    symm
    rw [List.find?_eq_none]
    intro y hy hq
    exact absurd (hpq y hy hq) (List.find?_eq_none.mp e y hy)
  | some w =>
    symm
    refine find_both hpq e ?_
    obtain ⟨j, hj, h1, h2⟩ := rts_some e
    have hw := List.mem_of_find?_eq_some h1
    have hd := List.find?_some h1
    cases j with
    | zero =>
      obtain ⟨⟨u, x, rfl, hu⟩, _⟩ := lvw_way hw
      have : u = [] := List.length_eq_zero_iff.mp hu
      subst this
      rw [diff_snoc] at hd
      simpa [diffW, run] using hd
    | succ j =>
      obtain ⟨v, hv, hk⟩ := List.mem_flatMap.mp (show w ∈ (lvw n j).flatMap fun w => (follow n (lastW w)).map fun k => w ++ [k] from hw)
      obtain ⟨k, _, rfl⟩ := List.mem_map.mp hk
      rw [diff_snoc] at hd
      have := List.find?_eq_none.mp (h2 j (by omega)) v hv
      simpa [this] using hd
/-! ### idle signs left out -/
def signs (n : Net) : Nat := (n.roads.map fun r => r.g.length).sum
theorem sum_set (f : Road → Nat) (b : Road) : ∀ (l : List Road) (i : Nat) (a : Road), l[i]? = some a → ((l.set i b).map f).sum + f a = (l.map f).sum + f b
  | [], _, _, h => by simp at h
  | r :: l, 0, a, h => by
    have e : r = a := by simpa using h
    subst e
    simp only [List.set_cons_zero, List.map_cons, List.sum_cons]
    omega
  | r :: l, i + 1, a, h => by
    have := sum_set f b l i a (by simpa using h)
    simp only [List.set_cons_succ, List.map_cons, List.sum_cons]
    omega
theorem signs_drop {n : Net} {k : Int} {i : Nat} (h1 : 0 ≤ k) (h2 : k < n.roads.length) (hi : i < (n.road k).g.length) : signs (dropN n k i) + 1 = signs n := by
  have hk : n.roads[k.toNat]? = some (n.road k) := by
    unfold Net.road
    rw [List.getD_eq_getElem?_getD, List.getElem?_eq_getElem (show k.toNat < n.roads.length by omega)]
    rfl
  have h3 := sum_set (fun r => r.g.length) { n.road k with g := (n.road k).g.eraseIdx i } n.roads k.toNat _ hk
  have h4 : ((n.road k).g.eraseIdx i).length + 1 = (n.road k).g.length := by rw [List.length_eraseIdx, if_pos hi]; omega
  have h5 : ((n.roads.set k.toNat { n.road k with g := (n.road k).g.eraseIdx i }).map fun r => r.g.length).sum + (n.road k).g.length = (n.roads.map fun r => r.g.length).sum + ((n.road k).g.eraseIdx i).length := h3
  show ((n.roads.set k.toNat { n.road k with g := (n.road k).g.eraseIdx i }).map fun r => r.g.length).sum + 1 = (n.roads.map fun r => r.g.length).sum
  omega
noncomputable def mi : Nat → Net → Net
  | 0, n => n
  | f + 1, n => match idles n with
    | [] => n
    | p :: _ => mi f (dropN n p.1 p.2.toNat)
theorem signs_24 {n : Net} (h : n.Ok) : signs n ≤ 24 := by
  have key : ∀ l : List Road, (∀ r ∈ l, r.g.length ≤ 3) → (l.map fun r => r.g.length).sum ≤ l.length * 3 := fun l hl => by
    induction l with
    | nil => simp
    | cons r l ih =>
      have := ih fun x hx => hl x (List.mem_cons_of_mem _ hx)
      have := hl r List.mem_cons_self
      simp only [List.map_cons, List.sum_cons, List.length_cons]
      omega
  have := key n.roads fun r hr => (h.roads r hr).l
  have := h.l8
  unfold signs
  omega
/-- leaving out the first idle sign -/
theorem mi_step {n : Net} (h : n.Ok) {p : Int × Int} {l : List (Int × Int)} (e : idles n = p :: l) : (dropN n p.1 p.2.toNat).Ok ∧ signs (dropN n p.1 p.2.toNat) + 1 = signs n ∧ ((0 ≤ p.1 ∧ p.1 < n.roads.length) ∧ 0 ≤ p.2 ∧ p.2.toNat < (n.road p.1).g.length) := by
  obtain ⟨⟨a1, a2⟩, a3, a4, _⟩ := mem_idles (n := n) (p := p) (by rw [e]; exact List.mem_cons_self)
  exact ⟨drop_ok h a1 a2 _, signs_drop a1 a2 (by omega), ⟨a1, a2⟩, a3, by omega⟩
theorem mi_facts : ∀ (f : Nat) {n : Net}, n.Ok → signs n ≤ f → (mi f n).Ok ∧ (mi f n).roads.length = n.roads.length ∧ idles (mi f n) = [] ∧ (mi f n = n ∨ signs (mi f n) < signs n)
  | 0, n, h, hs => by
    refine ⟨h, rfl, ?_, .inl rfl⟩
    cases e : idles n with
    | nil => exact e
    | cons p l =>
      have := (mi_step h e).2.1
      omega
  | f + 1, n, h, hs => by
    show (match idles n with | [] => n | p :: _ => mi f (dropN n p.1 p.2.toNat)).Ok ∧ (match idles n with | [] => n | p :: _ => mi f (dropN n p.1 p.2.toNat)).roads.length = _ ∧ idles (match idles n with | [] => n | p :: _ => mi f (dropN n p.1 p.2.toNat)) = [] ∧
      ((match idles n with | [] => n | p :: _ => mi f (dropN n p.1 p.2.toNat)) = n ∨ signs (match idles n with | [] => n | p :: _ => mi f (dropN n p.1 p.2.toNat)) < signs n)
    cases e : idles n with
    | nil => exact ⟨h, rfl, e, .inl rfl⟩
    | cons p l =>
      obtain ⟨s1, s2, _⟩ := mi_step h e
      obtain ⟨r1, r2, r3, r4⟩ := mi_facts f s1 (by omega)
      refine ⟨r1, r2.trans (drop_len _ _ _), r3, .inr ?_⟩
      rcases r4 with r4 | r4
      · simp only
        rw [r4]; omega
      · simp only
        omega
theorem shape_signs {n o : Net} (h : shape n = shape o) : signs n = signs o := by
  unfold signs
  have e : ∀ m : Net, (m.roads.map fun r => r.g.length) = (shape m).map fun l => (l.getD 2 0).toNat := fun m => by
    unfold shape
    rw [List.map_map]
    refine List.map_congr_left fun r _ => ?_
    simp
  rw [e, e, h]
theorem shape_mi {n : Net} (h : n.Ok) : decide (shape n = shape (mi 24 n)) = decide (mi 24 n = n) := by
  obtain ⟨_, _, _, r4⟩ := mi_facts 24 h (signs_24 h)
  by_cases c : mi 24 n = n
  · rw [c]; simp
  · have : ¬ shape n = shape (mi 24 n) := fun e => by
      have := shape_signs e
      rcases r4 with r4 | r4
      · exact c r4
      · omega
    rw [decide_eq_false c, decide_eq_false this]
theorem pieces_sum (n : Net) : (n.roads.map fun r => (r.g.length : Int) + 1).sum = signs n + n.roads.length := by
  unfold signs
  generalize n.roads = l
  induction l with
  | nil => rfl
  | cons r l ih =>
    simp only [List.map_cons, List.sum_cons, ih, List.length_cons]
    omega
theorem cut_init {α : Type} (xs : List α) : LS.cut xs none (some (-1)) = xs.dropLast := by
  have e1 : slI xs.length 0 none = 0 := rfl
  have e2 : slI xs.length xs.length (some (-1)) = xs.length - 1 := by
    show (if (-1 : Int) < 0 then (max (-1 + (xs.length : Int)) 0).toNat else min (-1 : Int).toNat xs.length) = _
    rw [if_pos (by decide)]
    omega
  unfold LS.cut
  rw [e1, e2, List.drop_zero, Nat.sub_zero, List.dropLast_eq_take]
end LS

set_option Elab.async false
set_option linter.all false
set_option maxRecDepth 100000
set_option maxHeartbeats 1000000
/-! LSv: a cap. -/
namespace LS
open PySem PySem.Spec PyProof.Rows L2
/-! ### the last of a sorted list, the greatest -/
theorem usort_ne {α : Type} [DecidableEq α] {le : α → α → Bool} {l : List α} (h : l ≠ []) : usort le l ≠ [] := by
  cases l with
  | nil => exact absurd rfl h
  | cons x l => exact List.ne_nil_of_mem ((mem_usort x (x :: l)).mpr List.mem_cons_self)
theorem last_top {l : List Int} (s : l.Pairwise (fun a b => a ≤ b)) : ∀ x ∈ l, x ≤ l.getLastD 0 := fun x hx => by
  cases h : l with
  | nil => rw [h] at hx; cases hx
  | cons y m =>
    have hne : l ≠ [] := by rw [h]; simp
    have e : l = l.dropLast ++ [l.getLast hne] := (List.dropLast_concat_getLast hne).symm
    have e2 : l.getLastD 0 = l.getLast hne := by
      rw [List.getLastD_eq_getLast?, List.getLast?_eq_some_getLast hne]
      rfl
    rw [← h, e2]
    rw [e] at s hx
    rcases List.mem_append.mp hx with hx | hx
    · exact (List.pairwise_append.mp s).2.2 x hx _ (by simp)
    · rw [List.mem_singleton.mp hx]
      exact Int.le_refl _
theorem last_mem {l : List Int} (h : l ≠ []) : l.getLastD 0 ∈ l := by
  rw [List.getLastD_eq_getLast?, List.getLast?_eq_some_getLast h]
  exact List.getLast_mem h
theorem usort_le (l : List Int) : (usort leI l).Pairwise (fun a b => a ≤ b) := (usort_sorted ordI l).imp fun h => by
  have := h.1
  simpa [leI] using this
theorem maxI_top : ∀ (l : List Int) (x : Int), maxI x l ∈ x :: l ∧ ∀ y ∈ x :: l, y ≤ maxI x l
  | [], x => ⟨by simp [maxI], fun y hy => by simp at hy; simp [maxI, hy]⟩
  | z :: l, x => by
    obtain ⟨h1, h2⟩ := maxI_top l (if z > x then z else x)
    have e : maxI x (z :: l) = maxI (if z > x then z else x) l := rfl
    rw [e]
    have h3 := h2 _ List.mem_cons_self
    have h4 : x ≤ (if z > x then z else x) ∧ z ≤ (if z > x then z else x) := by split <;> omega
    refine ⟨?_, fun y hy => ?_⟩
    · rcases List.mem_cons.mp h1 with q | q
      · rw [q]; split <;> simp
      · simp [q]
    · rcases List.mem_cons.mp hy with q | q
      · rw [q]
        exact Int.le_trans h4.1 h3
      · rcases List.mem_cons.mp q with q | q
        · rw [q]
          exact Int.le_trans h4.2 h3
        · exact h2 y (List.mem_cons_of_mem _ q)
theorem max_some (l : List Int) (h : l ≠ []) : ∃ m, b1D .max (.lst (l.map .int)) = some (.v .cl (.int m)) ∧ m ∈ l ∧ ∀ x ∈ l, x ≤ m := by
  cases l with
  | nil => exact absurd rfl h
  | cons x xs =>
    obtain ⟨h1, h2⟩ := maxI_top xs x
    refine ⟨maxI x xs, ?_, h1, h2⟩
    show (match intsD (xs.map .int) with
      | some ns => cl (.int (maxI x ns))
      | none => none) = _
    rw [ints_map]
    rfl
/-! ### limits are from 1 to 13 -/
theorem shown_bd {b x : Int} (hb : 1 ≤ b ∧ b ≤ 13) (hx : okSt x) : 1 ≤ shown b x ∧ shown b x ≤ 13 := by
  unfold shown
  have := hx.1
  have := hx.2
  split <;> omega
theorem pcs_bd {n : Net} (h : n.Ok) {r s : Int} (h1 : 0 ≤ r) (h2 : r < n.roads.length) (hs : okSt s) : ∀ x ∈ pcs n r s, 1 ≤ x ∧ x ≤ 13 := fun x hx => by
  unfold pcs at hx
  obtain ⟨y, hy, rfl⟩ := List.mem_map.mp hx
  refine shown_bd (rest_pos h r) ?_
  rcases List.mem_cons.mp hy with rfl | hy
  · exact hs
  · exact (h.roads _ (Net.road_mem h1 h2)).g y hy
theorem pcs_lenV (n : Net) (r s : Int) : (pcs n r s).length = (n.road r).g.length + 1 := by simp [pcs]
theorem getD_mem {l : List Int} {j : Nat} (h : j < l.length) : l.getD j 0 ∈ l := by
  rw [List.getD_eq_getElem?_getD, List.getElem?_eq_getElem h]
  exact List.getElem_mem ..
theorem possJ_bd {n : Net} (h : n.Ok) {r : Int} (h1 : 0 ≤ r) (h2 : r < n.roads.length) {j : Nat} (hj : j ≤ (n.road r).g.length) : ∀ x ∈ poss n r j, 1 ≤ x ∧ x ≤ 13 := fun x hx => by
  obtain ⟨s, hs, rfl⟩ := List.mem_map.mp ((mem_usort x _).mp hx)
  exact pcs_bd h h1 h2 (sts_ok h hs) _ (getD_mem (by rw [pcs_lenV]; omega))
theorem possJ_ne {n : Net} (h : n.Ok) {r : Int} (h1 : 0 ≤ r) (h2 : r < n.roads.length) (j : Nat) : poss n r j ≠ [] := usort_ne (by simpa using sts_ne h h1 h2)
noncomputable def grt (n : Net) (r : Int) (j : Nat) : Int := (poss n r j).getLastD 0
theorem grt_mem {n : Net} (h : n.Ok) {r : Int} (h1 : 0 ≤ r) (h2 : r < n.roads.length) (j : Nat) : grt n r j ∈ poss n r j := last_mem (possJ_ne h h1 h2 j)
theorem grt_bd {n : Net} (h : n.Ok) {r : Int} (h1 : 0 ≤ r) (h2 : r < n.roads.length) {j : Nat} (hj : j ≤ (n.road r).g.length) : 1 ≤ grt n r j ∧ grt n r j ≤ 13 := possJ_bd h h1 h2 hj _ (grt_mem h h1 h2 j)
theorem grt_top {n : Net} {r : Int} {j : Nat} {x : Int} (hx : x ∈ poss n r j) : x ≤ grt n r j := last_top (usort_le _) x hx
theorem grt_ix {n : Net} (h : n.Ok) {r : Int} (h1 : 0 ≤ r) (h2 : r < n.roads.length) (j : Nat) : ixAt ((poss n r j).map D.int) (-1) = some (.int (grt n r j)) := ixAt_lastD _ 0 (possJ_ne h h1 h2 j)
/-! ### all pieces -/
def allp (n : Net) : List (Int × Int) := (List.range n.roads.length).flatMap fun (k : Nat) => (List.range ((n.road k).g.length + 1)).map fun (j : Nat) => ((k : Int), (j : Int))
theorem mem_allp {n : Net} {p : Int × Int} : p ∈ allp n ↔ (0 ≤ p.1 ∧ p.1 < n.roads.length) ∧ 0 ≤ p.2 ∧ p.2 ≤ (n.road p.1).g.length := by
  unfold allp
  rw [List.mem_flatMap]
  constructor
  · rintro ⟨k, hk, hp⟩
    obtain ⟨j, hj, rfl⟩ := List.mem_map.mp hp
    have hk' : k < n.roads.length := by simpa using hk
    have hj' : j < (n.road k).g.length + 1 := by simpa using hj
    exact ⟨⟨by show (0 : Int) ≤ k; omega, by show (k : Int) < _; omega⟩, by show (0 : Int) ≤ j; omega, by show (j : Int) ≤ ((n.road (k : Int)).g.length : Int); omega⟩
  · rintro ⟨⟨a1, a2⟩, a3, a4⟩
    refine ⟨p.1.toNat, by simp; omega, ?_⟩
    rw [show ((p.1.toNat : Nat) : Int) = p.1 by omega]
    exact List.mem_map.mpr ⟨p.2.toNat, by simp; omega, Prod.ext rfl (by show ((p.2.toNat : Nat) : Int) = p.2; omega)⟩
theorem allp_sorted (n : Net) : (allp n).Pairwise (fun p q => leP p q = true ∧ p ≠ q) := by
  unfold allp
  rw [List.flatMap_def]
  rw [List.pairwise_flatten]
  refine ⟨fun l hl => ?_, ?_⟩
  · obtain ⟨k, hk, rfl⟩ := List.mem_map.mp hl
    rw [List.pairwise_map]
    refine List.pairwise_lt_range.imp fun {a b} hab => ⟨leP_iff.mpr (.inr ⟨rfl, by show (a : Int) ≤ b; omega⟩), fun e => ?_⟩
    have := congrArg Prod.snd e
    simp at this
    omega
  · rw [List.pairwise_map]
    refine List.pairwise_lt_range.imp fun {a b} hab p hp q hq => ?_
    obtain ⟨i, hi, rfl⟩ := List.mem_map.mp hp
    obtain ⟨j, hj, rfl⟩ := List.mem_map.mp hq
    refine ⟨leP_iff.mpr (.inl (by show (a : Int) < b; omega)), fun e => ?_⟩
    have := congrArg Prod.fst e
    simp at this
    omega
theorem allp_len {n : Net} (h : n.Ok) : (allp n).length ≤ 32 := by
  unfold allp
  rw [List.length_flatMap]
  have key : ∀ l : List Nat, (∀ k ∈ l, k < n.roads.length) → (l.map fun (k : Nat) => ((List.range ((n.road k).g.length + 1)).map fun (j : Nat) => ((k : Int), (j : Int))).length).sum ≤ l.length * 4 := fun l hl => by
    induction l with
    | nil => simp
    | cons k l ih =>
      have := ih fun x hx => hl x (List.mem_cons_of_mem _ hx)
      have hk := hl k List.mem_cons_self
      have hr := (h.roads _ (Net.road_mem (n := n) (i := (k : Int)) (by omega) (by omega))).l
      rw [List.map_cons, List.sum_cons, List.length_cons, List.length_map, List.length_range]
      omega
  have := key (List.range n.roads.length) fun k hk => by simpa using hk
  rw [List.length_range] at this
  have := h.l8
  omega
theorem allp_ne {n : Net} (h : n.Ok) : allp n ≠ [] := List.ne_nil_of_mem (mem_allp (p := (0, 0)).mpr ⟨⟨by simp, by have := h.l1; show (0 : Int) < _; omega⟩, by simp, by show (0 : Int) ≤ _; omega⟩)
noncomputable def slw (n : Net) (c : Int) : List (Int × Int) := (allp n).filter fun p => decide (c < grt n p.1 p.2.toNat)
theorem mem_slw {n : Net} {c : Int} {p : Int × Int} : p ∈ slw n c ↔ p ∈ allp n ∧ c < grt n p.1 p.2.toNat := by
  unfold slw
  rw [List.mem_filter, decide_eq_true_eq]
theorem slw_usort (n : Net) (c : Int) : usort leP (slw n c) = slw n c := by
  have s := (allp_sorted n).filter fun p => decide (c < grt n p.1 p.2.toNat)
  exact (usort_of ordP (s.imp fun h => h.1) (List.nodup_iff_pairwise_ne.mpr (s.imp fun h => h.2)) fun x => Iff.rfl).symm
theorem slw_len {n : Net} (h : n.Ok) (c : Int) : (slw n c).length ≤ 32 := Nat.le_trans (List.length_filter_le _ _) (allp_len h)
def lcapOk (n : Net) (m : Int) : Prop := (∃ p ∈ allp n, m = grt n p.1 p.2.toNat) ∧ ∀ p ∈ allp n, grt n p.1 p.2.toNat ≤ m
/-! ### two nets, a cap -/
def capp (c x : Int) : Int := if c < x then c else x
noncomputable def ssp (n o : Net) (c : Int) : Bool := (found2 n o).all fun p => decide ((pcs n p.1 p.2.1).map (capp c) = (pcs o p.1 p.2.2).map (capp c))
theorem ssp_iff {n o : Net} (h : n.Ok) (hlen : o.roads.length = n.roads.length) {c : Int} : ssp n o c = true ↔ ∀ p, Rc2 n o p → (pcs n p.1 p.2.1).map (capp c) = (pcs o p.1 p.2.2).map (capp c) := by
  unfold ssp
  rw [List.all_eq_true]
  exact forall_congr' fun p => by rw [(found2_is h hlen).2.2, decide_eq_true_eq]
theorem capp_13 {x : Int} (h : x ≤ 13) : capp 13 x = x := by unfold capp; rw [if_neg (by omega)]
theorem capp_1 {x : Int} (h : 1 ≤ x) : capp 1 x = 1 := by unfold capp; split <;> omega
theorem capp_less {c d x : Int} (h : c ≤ d) : capp c (capp d x) = capp c x := by unfold capp; (repeat' split) <;> omega
theorem map_id_of {l : List Int} {f : Int → Int} (h : ∀ x ∈ l, f x = x) : l.map f = l := by
  induction l with
  | nil => rfl
  | cons a l ih => rw [List.map_cons, h a (by simp), ih fun x hx => h x (by simp [hx])]
theorem ssp_13 {n o : Net} (h : n.Ok) (ho : o.Ok) (hs : shape n = shape o) : ssp n o 13 = (shp n o (partT n o)).isNone := by
  have hlen := shape_len hs
  rw [Bool.eq_iff_iff, ssp_iff h hlen, Option.isNone_iff_eq_none, shp_none h hlen]
  refine forall_congr' fun p => forall_congr' fun hp => ?_
  obtain ⟨⟨⟨a1, a2⟩, a3⟩, ⟨⟨_, a4⟩, a5⟩⟩ := rc2_inU hlen hp
  simp only at a1 a2 a3 a4 a5
  rw [map_id_of fun x hx => capp_13 (pcs_bd h a1 a2 (state_ok h a3) x hx).2, map_id_of fun x hx => capp_13 (pcs_bd ho a1 a4 (state_ok ho a5) x hx).2]
  simp [partT]
theorem ssp_mono {n o : Net} (h : n.Ok) (hlen : o.roads.length = n.roads.length) {c d : Int} (hcd : c ≤ d) (hd : ssp n o d = true) : ssp n o c = true := by
  rw [ssp_iff h hlen] at hd ⊢
  intro p hp
  have := congrArg (List.map (capp c)) (hd p hp)
  rw [List.map_map, List.map_map] at this
  have e : capp c ∘ capp d = capp c := funext fun x => capp_less hcd
  rwa [e] at this
theorem ssp_1 {n o : Net} (h : n.Ok) (ho : o.Ok) (hs : shape n = shape o) : ssp n o 1 = true := by
  have hlen := shape_len hs
  rw [ssp_iff h hlen]
  intro p hp
  obtain ⟨⟨⟨a1, a2⟩, a3⟩, ⟨⟨_, a4⟩, a5⟩⟩ := rc2_inU hlen hp
  simp only at a1 a2 a3 a4 a5
  have e1 : (pcs n p.1 p.2.1).map (capp 1) = List.replicate (pcs n p.1 p.2.1).length 1 := by
    rw [List.eq_replicate_iff]
    exact ⟨by simp, fun b hb => by
      obtain ⟨x, hx, rfl⟩ := List.mem_map.mp hb
      exact capp_1 (pcs_bd h a1 a2 (state_ok h a3) x hx).1⟩
  have e2 : (pcs o p.1 p.2.2).map (capp 1) = List.replicate (pcs o p.1 p.2.2).length 1 := by
    rw [List.eq_replicate_iff]
    exact ⟨by simp, fun b hb => by
      obtain ⟨x, hx, rfl⟩ := List.mem_map.mp hb
      exact capp_1 (pcs_bd ho a1 a4 (state_ok ho a5) x hx).1⟩
  rw [e1, e2, pcs_lenV, pcs_lenV, (shape_road hs p.1).2.2]
def sw3 (p : T3) : T3 := (p.1, p.2.2, p.2.1)
theorem rc2_swap {n o : Net} (hs : shape n = shape o) {p : T3} (hp : Rc2 n o p) : Rc2 o n (sw3 p) := by
  obtain ⟨j, w, hw, rfl⟩ := hp
  exact ⟨j, w, shape_lvw hs j ▸ hw, rfl⟩
theorem ssp_comm {n o : Net} (h : n.Ok) (ho : o.Ok) (hs : shape n = shape o) (c : Int) : ssp o n c = ssp n o c := by
  have hlen := shape_len hs
  rw [Bool.eq_iff_iff, ssp_iff h hlen, ssp_iff ho hlen.symm]
  constructor
  · intro q p hp
    exact (q (sw3 p) (rc2_swap hs hp)).symm
  · intro q p hp
    exact (q (sw3 p) (rc2_swap hs.symm hp)).symm
theorem rc2_self {n : Net} {p : T3} (hp : Rc2 n n p) : p.2.1 = p.2.2 := by
  obtain ⟨j, w, hw, rfl⟩ := hp
  rfl
theorem ssp_self {n : Net} (h : n.Ok) (c : Int) : ssp n n c = true := by
  rw [ssp_iff h rfl]
  intro p hp
  rw [rc2_self hp]
/-! ### lists with places -/
theorem enumFrom_getV : ∀ (ds : List D) (k i : Nat), (enumFrom k ds)[i]? = (ds[i]?).map fun d => .tup [.int ((k + i : Nat) : Int), d]
  | [], _, _ => by simp [enumFrom]
  | d :: ds, k, 0 => by simp [enumFrom]
  | d :: ds, k, i + 1 => by
    simp only [enumFrom, List.getElem?_cons_succ]
    rw [enumFrom_getV ds (k + 1) i]
    rw [show k + 1 + i = k + (i + 1) by omega]
theorem enum_of {α : Type} (f : α → D) (l : List α) (a : α) : enumFrom 0 (l.map f) = (List.range l.length).map fun (i : Nat) => .tup [.int i, f (l.getD i a)] := by
  apply List.ext_getElem?
  intro i
  rw [enumFrom_getV, List.getElem?_map, List.getElem?_map]
  by_cases h : i < l.length
  · rw [List.getElem?_eq_getElem h, List.getElem?_range h]
    simp [h]
  · rw [List.getElem?_eq_none (by omega), List.getElem?_eq_none (by simp; omega)]
    rfl
theorem ixAt_mapD {α : Type} (f : α → D) (l : List α) (a : α) {i : Nat} (h : i < l.length) : ixAt (l.map f) (i : Int) = some (f (l.getD i a)) := by
  rw [ixAt_pos (by omega), List.getElem?_map, show ((i : Int)).toNat = i by omega, List.getElem?_eq_getElem h, List.getD_eq_getElem?_getD, List.getElem?_eq_getElem h]
  rfl
/-! ### pairs in a list -/
theorem eqD_pd (p q : Int × Int) : eqD (pd p) (pd q) = decide (p = q) := by
  obtain ⟨a, b⟩ := p
  obtain ⟨c, d⟩ := q
  show (eqD (.int a) (.int c) && (eqD (.int b) (.int d) && true)) = _
  simp only [eqD, Bool.and_true]
  by_cases h1 : a = c <;> by_cases h2 : b = d <;> simp [h1, h2]
theorem inD_pd (p : Int × Int) : ∀ l : List (Int × Int), inD (pd p) (l.map pd) = decide (p ∈ l)
  | [] => by simp [inD]
  | q :: l => by
    have ih := inD_pd p l
    unfold inD at ih ⊢
    rw [List.map_cons, List.any_cons, ih, eqD_pd]
    by_cases c : q = p
    · subst c; simp
    · have c' : p ≠ q := fun e => c e.symm
      simp [c, c']
theorem cop_nin_pdl (p : Int × Int) (l : List (Int × Int)) : cop .nin (pd p) (.lst (l.map pd)) = some (!decide (p ∈ l)) := by
  show (if (plain (pd p) && plains (l.map pd) && Nat.ble (dep (pd p)) 60) = true then some (!inD (pd p) (l.map pd)) else none) = _
  rw [if_pos (by rw [plains_pd]; rfl), inD_pd]
theorem cop_inn_pdl (p : Int × Int) (l : List (Int × Int)) : cop .inn (pd p) (.lst (l.map pd)) = some (decide (p ∈ l)) := by
  show (if (plain (pd p) && plains (l.map pd) && Nat.ble (dep (pd p)) 60) = true then some (inD (pd p) (l.map pd)) else none) = _
  rw [if_pos (by rw [plains_pd]; rfl), inD_pd]
theorem deps_pd (l : List (Int × Int)) : deps (l.map pd) ≤ 1 := by
  induction l with
  | nil => simp [deps]
  | cons a l ih => simp only [List.map_cons, deps, pd, dep]; omega
theorem cop_ne_pdl (l : List (Int × Int)) : cop .ne (.lst (l.map pd)) (.lst (l.map pd)) = some false := cop_ne_self (by simpa [plain] using plains_pd l) (by
  have := deps_pd l
  simp only [dep]
  omega)
/-! ### the drivers of a way -/
theorem mem_followV {n : Net} {r k : Int} (h1 : 0 ≤ k) (h2 : k < n.roads.length) (h3 : (n.road k).s = (n.road r).e) : k ∈ follow n r := mem_follow.mpr ⟨h1, h2, h3⟩
theorem run_rc {n : Net} : ∀ (w : List Int) (s : Int), (∀ r u, w = r :: u → Rc n (r, s)) → (∀ r ∈ w, 0 ≤ r ∧ r < n.roads.length) → joins n w = true → ∀ k, k < w.length → ∃ t, Rc n (w.getD k 0, t) ∧ (run n s w).getD k [] = pcs n (w.getD k 0) t
  | [], _, _, _, _, k, hk => absurd hk (by simp)
  | r :: w, s, h0, hr, hj, 0, _ => ⟨s, h0 r w rfl, rfl⟩
  | r :: w, s, h0, hr, hj, k + 1, hk => by
    cases w with
    | nil => simp at hk
    | cons q w =>
      have hj' : (n.road q).s = (n.road r).e ∧ joins n (q :: w) = true := by
        have : (decide ((n.road r).e = (n.road q).s) && joins n (q :: w)) = true := hj
        simp at this
        exact ⟨this.1.symm, this.2⟩
      obtain ⟨q1, q2⟩ := hr q (by simp)
      exact run_rc (q :: w) (behind n (r, s)) (fun x u e => by
        injection e with e1 e2
        subst e1
        exact (h0 r (q :: w) rfl).nb (List.mem_map.mpr ⟨q, mem_followV q1 q2 hj'.1, rfl⟩)) (fun x hx => hr x (List.mem_cons_of_mem _ hx)) hj'.2 k (by simpa using hk)
theorem way_rc {n : Net} {j : Nat} {w : List Int} (hw : w ∈ lvw n j) {k : Nat} (hk : k < w.length) : ∃ t, Rc n (w.getD k 0, t) ∧ (run n 0 w).getD k [] = pcs n (w.getD k 0) t := by
  obtain ⟨_, hr, hjo⟩ := lvw_way hw
  exact run_rc w 0 (fun r u e => Rc.st (mem_st0.mpr ⟨hr r (by rw [e]; simp), rfl⟩)) hr hjo k hk
end LS

set_option Elab.async false
set_option linter.all false
set_option maxRecDepth 100000
set_option maxHeartbeats 1000000
/-! LSx: closed roads. -/
namespace LS
open PySem PySem.Spec PyProof.Rows L2
def closeN (n : Net) (rs : List Int) : Net := rs.foldl (fun m r => setN m r ((m.road r).g ++ [0])) n
theorem closeN_snoc (n : Net) (rs : List Int) (r : Int) : closeN n (rs ++ [r]) = setN (closeN n rs) r (((closeN n rs).road r).g ++ [0]) := by
  unfold closeN
  rw [List.foldl_append]
  rfl
/-- the roads that can be closed -/
def good (n : Net) : List Int := ((List.range n.roads.length).filter fun (k : Nat) => decide ((n.road k).g.length < 3)).map fun (k : Nat) => (k : Int)
theorem mem_good {n : Net} {r : Int} : r ∈ good n ↔ (0 ≤ r ∧ r < n.roads.length) ∧ (n.road r).g.length < 3 := by
  unfold good
  rw [List.mem_map]
  constructor
  · rintro ⟨k, hk, rfl⟩
    obtain ⟨h1, h2⟩ := List.mem_filter.mp hk
    have h1' : k < n.roads.length := by simpa using h1
    exact ⟨⟨by omega, by omega⟩, of_decide_eq_true h2⟩
  · rintro ⟨⟨h1, h2⟩, h3⟩
    refine ⟨r.toNat, List.mem_filter.mpr ⟨by simp; omega, ?_⟩, by omega⟩
    rw [show ((r.toNat : Nat) : Int) = r by omega]
    exact decide_eq_true h3
theorem good_asc (n : Net) : (good n).Pairwise (fun a b => a < b) := by
  unfold good
  rw [List.pairwise_map]
  exact (List.pairwise_lt_range.filter _).imp fun {a b} h => by show (a : Int) < b; omega
theorem good_len (n : Net) : (good n).length ≤ n.roads.length := by
  unfold good
  rw [List.length_map]
  exact Nat.le_trans (List.length_filter_le _ _) (by simp)
structure Cl (n : Net) (rs : List Int) (m : Net) : Prop where
  ok : m.Ok
  len : m.roads.length = n.roads.length
  fast : m.fast = n.fast
  slow : m.slow = n.slow
  keeps : m.keeps = n.keeps
  road : ∀ r, 0 ≤ r → m.road r = if r ∈ rs then { n.road r with g := (n.road r).g ++ [0] } else n.road r
theorem close_cl : ∀ (rs : List Int) {n : Net}, n.Ok → (∀ r ∈ rs, r ∈ good n) → rs.Nodup → Cl n rs (closeN n rs)
  | [], n, h, _, _ => ⟨h, rfl, rfl, rfl, rfl, fun r _ => by simp [closeN]⟩
  | k :: rs, n, h, hg, nd => by
    obtain ⟨⟨k1, k2⟩, k3⟩ := mem_good.mp (hg k (by simp))
    obtain ⟨hk, nd'⟩ := List.nodup_cons.mp nd
    have hok : (setN n k ((n.road k).g ++ [0])).Ok := setN_ok h k1 k2 (by rw [List.length_append, List.length_singleton]; omega) fun x hx => by
      rcases List.mem_append.mp hx with hx | hx
      · exact (h.roads _ (Net.road_mem k1 k2)).g x hx
      · rw [List.mem_singleton.mp hx]; exact ⟨by omega, by omega⟩
    have hlen := setN_len n k ((n.road k).g ++ [0])
    have hne : ∀ r, 0 ≤ r → r ≠ k → (setN n k ((n.road k).g ++ [0])).road r = n.road r := fun r h1 h2 => setN_ne k1 h1 h2
    have hse : (setN n k ((n.road k).g ++ [0])).road k = { n.road k with g := (n.road k).g ++ [0] } := setN_self k1 k2
    have ih := close_cl rs hok (fun r hr => by
      obtain ⟨⟨a1, a2⟩, a3⟩ := mem_good.mp (hg r (List.mem_cons_of_mem _ hr))
      have : r ≠ k := fun e => hk (e ▸ hr)
      exact mem_good.mpr ⟨⟨a1, by rw [hlen]; exact a2⟩, by rw [hne r a1 this]; exact a3⟩) nd'
    refine ⟨ih.ok, ih.len.trans hlen, ih.fast, ih.slow, ih.keeps, fun r hr => ?_⟩
    show (closeN (setN n k ((n.road k).g ++ [0])) rs).road r = _
    rw [ih.road r hr]
    by_cases e : r = k
    · subst e
      rw [if_neg hk, if_pos (by simp), hse]
    · rw [hne r hr e]
      by_cases q : r ∈ rs
      · rw [if_pos q, if_pos (by simp [q])]
      · rw [if_neg q, if_neg (by simp [q, e])]
theorem sub_good {n : Net} {rs : List Int} (s : rs.Sublist (good n)) : (∀ r ∈ rs, r ∈ good n) ∧ rs.Pairwise (fun a b => a < b) ∧ rs.Nodup := by
  have h1 := (good_asc n).sublist s
  exact ⟨fun r hr => s.subset hr, h1, List.nodup_iff_pairwise_ne.mpr (h1.imp fun h => by omega)⟩
theorem close_sub {n : Net} (h : n.Ok) {rs : List Int} (s : rs.Sublist (good n)) : Cl n rs (closeN n rs) := close_cl rs h (sub_good s).1 (sub_good s).2.2
theorem sub_of {n : Net} {rs : List Int} (s : rs.Pairwise (fun a b => a < b)) (h : ∀ r ∈ rs, r ∈ good n) : rs.Sublist (good n) := by
  have e : rs = (good n).filter fun r => decide (r ∈ rs) := by
    have s2 : ((good n).filter fun r => decide (r ∈ rs)).Pairwise (fun a b => a < b) := (good_asc n).filter _
    refine List.Perm.eq_of_pairwise (le := fun a b => a < b) (fun a b _ _ h1 h2 => by omega) s s2 ?_
    refine (List.perm_ext_iff_of_nodup (List.nodup_iff_pairwise_ne.mpr (s.imp fun h => by omega)) (List.nodup_iff_pairwise_ne.mpr (s2.imp fun h => by omega))).mpr fun a => ?_
    rw [List.mem_filter, decide_eq_true_eq]
    exact ⟨fun q => ⟨h a q, q⟩, fun q => q.2⟩
  rw [e]
  exact List.filter_sublist
theorem asc_filter {n : Net} {rs : List Int} (s : rs.Sublist (good n)) (p : Int → Bool) : (rs.filter p).Sublist (good n) := List.Sublist.trans List.filter_sublist s
/-! ### the drivers of a closed net -/
/-- a net with the same roads in which less is carried on -/
structure Thin (n m : Net) : Prop where
  len : m.roads.length = n.roads.length
  fol : ∀ r : Int, 0 ≤ r → r < n.roads.length → ∀ k, k ∈ follow m r → k ∈ follow n r
  beh : ∀ r s : Int, 0 ≤ r → r < n.roads.length → Rc n (r, s) → behind m (r, s) = 0 ∨ behind m (r, s) = behind n (r, s)
theorem Thin.rc {n m : Net} (t : Thin n m) {p : Int × Int} (h : Rc m p) : Rc n p := by
  obtain ⟨j, hj⟩ := h
  induction j generalizing p with
  | zero =>
    refine Rc.st (mem_st0.mpr ?_)
    have := mem_st0.mp hj
    rwa [t.len] at this
  | succ j ih =>
    obtain ⟨q, hq, hp⟩ := List.mem_flatMap.mp (show p ∈ ((SP m).lev (st0 m) j).flatMap (nb m) from hj)
    have hq2 := ih hq
    obtain ⟨k, hk, rfl⟩ := List.mem_map.mp hp
    obtain ⟨q1, q2⟩ := hq2.inU.1
    have hk2 := t.fol q.1 q1 q2 k hk
    rcases t.beh q.1 q.2 q1 q2 hq2 with e | e
    · have e' : behind m q = 0 := e
      rw [e']
      obtain ⟨k1, k2, _⟩ := follow_mem hk2
      exact Rc.st (mem_st0.mpr ⟨⟨k1, k2⟩, rfl⟩)
    · have e' : behind m q = behind n q := e
      rw [e']
      exact hq2.nb (List.mem_map.mpr ⟨k, hk2, rfl⟩)
theorem Cl.follow {n m : Net} {rs : List Int} (c : Cl n rs m) {r k : Int} (hr : 0 ≤ r) : k ∈ follow m r ↔ k ∈ LS.follow n r := by
  rw [mem_follow, mem_follow, c.len]
  refine ⟨fun ⟨h1, h2, h3⟩ => ⟨h1, h2, ?_⟩, fun ⟨h1, h2, h3⟩ => ⟨h1, h2, ?_⟩⟩
  · rw [c.road k h1, c.road r hr] at h3
    split at h3 <;> split at h3 <;> exact h3
  · rw [c.road k h1, c.road r hr]
    split <;> split <;> exact h3
theorem last_zero (g : List Int) (s : Int) : (g ++ [0]).getLastD s = 0 := by simp [List.getLastD_eq_getLast?]
theorem Cl.leave {n m : Net} {rs : List Int} (c : Cl n rs m) {r : Int} (hr : 0 ≤ r) (s : Int) : leaveS m r s = if r ∈ rs then 0 else leaveS n r s := by
  unfold leaveS
  rw [c.road r hr]
  split
  · exact last_zero _ _
  · rfl
theorem Cl.behind {n m : Net} {rs : List Int} (c : Cl n rs m) {r : Int} (hr : 0 ≤ r) (s : Int) : behind m (r, s) = if r ∈ rs then 0 else LS.behind n (r, s) := by
  unfold LS.behind goOver
  rw [c.leave hr s, c.keeps]
  by_cases q : r ∈ rs
  · rw [if_pos q, if_pos q]
    split <;> rfl
  · rw [if_neg q, if_neg q]
theorem Cl.rest {n m : Net} {rs : List Int} (c : Cl n rs m) {r : Int} (hr : 0 ≤ r) : rest m r = LS.rest n r := by
  unfold LS.rest
  rw [c.road r hr, c.fast, c.slow]
  split <;> rfl
theorem Cl.thin {n m : Net} {rs : List Int} (c : Cl n rs m) : Thin n m := ⟨c.len, fun r h1 h2 k hk => (c.follow h1).mp hk, fun r s h1 h2 _ => by
  rw [c.behind h1 s]
  split
  · exact .inl rfl
  · exact .inr rfl⟩
/-! ### clear nets -/
theorem mem_murky {n : Net} (h : n.Ok) {r : Int} : r ∈ murky n ↔ (0 ≤ r ∧ r < n.roads.length) ∧ ∃ s, Rc n (r, s) ∧ s ≠ 0 ∧ s ≠ rest n r := by
  unfold murky
  rw [List.mem_map]
  constructor
  · rintro ⟨k, hk, rfl⟩
    obtain ⟨h1, h2⟩ := List.mem_filter.mp hk
    have h1' : k < n.roads.length := by simpa using h1
    obtain ⟨s, s1, s2⟩ := (odd_poss h (r := (k : Int)) (by omega) (by omega)).mp (of_decide_eq_true h2)
    exact ⟨⟨by omega, by omega⟩, s, (mem_sts h).mp s1, s2⟩
  · rintro ⟨⟨h1, h2⟩, s, s1, s2⟩
    refine ⟨r.toNat, List.mem_filter.mpr ⟨by simp; omega, ?_⟩, by omega⟩
    rw [show ((r.toNat : Nat) : Int) = r by omega]
    exact decide_eq_true ((odd_poss h h1 h2).mpr ⟨s, (mem_sts h).mpr s1, s2⟩)
theorem murky_nil {n : Net} (h : n.Ok) : murky n = [] ↔ ∀ r s, Rc n (r, s) → s = 0 ∨ s = rest n r := by
  constructor
  · intro e r s hs
    by_cases c1 : s = 0
    · exact .inl c1
    · by_cases c2 : s = rest n r
      · exact .inr c2
      · have : r ∈ murky n := (mem_murky h).mpr ⟨hs.inU.1, s, hs, c1, c2⟩
        rw [e] at this
        cases this
  · intro q
    cases e : murky n with
    | nil => rfl
    | cons r l =>
      obtain ⟨_, s, s1, s2, s3⟩ := (mem_murky h).mp (show r ∈ murky n by rw [e]; simp)
      rcases q r s s1 with c | c
      · exact absurd c s2
      · exact absurd c s3
/-- the net without the closed roads: does closing them make it clear -/
noncomputable def calm (n : Net) (rs : List Int) : Bool := (murky (closeN n rs)).isEmpty
theorem calm_iff {n : Net} (h : n.Ok) {rs : List Int} (s : rs.Sublist (good n)) : calm n rs = true ↔ ∀ r t, Rc (closeN n rs) (r, t) → t = 0 ∨ t = rest n r := by
  have c := close_sub h s
  unfold calm
  rw [List.isEmpty_iff, murky_nil c.ok]
  refine forall_congr' fun r => forall_congr' fun t => forall_congr' fun hr => ?_
  rw [c.rest hr.inU.1.1]
/-- at whose end some driver has a state -/
noncomputable def outs (n : Net) : List Int := usort leI (((plc n).filter fun p => decide (0 < leaveS n p.1 p.2)).map (·.1))
theorem mem_outs {n : Net} (h : n.Ok) {r : Int} : r ∈ outs n ↔ ∃ s, Rc n (r, s) ∧ 0 < leaveS n r s := by
  unfold outs
  rw [mem_usort, List.mem_map]
  constructor
  · rintro ⟨p, hp, rfl⟩
    obtain ⟨h1, h2⟩ := List.mem_filter.mp hp
    exact ⟨p.2, (mem_plc h).mp h1, of_decide_eq_true h2⟩
  · rintro ⟨s, h1, h2⟩
    exact ⟨(r, s), List.mem_filter.mpr ⟨(mem_plc h).mpr h1, decide_eq_true h2⟩, rfl⟩
theorem outs_asc (n : Net) : (outs n).Pairwise (fun a b => a < b) := (usort_sorted ordI _).imp fun h => by
  have h1 := h.1
  have h2 := h.2
  simp [leI] at h1
  omega
theorem leave_nn {n : Net} (h : n.Ok) {r s : Int} (hs : Rc n (r, s)) : 0 ≤ leaveS n r s := (state_ok h (leave_mem hs.inU)).1
/-- only roads that are left with a limit are worth closing -/
theorem calm_drop {n : Net} (h : n.Ok) {rs : List Int} (s : rs.Sublist (good n)) (hc : calm n rs = true) {k : Int} (hk : k ∉ outs n) : calm n (rs.filter fun r => decide (r ≠ k)) = true := by
  have s2 := asc_filter s fun r => decide (r ≠ k)
  have c1 := close_sub h s
  have c2 := close_sub h s2
  rw [calm_iff h s2]
  rw [calm_iff h s] at hc
  intro r t ht
  refine hc r t ?_
  have th : Thin (closeN n rs) (closeN n (rs.filter fun r => decide (r ≠ k))) := ⟨by rw [c2.len, c1.len], fun r h1 h2 q hq => (c1.follow h1).mpr ((c2.follow h1).mp hq), fun r s h1 h2 hr => by
    rw [c1.behind h1, c2.behind h1]
    by_cases e : r = k
    · subst e
      rw [if_neg (by simp)]
      by_cases q : r ∈ rs
      · rw [if_pos q]
        refine .inr ?_
        have hn : ¬ 0 < leaveS n r s := fun z => hk ((mem_outs h).mpr ⟨s, c1.thin.rc hr, z⟩)
        have := leave_nn h (c1.thin.rc hr)
        have e0 : leaveS n r s = 0 := by omega
        unfold LS.behind goOver
        simp only [e0]
        split <;> rfl
      · rw [if_neg q]
        exact .inr rfl
    · refine .inr ?_
      by_cases q : r ∈ rs
      · rw [if_pos q, if_pos (List.mem_filter.mpr ⟨q, by simp [e]⟩)]
      · rw [if_neg q, if_neg fun z => q (List.mem_filter.mp z).1]⟩
  exact th.rc ht
/-- closing all roads that are left with a limit -/
theorem calm_all {n : Net} (h : n.Ok) (hg : ∀ r ∈ outs n, r ∈ good n) : (outs n).Sublist (good n) ∧ calm n (outs n) = true ∧ outs (closeN n (outs n)) = [] := by
  have s : (outs n).Sublist (good n) := sub_of (outs_asc n) hg
  have c := close_sub h s
  have z : ∀ p, Rc (closeN n (outs n)) p → p.2 = 0 := fun p hp => by
    obtain ⟨j, hj⟩ := hp
    cases j with
    | zero => exact (mem_st0.mp hj).2
    | succ j =>
      obtain ⟨q, hq, hp⟩ := List.mem_flatMap.mp (show p ∈ ((SP (closeN n (outs n))).lev (st0 (closeN n (outs n))) j).flatMap (nb (closeN n (outs n))) from hj)
      have hq2 : Rc n q := c.thin.rc ⟨j, hq⟩
      obtain ⟨k, hk, rfl⟩ := List.mem_map.mp hp
      show behind (closeN n (outs n)) (q.1, q.2) = 0
      rw [c.behind hq2.inU.1.1]
      split
      · rfl
      · rename_i z
        have hn : ¬ 0 < leaveS n q.1 q.2 := fun y => z ((mem_outs h).mpr ⟨q.2, hq2, y⟩)
        have := leave_nn h (show Rc n (q.1, q.2) from hq2)
        have e0 : leaveS n q.1 q.2 = 0 := by omega
        unfold LS.behind goOver
        simp only [e0]
        split <;> rfl
  refine ⟨s, (calm_iff h s).mpr fun r t ht => .inl (z _ ht), ?_⟩
  cases e : outs (closeN n (outs n)) with
  | nil => rfl
  | cons r l =>
    obtain ⟨t, t1, t2⟩ := (mem_outs c.ok).mp (show r ∈ outs (closeN n (outs n)) by rw [e]; simp)
    have hr := t1.inU.1.1
    rw [c.leave hr] at t2
    split at t2
    · omega
    · rename_i q
      exact absurd ((mem_outs h).mpr ⟨t, c.thin.rc t1, t2⟩) q
/-! ### the choices -/
def ch : Nat → List Int → List (List Int)
  | 0, _ => [[]]
  | _ + 1, [] => []
  | m + 1, x :: l => (ch m l).map (x :: ·) ++ ch (m + 1) l
theorem ch_zero (l : List Int) : ch 0 l = [[]] := by cases l <;> rfl
theorem mem_ch : ∀ {l : List Int} {m : Nat} {w : List Int}, w ∈ ch m l ↔ w.Sublist l ∧ w.length = m
  | l, 0, w => by
    rw [ch_zero, List.mem_singleton]
    constructor
    · intro e
      subst e
      exact ⟨List.nil_sublist _, rfl⟩
    · intro e
      exact List.length_eq_zero_iff.mp e.2
  | [], m + 1, w => by
    refine ⟨fun h => (by cases h), fun ⟨h1, h2⟩ => ?_⟩
    rw [List.sublist_nil.mp h1] at h2
    cases h2
  | x :: l, m + 1, w => by
    show w ∈ (ch m l).map (x :: ·) ++ ch (m + 1) l ↔ _
    rw [List.mem_append, List.mem_map, mem_ch (l := l) (m := m + 1)]
    constructor
    · rintro (⟨v, hv, rfl⟩ | ⟨h1, h2⟩)
      · obtain ⟨v1, v2⟩ := mem_ch.mp hv
        exact ⟨v1.cons_cons x, by simp [v2]⟩
      · exact ⟨h1.cons x, h2⟩
    · rintro ⟨h1, h2⟩
      cases h1 with
      | cons _ h => exact .inr ⟨h, h2⟩
      | cons_cons _ h => exact .inl ⟨_, mem_ch.mpr ⟨h, by simpa using h2⟩, rfl⟩
theorem ch_len : ∀ (l : List Int) (m : Nat), (ch m l).length ≤ 2 ^ l.length
  | l, 0 => by rw [ch_zero]; exact Nat.one_le_two_pow
  | [], m + 1 => by simp [ch]
  | x :: l, m + 1 => by
    have h1 := ch_len l m
    have h2 := ch_len l (m + 1)
    show ((ch m l).map (x :: ·) ++ ch (m + 1) l).length ≤ 2 ^ (l.length + 1)
    rw [List.length_append, List.length_map, Nat.pow_succ]
    omega
theorem ch_flat (m : Nat) : ∀ l : List Int, ch (m + 1) l = (List.range l.length).flatMap fun i => (ch m (l.drop (i + 1))).map (l.getD i 0 :: ·)
  | [] => rfl
  | x :: l => by
    show (ch m l).map (x :: ·) ++ ch (m + 1) l = _
    rw [ch_flat m l, List.length_cons, List.range_succ_eq_map, List.flatMap_cons, List.flatMap_map]
    rfl
def FcOk (n : Net) : Option (List Int) → Prop
  | none => ∀ w, w.Sublist (good n) → calm n w = false
  | some w => w.Sublist (good n) ∧ calm n w = true ∧ ∀ v, v.Sublist (good n) → v.length < w.length → calm n v = false
theorem b1_all_bl (bs : List Bool) : b1D .all (.lst (bs.map .bl)) = some (.v .cl (.bl (bs.all id))) := by
  have := boolsD_map id bs
  rw [List.map_id] at this
  rw [b1_all, show (bs.map D.bl) = bs.map fun a => .bl (id a) from rfl, this]
theorem b1_any_bl (bs : List Bool) : b1D .any (.lst (bs.map .bl)) = some (.v .cl (.bl (bs.any id))) := by
  have := boolsD_map id bs
  rw [List.map_id] at this
  rw [b1_any, show (bs.map D.bl) = bs.map fun a => .bl (id a) from rfl, this]
end LS

set_option Elab.async false
set_option linter.all false
set_option maxRecDepth 100000
set_option maxHeartbeats 1000000
/-! LSy: all ways of at most roads + 1 roads; lists that are sorted; nested comprehensions. -/
namespace LS
open PySem PySem.Spec PyProof.Rows L2
theorem gr_top (n : Net) {p : Int × Int} (h : Rc n p) : p ∈ gr n n.roads.length := by
  have closed : ∀ q, q ∈ gr n (n.roads.length + 1) → q ∈ gr n n.roads.length := fun q hq => by
    rcases gr_stable n n.roads.length q.2 with c | c
    · exact c q.1 hq
    · have hl : cntR n n.roads.length q.2 ≤ n.roads.length := by
        unfold cntR
        exact Nat.le_trans (List.length_filter_le _ _) (by simp)
      have e : cntR n n.roads.length q.2 = n.roads.length := by omega
      unfold cntR at e
      have e2 : ((List.range n.roads.length).filter fun (r : Nat) => decide (((r : Int), q.2) ∈ gr n n.roads.length)).length = (List.range n.roads.length).length := by rw [e, List.length_range]
      have all := List.length_filter_eq_length_iff.mp e2
      obtain ⟨q1, q2⟩ := (gr_rc hq).inU.1
      have := all q.1.toNat (by simp; omega)
      rw [decide_eq_true_eq, show ((q.1.toNat : Nat) : Int) = q.1 by omega] at this
      exact this
  obtain ⟨j, hj⟩ := h
  induction j generalizing p with
  | zero => exact gr_le n (Nat.zero_le _) hj
  | succ j ih =>
    obtain ⟨q, hq, hp⟩ := List.mem_flatMap.mp (show p ∈ ((SP n).lev (st0 n) j).flatMap (nb n) from hj)
    exact closed p (gr_step (ih hq) hp)
theorem gr_lev {n : Net} : ∀ {i : Nat} {p : Int × Int}, p ∈ gr n i → ∃ j, j ≤ i ∧ p ∈ (SP n).lev (st0 n) j
  | 0, p, h => ⟨0, Nat.le_refl _, h⟩
  | i + 1, p, h => by
    rcases List.mem_append.mp h with h | h
    · obtain ⟨j, h1, h2⟩ := gr_lev h
      exact ⟨j, by omega, h2⟩
    · obtain ⟨q, hq, hp⟩ := List.mem_flatMap.mp h
      obtain ⟨j, h1, h2⟩ := gr_lev hq
      exact ⟨j + 1, by omega, List.mem_flatMap.mpr ⟨q, h2, hp⟩⟩
def pw (n : Net) (w : List Int) : Int × Int := (lastW w, ast n w)
theorem SP_lev (n : Net) : ∀ m : Nat, (SP n).lev (st0 n) m = (lvw n m).map (pw n)
  | 0 => by
    show st0 n = _
    unfold st0 lvw
    rw [List.map_map]
    rfl
  | m + 1 => by
    show ((SP n).lev (st0 n) m).flatMap (nb n) = _
    rw [SP_lev n m]
    show _ = ((lvw n m).flatMap fun w => (follow n (lastW w)).map fun k => w ++ [k]).map (pw n)
    have key : ∀ l : List (List Int), (∀ w ∈ l, w ≠ []) → (l.map (pw n)).flatMap (nb n) = (l.flatMap fun w => (follow n (lastW w)).map fun k => w ++ [k]).map (pw n) := fun l hl => by
      induction l with
      | nil => rfl
      | cons w l ih =>
        rw [List.map_cons, List.flatMap_cons, List.flatMap_cons, List.map_append, ih fun v hv => hl v (List.mem_cons_of_mem _ hv)]
        congr 1
        have hne := hl w List.mem_cons_self
        obtain ⟨u, x, rfl⟩ : ∃ u x, w = u ++ [x] := ⟨w.dropLast, w.getLast hne, (List.dropLast_concat_getLast hne).symm⟩
        show ((follow n (lastW (u ++ [x]))).map fun k => (k, behind n (lastW (u ++ [x]), ast n (u ++ [x])))) = _
        rw [List.map_map]
        refine List.map_congr_left fun k _ => ?_
        show _ = (lastW (u ++ [x] ++ [k]), ast n (u ++ [x] ++ [k]))
        rw [lastW_snoc, lastW_snoc, ast_step]
    exact key _ fun w hw => by
      obtain ⟨⟨u, x, rfl, _⟩, _⟩ := lvw_way hw
      simp
theorem rc_rts {n : Net} {p : Int × Int} : Rc n p ↔ ∃ w ∈ rts n (n.roads.length + 1), pw n w = p := by
  constructor
  · intro h
    obtain ⟨j, h1, h2⟩ := gr_lev (gr_top n h)
    rw [SP_lev] at h2
    obtain ⟨w, hw, e⟩ := List.mem_map.mp h2
    exact ⟨w, mem_rts.mpr ⟨j, by omega, hw⟩, e⟩
  · rintro ⟨w, hw, e⟩
    obtain ⟨j, _, hw⟩ := mem_rts.mp hw
    exact ⟨j, by rw [SP_lev]; exact List.mem_map.mpr ⟨w, hw, e⟩⟩
theorem usort_same {l m : List Int} (h : ∀ x, x ∈ l ↔ x ∈ m) : usort leI l = usort leI m :=
  usort_of ordI ((usort_sorted ordI l).imp fun h => h.1) (usort_nodup ordI l) fun x => (mem_usort x l).trans (h x)
theorem sorted_pdl {l : List (Int × Int)} (hne : l ≠ []) (nd : l.Nodup) (h : ∀ p ∈ l, (0 ≤ p.1 ∧ p.1 < 64) ∧ 0 ≤ p.2 ∧ p.2 < 64) (hl : l.length ≤ 60) : b1D .sorted (.lst (l.map pd)) = some (.v .fr (.lst ((usort leP l).map pd))) := by
  show (match intsD (l.map pd) with
    | some ns => fr (.lst ((isort leI ns).map .int))
    | none => (match tupsD (l.map pd) with
      | some ks => if (Nat.ble ks.length 60 && dims ks) = true then fr (.lst ((isort leT ks).map tupI)) else none
      | none => none)) = _
  have e : intsD (l.map pd) = none := by
    cases l with
    | nil => exact absurd rfl hne
    | cons p l => exact intsD_pd
  have nd2 : (l.map pl).Nodup := by
    rw [List.nodup_iff_pairwise_ne, List.pairwise_map]
    exact (List.nodup_iff_pairwise_ne.mp nd).imp fun h e => h (pl_inj e)
  rw [e, tupsD_pd]
  simp only
  rw [isort_nodup ordT nd2, usort_pl, List.length_map, if_pos, List.map_map]
  · rfl
  · rw [Nat.ble_eq_true_of_le hl, dims_pl h]
    rfl
theorem turns_flatF {α : Type} {f : D → Option (List D)} {k : α → D} {g : α → List D} : ∀ {as : List α}, (∀ a ∈ as, f (k a) = some (g a)) → turns f (as.map k) = some (as.flatMap g)
  | [], _ => rfl
  | a :: as, h => by
    have h1 := h a List.mem_cons_self
    have h2 := turns_flatF (f := f) (k := k) (g := g) (as := as) fun x hx => h x (List.mem_cons_of_mem _ hx)
    rw [List.map_cons, List.flatMap_cons]
    simp [turns, h1, h2]
theorem lc2_map {α β : Type} {G : Fns} {ρ : En} {elt : E} {tg tg1 : Tg} {it it1 : It} {own own1 : List Nat} {as : List α} {k : α → D} {bs : α → List β} {k1 : β → D} {g : α → β → D} (hi : evI G it ρ = some (as.map k))
    (h : ∀ a ∈ as, ∃ ρ', bindT tg (k a) (wipes ρ own) = some ρ' ∧ evI G it1 ρ' = some ((bs a).map k1) ∧ ∀ b ∈ bs a, ∃ ρ2, bindT tg1 (k1 b) (wipes ρ' own1) = some ρ2 ∧ evE G elt ρ2 = some (.v .cl (g a b)))
    (hl : (as.flatMap fun a => (bs a).map (g a)).length ≤ 16777216) : evE G (.lc2 elt tg it tg1 it1 own own1) ρ = some (.v .fr (.lst (as.flatMap fun a => (bs a).map (g a)))) := by
  rw [ev_lc2, hi]
  try simp only
  rw [turns_flatF (g := fun a => (bs a).map (g a))]
  · try simp only
    rw [if_pos (by simpa using hl)]
  · intro a ha
    obtain ⟨ρ', h1, h2, h3⟩ := h a ha
    unfold fLc2
    simp only [h1, h2]
    exact turns_mapF fun b hb => by
      obtain ⟨ρ2, h4, h5⟩ := h3 b hb
      first
        | simp only [h4, h5]
        | (unfold fLc; simp [h4, h5])
/-! ### the first of the choices -/
def allch (l : List Int) : List (List Int) := (List.range (l.length + 1)).flatMap fun m => ch m l
theorem mem_allch {l w : List Int} : w ∈ allch l ↔ w.Sublist l := by
  unfold allch
  rw [List.mem_flatMap]
  constructor
  · rintro ⟨m, _, h⟩
    exact (mem_ch.mp h).1
  · intro h
    have := h.length_le
    exact ⟨w.length, by simp; omega, mem_ch.mpr ⟨h, rfl⟩⟩
theorem allch_len (l : List Int) : (allch l).Pairwise (fun a b => a.length ≤ b.length) := by
  unfold allch
  rw [List.flatMap_def, List.pairwise_flatten]
  refine ⟨fun x hx => ?_, ?_⟩
  · obtain ⟨m, _, rfl⟩ := List.mem_map.mp hx
    rw [List.pairwise_iff_forall_sublist]
    intro a b hab
    have ha := (mem_ch.mp (hab.subset (show a ∈ [a, b] by simp))).2
    have hb := (mem_ch.mp (hab.subset (show b ∈ [a, b] by simp))).2
    omega
  · rw [List.pairwise_map]
    refine List.pairwise_lt_range.imp fun {a b} hab p hp q hq => ?_
    have ha := (mem_ch.mp hp).2
    have hb := (mem_ch.mp hq).2
    omega
noncomputable def fcl (n : Net) : Option (List Int) := (allch (good n)).find? (calm n)
theorem fcl_ok (n : Net) : FcOk n (fcl n) := by
  unfold fcl
  cases e : (allch (good n)).find? (calm n) with
  | none =>
    intro w hw
    have := List.find?_eq_none.mp e w (mem_allch.mpr hw)
    simpa using this
  | some w =>
    obtain ⟨h1, as, bs, h2, h3⟩ := List.find?_eq_some_iff_append.mp e
    refine ⟨mem_allch.mp (by rw [h2]; simp), h1, fun v hv hl => ?_⟩
    have hm : v ∈ allch (good n) := mem_allch.mpr hv
    have hp := allch_len (good n)
    rw [h2] at hm hp
    rcases List.mem_append.mp hm with q | q
    · have := h3 v q
      simpa using this
    · rcases List.mem_cons.mp q with q | q
      · subst q; omega
      · have := (List.pairwise_cons.mp (List.pairwise_append.mp hp).2.1).1 v q
        omega
theorem flatMap_cg {α β : Type} {f g : α → List β} : ∀ {l : List α}, (∀ a ∈ l, f a = g a) → l.flatMap f = l.flatMap g
  | [], _ => rfl
  | a :: l, h => by rw [List.flatMap_cons, List.flatMap_cons, h a (by simp), flatMap_cg fun b hb => h b (List.mem_cons_of_mem _ hb)]
/-- .. level by level -/
def more (l : List Int) (w : List Int) : List (List Int) := (l.filter fun r => decide (w = []) || decide (lastW w < r)).map fun r => w ++ [r]
theorem ch_more : ∀ {l : List Int} (m : Nat), l.Pairwise (fun a b => a < b) → ch (m + 1) l = (ch m l).flatMap (more l)
  | [], 0, _ => rfl
  | [], m + 1, _ => rfl
  | x :: l, 0, s => by
    obtain ⟨s1, s2⟩ := List.pairwise_cons.mp s
    have ih := ch_more 0 s2
    show (ch 0 l).map (x :: ·) ++ ch 1 l = [[]].flatMap (more (x :: l))
    rw [ih, ch_zero]
    simp [more]
  | x :: l, m + 1, s => by
    obtain ⟨s1, s2⟩ := List.pairwise_cons.mp s
    have ih1 := ch_more m s2
    have ih2 := ch_more (m + 1) s2
    show (ch (m + 1) l).map (x :: ·) ++ ch (m + 2) l = ((ch m l).map (x :: ·) ++ ch (m + 1) l).flatMap (more (x :: l))
    rw [List.flatMap_append]
    have lastIn : ∀ w : List Int, w ≠ [] → w.Sublist l → x < lastW w := fun w hw hs => by
      refine s1 _ (hs.subset ?_)
      exact last_mem hw
    congr 1
    · rw [ih1, List.map_flatMap, List.flatMap_map]
      refine flatMap_cg fun v hv => ?_
      have hvs := (mem_ch.mp hv).1
      unfold more
      rw [List.map_map, List.filter_cons]
      by_cases c : v = []
      · subst c
        have e1 : lastW [x] = x := rfl
        have e2 : l.filter (fun r => decide ([x] = ([] : List Int)) || decide (lastW [x] < r)) = l := by
          rw [List.filter_eq_self]
          intro r hr
          simp [e1, s1 r hr]
        have e3 : l.filter (fun r => decide (([] : List Int) = []) || decide (lastW [] < r)) = l := by
          rw [List.filter_eq_self]
          intro r hr
          simp
        rw [e2, e3, if_neg (by simp [e1])]
        rfl
      · have e1 : lastW (x :: v) = lastW v := by
          obtain ⟨u, y, rfl⟩ : ∃ u y, v = u ++ [y] := ⟨v.dropLast, v.getLast c, (List.dropLast_concat_getLast c).symm⟩
          rw [← List.cons_append, lastW_snoc, lastW_snoc]
        have h1 := lastIn v c hvs
        rw [if_neg (by simp [e1]; omega)]
        simp [e1, c, Function.comp_def]
    · rw [ih2]
      refine flatMap_cg fun w hw => ?_
      obtain ⟨hw1, hw2⟩ := mem_ch.mp hw
      have hne : w ≠ [] := fun z => by rw [z] at hw2; cases hw2
      have h1 := lastIn w hne hw1
      unfold more
      rw [List.filter_cons, if_neg (by simp [hne]; omega)]
theorem ch_big {l : List Int} {m : Nat} (h : l.length < m) : ch m l = [] := by
  cases e : ch m l with
  | nil => rfl
  | cons w ws =>
    obtain ⟨h1, h2⟩ := mem_ch.mp (show w ∈ ch m l by rw [e]; simp)
    have := h1.length_le
    omega
end LS

set_option Elab.async false
set_option linter.all false
set_option maxRecDepth 100000
set_option maxHeartbeats 1000000
/-! LT1: a trip in the heap; what changes it; statements of its methods. -/
namespace LS
open PySem PySem.Spec PyProof.Rows L2
/-- a trip's attributes -/
structure Tr where
  nd : D
  pr : D
  dn : List D
  un : List D
def Tr.ob (t : Tr) : D := .obj "Trip" ["net", "present"] [t.nd, t.pr]
/-- from (F, H) to (F', H'): as Ext, but for the places z -/
structure Chg (z : Addr → Prop) (F H F' H' : Hp) : Prop where
  f : Same F F'
  h : ∀ a o, ¬ z a → H a = some o → H' a = some o
  s : Same F' H'
  n : ∀ a o, F' a = some o → F a = some o ∨ H a = none ∨ ∃ xs, o = .tup xs
theorem Ext.chg {z : Addr → Prop} {F H F' H' : Hp} (x : Ext F H F' H') : Chg z F H F' H' := ⟨x.f, fun a o _ e => x.h _ _ e, x.s, x.n⟩
theorem Chg.after {z : Addr → Prop} {F H F1 H1 F' H' : Hp} (x : Ext F H F1 H1) (c : Chg z F1 H1 F' H') : Chg z F H F' H' :=
  ⟨x.f.trans c.f, fun a o n e => c.h a o n (x.h _ _ e), c.s, fun a o e => by
    rcases c.n a o e with q | q | q
    · exact x.n a o q
    · exact .inr (.inl (x.h.free q))
    · exact .inr (.inr q)⟩
section
variable (K : PySem.W.Frag) (mg : Str → Option Value)
def TAt (F H : Hp) (p pd pu : Addr) (t : Tr) : Prop := ∃ (C dx : Addr) (vn vp : V) (xs ys : List V), mg "Trip" = some (.ref C) ∧ H p = some (.ins C dx [("net", vn), ("present", vp), ("done", .ref pd), ("undone", .ref pu)]) ∧
  H pd = some (.lst xs) ∧ H pu = some (.lst ys) ∧ Rep K mg nox F vn t.nd ∧ Rep K mg nox F vp t.pr ∧ Reps K mg nox F xs t.dn ∧ Reps K mg nox F ys t.un ∧ pd ≠ pu ∧ F p = none ∧ F pd = none ∧ F pu = none
def zT (p pd pu : Addr) (a : Addr) : Prop := a = p ∨ a = pd ∨ a = pu
/-- a method's promise, by a function of the trip and the further arguments -/
def spM (M : Addr → Tr → List D → Option (Rr × Tr)) : Sp := fun vs H Q E => ∃ F p pd pu ws t ds r, vs = .ref p :: ws ∧ Same F H ∧ TAt K mg F H p pd pu t ∧ Reps K mg nox F ws ds ∧ M p t ds = some r ∧ match r with
  | (.ret d, t') => ∀ v F' H' pd' pu', Chg (zT p pd pu) F H F' H' → TAt K mg F' H' p pd' pu' t' → (pd' = pd ∨ H pd' = none) → (pu' = pu ∨ H pu' = none) → Rep K mg nox F' v d → Q v H'
  | (.exc c, _) => ∀ C F' H', mg c = some (.ref C) → Ext F H F' H' → E (.ref C) none H'
end
section
variable {K : PySem.W.Frag} {mg : Str → Option Value} {F H F' H' : Hp} {p pd pu : Addr} {t : Tr}
theorem TAt.ext (h : TAt K mg F H p pd pu t) (x : Ext F H F' H') : TAt K mg F' H' p pd pu t := by
  obtain ⟨C, dx, vn, vp, xs, ys, h1, h2, h3, h4, h5, h6, h7, h8, h9, n1, n2, n3⟩ := h
  have fr : ∀ a o, H a = some o → (∀ us, o ≠ .tup us) → F a = none → F' a = none := fun a o e ht n => by
    cases z : F' a with
    | none => rfl
    | some u =>
      rcases x.n a u z with w | w | ⟨us, w⟩
      · rw [n] at w; cases w
      · rw [e] at w; cases w
      · subst w
        have q := x.s _ _ z
        rw [x.h _ _ e] at q
        cases q
        exact absurd rfl (ht us)
  exact ⟨C, dx, vn, vp, xs, ys, h1, x.h _ _ h2, x.h _ _ h3, x.h _ _ h4, h5.mono x.f, h6.mono x.f, h7.mono x.f, h8.mono x.f, h9, fr _ _ h2 (fun _ z => nomatch z) n1, fr _ _ h3 (fun _ z => nomatch z) n2, fr _ _ h4 (fun _ z => nomatch z) n3⟩
end
section
variable {X : Cx}
structure SlotIs (X : Cx) (i : Nat) (x : Str) : Prop where
  n : X.N[i]? = some x
  v : visB X.env.scope x = true
  d : dbgOk x = true
theorem SlotIs.pe {i : Nat} {x : Str} (s : SlotIs X i x) {p : Pos} : PE X (.Name x p) (tVar i) := by
  have hd := s.d
  unfold dbgOk at hd
  simp only [Bool.and_eq_true, Bool.not_eq_true'] at hd
  exact pe_var s.n (visB_ok s.v) hd.1.1 hd.1.2
theorem SlotIs.fld {i : Nat} {x f : Str} (s : SlotIs X i x) {p p2 : Pos} : PE X (.Attribute (.Name x p) f p2) (tFld X.K (tVar i) f) := pe_fld s.pe (base_ok rfl _)
theorem m_set {i : Nat} {x f : Str} (s : SlotIs X i x) {value : Expr} {tv : TE} {p p2 pos : Pos} (hv : PE X value tv) (hc : notComp value = true) : PS X (.Assign [.Attribute (.Name x p) f p2] value pos) (sFld X.K (tVar i) tv f) :=
  ps_fld s.pe hv (sw_none hc)
theorem m_append {i : Nat} {x f : Str} (s : SlotIs X i x) {e : Expr} {te : TE} {p p2 p3 p4 pos : Pos} (he : PE X e te) (hs : notSt e = true) (hl : (p3.endLine == p4.line) = true) :
    PS X (.Expr (.Call (.Attribute (.Attribute (.Name x p) f p2) "append" p3) [e] [] p4) pos) (tDrop (tBM X.K "list" rAppend (tFld X.K (tVar i) f) (tCons te tNil))) :=
  ps_expr (pe_bm PySem.F.plainAttrs_list PySem.F.slot_list_append PySem.F.type_list_append mt_append s.fld (pa_cons he pa_nil (star_cons hs)) (base_ok rfl _) (few_ok (by rw [List.all_cons, hs]; rfl) rfl) hl (star_cons hs) rfl) (sw_none rfl)
theorem m_pop {i : Nat} {x f : Str} (s : SlotIs X i x) {p p2 p3 p4 : Pos} (hl : (p3.endLine == p4.line) = true) : PE X (.Call (.Attribute (.Attribute (.Name x p) f p2) "pop" p3) [] [] p4) (tBM0 X.K "list" rPop (tFld X.K (tVar i) f)) :=
  pe_bm0 PySem.F.plainAttrs_list PySem.F.slot_list_pop PySem.F.type_list_pop mt_pop s.fld (base_ok rfl _) hl
end
end LS
namespace LS
open PySem PySem.Spec PyProof.Rows L2
/-- the class: its instances' attributes are no attributes of the class -/
structure TCls (K : PySem.W.Frag) (mg : Str → Option Value) : Prop where
  ex : ∃ C, mg "Trip" = some (.ref C)
  cls : ∀ C, mg "Trip" = some (.ref C) → Cls K C
  n0 : ∀ C, mg "Trip" = some (.ref C) → NoAttr K C "net"
  n1 : ∀ C, mg "Trip" = some (.ref C) → NoAttr K C "present"
  n2 : ∀ C, mg "Trip" = some (.ref C) → NoAttr K C "done"
  n3 : ∀ C, mg "Trip" = some (.ref C) → NoAttr K C "undone"
def fT (a b c d : V) : List (Str × V) := [("net", a), ("present", b), ("done", c), ("undone", d)]
theorem put_present (a b c d y : V) : putF "present" y (fT a b c d) = fT a y c d := by rfl
theorem put_undone (a b c d y : V) : putF "undone" y (fT a b c d) = fT a b c y := by rfl
theorem put_done (a b c d y : V) : putF "done" y (fT a b c d) = fT a b y d := by rfl
theorem look_net (a b c d : V) : (fT a b c d).lookup ("net" : Str) = some a := by rfl
theorem look_present (a b c d : V) : (fT a b c d).lookup ("present" : Str) = some b := by rfl
theorem look_done (a b c d : V) : (fT a b c d).lookup ("done" : Str) = some c := by rfl
theorem look_undone (a b c d : V) : (fT a b c d).lookup ("undone" : Str) = some d := by rfl
theorem ty_lst {K : PySem.W.Frag} {H : Hp} {a : Addr} {xs : List V} (e : H a = some (.lst xs)) : tyV K "list" (.ref a) H := .inl ⟨rfl, xs, .inl (.inl e)⟩
section
variable {X : Cx} {σ : L2.St} {H : Hp} {i : Nat} {p pd pu C dx : Addr} {a b c d v : V}
theorem rd_fld {f : Str} {Q : VK} (hs : σ[i]? = some (some (.ref p))) (hp : H p = some (.ins C dx (fT a b c d))) (hc : Cls X.K C) (hn : NoAttr X.K C f) (hl : (fT a b c d).lookup f = some v) (q : Q v H) : tFld X.K (tVar i) f σ H Q :=
  ⟨.ref p, hs, p, C, dx, _, v, rfl, hp, hc, hn, hl, q⟩
theorem st_setf {f : Str} {tv : TE} {D : Ends} {K : PySem.W.Frag} (h : tv σ H fun y H1 => σ[i]? = some (some (.ref p)) ∧ ∃ C dx a b c d, H1 p = some (.ins C dx (fT a b c d)) ∧ Cls K C ∧ NoAttr K C f ∧ D.nx σ (upd H1 p (.ins C dx (putF f y (fT a b c d)))))
    (mono : ∀ (Q Q' : VK), (∀ y H1, Q y H1 → Q' y H1) → tv σ H Q → tv σ H Q') : sFld K (tVar i) tv f D σ H :=
  mono _ _ (fun y H1 ⟨hs, C, dx, a, b, c, d, hp, hc, hn, q⟩ => ⟨.ref p, hs, p, C, dx, _, rfl, hp, hc, hn, by show 4 < 1000; omega, q⟩) h
end
/-! ### change -/
def ShChange (body : List Stmt) : Prop := ∃ p1 p2 p3 p4 p5 p6 p7 p8 p9 p10 p11 p12 p13 p14 p15 : Pos, body = [.Expr (.Call (.Attribute (.Attribute (.Name "self" p1) "done" p2) "append" p3) [.Attribute (.Name "self" p4) "present" p5] [] p6) p7,
  .Assign [.Attribute (.Name "self" p8) "present" p9] (.Name "state" p10) p11, .Assign [.Attribute (.Name "self" p12) "undone" p13] (.List [] p14) p15] ∧ (p3.endLine == p6.line) = true
def changeM : Addr → Tr → List D → Option (Rr × Tr)
  | _, t, [st] => if Nat.blt t.dn.length LINE then some (.ret .non, { t with pr := st, dn := t.dn ++ [t.pr], un := [] }) else none
  | _, _, _ => none
theorem change_body {X : Cx} {body : List Stmt} (s0 : SlotIs X 0 "self") (s1 : SlotIs X 1 "state") (sh : ShChange body) (tc : TCls X.K X.mg) (hN : X.N.length = 2) :
    ∃ t, PSs X body t ∧ ∀ vs H Q E, spM X.K X.mg changeM vs H Q E → t { nx := fun _ H' => Q .non H', rt := Q } (L2.start X.N vs) H := by
  obtain ⟨p1, p2, p3, p4, p5, p6, p7, p8, p9, p10, p11, p12, p13, p14, p15, rfl, hl⟩ := sh
  refine ⟨_, pss_cons (m_append s0 s0.fld rfl hl) (pss_cons (m_set s0 s1.pe rfl) (pss_one (m_set s0 (pe_lst pa_nil) rfl))), fun vs H Q E h => ?_⟩
  obtain ⟨F, p, pd, pu, ws, t, ds, r, rfl, sF, ⟨C, dx, vn, vp, xs, ys, h1, h2, h3, h4, h5, h6, h7, h8, h9, n1, n2, n3⟩, rs, hM, post⟩ := h
  cases rs with
  | nil => cases hM
  | cons hv rs =>
    rename_i v ws st ds
    cases rs with
    | cons _ _ => cases hM
    | nil =>
      have hM' : (if Nat.blt t.dn.length LINE then some (Rr.ret .non, { t with pr := st, dn := t.dn ++ [t.pr], un := [] }) else none) = some r := hM
      split at hM'
      · rename_i hlt
        cases hM'
        have cl := tc.cls C h1
        have e0 : (L2.start X.N [V.ref p, v])[0]? = some (some (.ref p)) := rfl
        have e1 : (L2.start X.N [V.ref p, v])[1]? = some (some v) := rfl
        have hl7 : xs.length < sizeLine := by
          rw [h7.length, sizeLine_eq]
          have := (Nat.blt_eq).mp hlt
          exact this
        have npd : p ≠ pd := fun z => by subst z; rw [h2] at h3; cases h3
        have npu : p ≠ pu := fun z => by subst z; rw [h2] at h4; cases h4
        unfold tSeq tDrop tBM
        refine rd_fld e0 h2 cl (tc.n2 C h1) (look_done ..) ?_
        refine ⟨ty_lst h3, ?_⟩
        unfold tCons tNil
        refine rd_fld e0 h2 cl (tc.n1 C h1) (look_present ..) ?_
        refine ⟨pd, xs, vp, rfl, rfl, h3, hl7, ?_⟩
        refine ⟨v, e1, .ref p, e0, p, C, dx, _, rfl, (by rw [upd_ne npd]; exact h2), cl, tc.n1 C h1, by show 4 < 1000; omega, ?_⟩
        refine ⟨by show 0 ≤ sizeLine; omega, fun q hq => ?_⟩
        have nqp : q ≠ p := fun z => by subst z; rw [upd_same] at hq; cases hq
        have hq1 : upd H pd (.lst (xs ++ [vp])) q = none := by rw [upd_ne nqp] at hq; exact hq
        have nqd : q ≠ pd := fun z => by subst z; rw [upd_same] at hq1; cases hq1
        have hq0 : H q = none := by rw [upd_ne nqd] at hq1; exact hq1
        refine ⟨.ref p, e0, p, C, dx, _, rfl, (by rw [upd_ne nqp.symm, upd_same]), cl, tc.n3 C h1, by show 4 < 1000; omega, ?_⟩
        have fq : F q = none := sF.free hq0
        have keep : ∀ x o, x ≠ p → x ≠ pd → H x = some o → upd (upd (upd (upd H pd (.lst (xs ++ [vp]))) p (.ins C dx (putF "present" v (fT vn vp (.ref pd) (.ref pu))))) q (.lst [])) p (.ins C dx (putF "undone" (.ref q) (putF "present" v (fT vn vp (.ref pd) (.ref pu))))) x = some o := fun x o a1 a2 e => by
          have a3 : x ≠ q := fun z => by subst z; rw [hq0] at e; cases e
          rw [upd_ne a1, upd_ne a3, upd_ne a1, upd_ne a2]
          exact e
        refine post .non F _ pd q ?c ?t (.inl rfl) (.inr hq0) .non
        case c => exact ⟨Same.refl _, fun x o hz e => keep x o (fun z => hz (.inl z)) (fun z => hz (.inr (.inl z))) e, fun x o e => keep x o (fun z => by subst z; rw [n1] at e; cases e) (fun z => by subst z; rw [n2] at e; cases e) (sF _ _ e), fun x o e => .inl e⟩
        case t =>
          refine ⟨C, dx, vn, v, xs ++ [vp], [], h1, ?_, ?_, ?_, h5, hv, h7.append (.cons h6 .nil), .nil, nqd.symm, n1, n2, fq⟩
          · rw [upd_same]; rfl
          · rw [upd_ne npd.symm, upd_ne nqd.symm, upd_ne npd.symm, upd_same]
          · rw [upd_ne nqp, upd_same]
      · cases hM'
end LS

set_option Elab.async false
set_option linter.all false
set_option maxRecDepth 100000
set_option maxHeartbeats 1000000
/-! LT2 (printed by gen/mkundo.py): undo, redo. -/
namespace LS
open PySem PySem.Spec PyProof.Rows L2
theorem rdrop {K : PySem.W.Frag} {mg : Str → Option Value} {xc : V → Str → Prop} {H : Hp} {vs : List V} {ds : List D} (h : Reps K mg xc H vs ds) : Reps K mg xc H vs.dropLast ds.dropLast := by
  rw [List.dropLast_eq_take, List.dropLast_eq_take, h.length]
  exact h.take _
/-! ### undo -/
def ShUndo (body : List Stmt) : Prop := ∃ (m : Str) (j : Nat) (p1 p2 p3 p4 p5 p6 p7 p8 p9 p10 p11 p12 p13 p14 p15 p16 p17 p18 p19 p20 p21 p22 p23 : Pos), body = [
  .If (.Compare (.Attribute (.Name "self" p1) "done" p2) [.Eq] [.List [] p3] p4) [.Raise (some (.Call (.Name "NothingToUndo" p5) [.Constant (.str m) j p6] [] p7)) none p8] [] p9,
  .Expr (.Call (.Attribute (.Attribute (.Name "self" p10) "undone" p11) "append" p12) [.Attribute (.Name "self" p13) "present" p14] [] p15) p16,
  .Assign [.Attribute (.Name "self" p17) "present" p18] (.Call (.Attribute (.Attribute (.Name "self" p19) "done" p20) "pop" p21) [] [] p22) p23] ∧ (p12.endLine == p15.line) = true ∧ (p21.endLine == p22.line) = true
def undoM : Addr → Tr → List D → Option (Rr × Tr)
  | _, t, [] => if eqOk (.lst t.dn) (.lst []) && Nat.blt t.un.length LINE then (match t.dn.getLast? with
    | none => some (.exc "NothingToUndo", t)
    | some d => some (.ret .non, { t with pr := d, dn := t.dn.dropLast, un := t.un ++ [t.pr] })) else none
  | _, _, _ => none
theorem undo_body {X : Cx} {E : XK} {body : List Stmt} (tk : Takes X (fun cls d _ H => E cls d H)) (hcalm : X.calm = true) (hu : X.A.units + 65 < cLine) (ex : ExcOk X "NothingToUndo") (hg : glB X.env.scope "NothingToUndo" = true) (s0 : SlotIs X 0 "self") (sh : ShUndo body) (tc : TCls X.K X.mg) (hN : X.N.length = 1) :
    ∃ t, PSs X body t ∧ ∀ vs H Q, spM X.K X.mg undoM vs H Q E → t { nx := fun _ H' => Q .non H', rt := Q } (L2.start X.N vs) H := by
  obtain ⟨m, j, p1, p2, p3, p4, p5, p6, p7, p8, p9, p10, p11, p12, p13, p14, p15, p16, p17, p18, p19, p20, p21, p22, p23, rfl, hl, hl2⟩ := sh
  obtain ⟨g1, g2, _⟩ := glB_ok hg
  obtain ⟨Ca, B, newId, initId, bmB, f1, f2, f3, f4, f5, f6⟩ := ex
  refine ⟨_, pss_cons (ps_if (pt_cmpR (cop_ok (xc := nox) .eq hu) s0.fld (pe_lst pa_nil) rfl) (pss_one (ps_raise hcalm tk (pmk_own f1 f2 f3 f4 (raises_own f5 f6) g1 g2))) pss_nil)
    (pss_cons (m_append s0 s0.fld rfl hl) (pss_one (m_set s0 (m_pop s0 hl2) rfl))), fun vs H Q h => ?_⟩
  obtain ⟨F, p, pd, pu, ws, t, ds, r, rfl, sF, ta, rs, hM, post⟩ := h
  have ta' := ta
  obtain ⟨C, dx, vn, vp, xs, ys, h1, h2, h3, h4, h5, h6, h7, h8, h9, n1, n2, n3⟩ := ta'
  cases rs with
  | cons _ _ => cases hM
  | nil =>
    have hM' : (if eqOk (.lst t.dn) (.lst []) && Nat.blt t.un.length LINE then (match t.dn.getLast? with
      | none => some (Rr.exc "NothingToUndo", t)
      | some d => some (Rr.ret .non, { t with pr := d, dn := t.dn.dropLast, un := t.un ++ [t.pr] })) else none) = some r := hM
    split at hM'
    · rename_i hc
      simp only [Bool.and_eq_true] at hc
      have cl := tc.cls C h1
      have e0 : (L2.start X.N [V.ref p])[0]? = some (some (.ref p)) := rfl
      have npd : p ≠ pd := fun z => by subst z; rw [h2] at h3; cases h3
      have npu : p ≠ pu := fun z => by subst z; rw [h2] at h4; cases h4
      unfold tSeq tIfS tTest tOp
      refine rd_fld e0 h2 cl (tc.n2 C h1) (look_done ..) ?_
      refine ⟨by show 0 ≤ sizeLine; omega, fun q hq => ?_⟩
      have nqp : q ≠ p := fun z => by subst z; rw [h2] at hq; cases hq
      have nqd : q ≠ pd := fun z => by subst z; rw [h3] at hq; cases hq
      have nqu : q ≠ pu := fun z => by subst z; rw [h4] at hq; cases hq
      have k2 : upd H q (.lst []) p = some (.ins C dx (fT vn vp (.ref pd) (.ref pu))) := by rw [upd_ne nqp.symm]; exact h2
      have k3 : upd H q (.lst []) pd = some (.lst xs) := by rw [upd_ne nqd.symm]; exact h3
      have k4 : upd H q (.lst []) pu = some (.lst ys) := by rw [upd_ne nqu.symm]; exact h4
      have x0 : Ext F H F (upd H q (.lst [])) := Ext.newH sF hq
      refine ⟨F, .lst t.dn, .lst [], eqD (.lst t.dn) (.lst []), x0.s, .inr ⟨pd, rfl, xs, k3, h7⟩, .inr ⟨q, rfl, [], upd_same, .nil⟩, by show (if _ then _ else _) = _; rw [if_pos hc.1], ?_⟩
      cases hs : t.dn.getLast? with
      | none =>
        rw [hs] at hM'
        cases hM'
        have : t.dn = [] := List.getLast?_eq_none_iff.mp hs
        rw [this]
        exact ⟨true, rfl, post Ca F _ f3 x0⟩
      | some d =>
        rw [hs] at hM'
        cases hM'
        have hne : t.dn ≠ [] := fun z => by rw [z] at hs; cases hs
        have hb : eqD (.lst t.dn) (.lst []) = false := by
          cases q : t.dn with
          | nil => exact absurd q hne
          | cons a b => rfl
        rw [hb]
        refine ⟨false, rfl, ?_⟩

        refine st_next ?_
        have ho : ys.length < sizeLine := by
          rw [h8.length, sizeLine_eq]
          have := (Nat.blt_eq).mp hc.2
          exact this
        obtain ⟨v, hv, rv⟩ := h7.get (i := t.dn.length - 1) (by rw [List.getLast?_eq_getElem?] at hs; exact hs)
        rw [← h7.length] at hv
        dsimp only
        unfold tDrop tBM
        refine rd_fld e0 k2 cl (tc.n3 C h1) (look_undone ..) ?_
        refine ⟨ty_lst k4, ?_⟩
        unfold tCons tNil
        refine rd_fld e0 k2 cl (tc.n1 C h1) (look_present ..) ?_
        refine ⟨pu, ys, vp, rfl, rfl, k4, ho, ?_⟩
        dsimp only
        unfold sFld tBM0
        refine rd_fld e0 (by rw [upd_ne npu]; exact k2) cl (tc.n2 C h1) (look_done ..) ?_
        have k5 : upd (upd H q (.lst [])) pu (.lst (ys ++ [vp])) pd = some (.lst xs) := by rw [upd_ne h9]; exact k3
        refine ⟨ty_lst k5, pd, xs, v, rfl, rfl, k5, hv, ?_⟩
        refine ⟨.ref p, e0, p, C, dx, fT vn vp (.ref pd) (.ref pu), rfl, (by rw [upd_ne npd, upd_ne npu]; exact k2), cl, tc.n1 C h1, by show 4 < 1000; omega, ?_⟩
        have keep : ∀ x o, x ≠ p → x ≠ pd → x ≠ pu → H x = some o → upd (upd (upd (upd H q (.lst [])) pu (.lst (ys ++ [vp]))) pd (.lst xs.dropLast)) p (.ins C dx (putF "present" v (fT vn vp (.ref pd) (.ref pu)))) x = some o := fun x o a1 a2 a4 e => by
          have a3 : x ≠ q := fun z => by subst z; rw [hq] at e; cases e
          rw [upd_ne a1, upd_ne a2, upd_ne a4, upd_ne a3]
          exact e
        refine post .non F _ pd pu ?c ?t (.inl rfl) (.inl rfl) .non
        case c => exact ⟨Same.refl _, fun x o hz e => keep x o (fun z => hz (.inl z)) (fun z => hz (.inr (.inl z))) (fun z => hz (.inr (.inr z))) e, fun x o e => keep x o (fun z => by subst z; rw [n1] at e; cases e) (fun z => by subst z; rw [n2] at e; cases e) (fun z => by subst z; rw [n3] at e; cases e) (sF _ _ e), fun x o e => .inl e⟩
        case t =>
          refine ⟨C, dx, vn, v, xs.dropLast, ys ++ [vp], h1, ?_, ?_, ?_, h5, rv, rdrop h7, h8.append (.cons h6 .nil), h9, n1, n2, n3⟩
          · rw [upd_same]; rfl
          · rw [upd_ne npd.symm, upd_same]
          · rw [upd_ne npu.symm, upd_ne h9.symm, upd_same]
    · cases hM'
/-! ### redo -/
def ShRedo (body : List Stmt) : Prop := ∃ (m : Str) (j : Nat) (p1 p2 p3 p4 p5 p6 p7 p8 p9 p10 p11 p12 p13 p14 p15 p16 p17 p18 p19 p20 p21 p22 p23 : Pos), body = [
  .If (.Compare (.Attribute (.Name "self" p1) "undone" p2) [.Eq] [.List [] p3] p4) [.Raise (some (.Call (.Name "NothingToUndo" p5) [.Constant (.str m) j p6] [] p7)) none p8] [] p9,
  .Expr (.Call (.Attribute (.Attribute (.Name "self" p10) "done" p11) "append" p12) [.Attribute (.Name "self" p13) "present" p14] [] p15) p16,
  .Assign [.Attribute (.Name "self" p17) "present" p18] (.Call (.Attribute (.Attribute (.Name "self" p19) "undone" p20) "pop" p21) [] [] p22) p23] ∧ (p12.endLine == p15.line) = true ∧ (p21.endLine == p22.line) = true
def redoM : Addr → Tr → List D → Option (Rr × Tr)
  | _, t, [] => if eqOk (.lst t.un) (.lst []) && Nat.blt t.dn.length LINE then (match t.un.getLast? with
    | none => some (.exc "NothingToUndo", t)
    | some d => some (.ret .non, { t with pr := d, un := t.un.dropLast, dn := t.dn ++ [t.pr] })) else none
  | _, _, _ => none
theorem redo_body {X : Cx} {E : XK} {body : List Stmt} (tk : Takes X (fun cls d _ H => E cls d H)) (hcalm : X.calm = true) (hu : X.A.units + 65 < cLine) (ex : ExcOk X "NothingToUndo") (hg : glB X.env.scope "NothingToUndo" = true) (s0 : SlotIs X 0 "self") (sh : ShRedo body) (tc : TCls X.K X.mg) (hN : X.N.length = 1) :
    ∃ t, PSs X body t ∧ ∀ vs H Q, spM X.K X.mg redoM vs H Q E → t { nx := fun _ H' => Q .non H', rt := Q } (L2.start X.N vs) H := by
  obtain ⟨m, j, p1, p2, p3, p4, p5, p6, p7, p8, p9, p10, p11, p12, p13, p14, p15, p16, p17, p18, p19, p20, p21, p22, p23, rfl, hl, hl2⟩ := sh
  obtain ⟨g1, g2, _⟩ := glB_ok hg
  obtain ⟨Ca, B, newId, initId, bmB, f1, f2, f3, f4, f5, f6⟩ := ex
  refine ⟨_, pss_cons (ps_if (pt_cmpR (cop_ok (xc := nox) .eq hu) s0.fld (pe_lst pa_nil) rfl) (pss_one (ps_raise hcalm tk (pmk_own f1 f2 f3 f4 (raises_own f5 f6) g1 g2))) pss_nil)
    (pss_cons (m_append s0 s0.fld rfl hl) (pss_one (m_set s0 (m_pop s0 hl2) rfl))), fun vs H Q h => ?_⟩
  obtain ⟨F, p, pd, pu, ws, t, ds, r, rfl, sF, ta, rs, hM, post⟩ := h
  have ta' := ta
  obtain ⟨C, dx, vn, vp, xs, ys, h1, h2, h3, h4, h5, h6, h7, h8, h9, n1, n2, n3⟩ := ta'
  cases rs with
  | cons _ _ => cases hM
  | nil =>
    have hM' : (if eqOk (.lst t.un) (.lst []) && Nat.blt t.dn.length LINE then (match t.un.getLast? with
      | none => some (Rr.exc "NothingToUndo", t)
      | some d => some (Rr.ret .non, { t with pr := d, un := t.un.dropLast, dn := t.dn ++ [t.pr] })) else none) = some r := hM
    split at hM'
    · rename_i hc
      simp only [Bool.and_eq_true] at hc
      have cl := tc.cls C h1
      have e0 : (L2.start X.N [V.ref p])[0]? = some (some (.ref p)) := rfl
      have npd : p ≠ pd := fun z => by subst z; rw [h2] at h3; cases h3
      have npu : p ≠ pu := fun z => by subst z; rw [h2] at h4; cases h4
      unfold tSeq tIfS tTest tOp
      refine rd_fld e0 h2 cl (tc.n3 C h1) (look_undone ..) ?_
      refine ⟨by show 0 ≤ sizeLine; omega, fun q hq => ?_⟩
      have nqp : q ≠ p := fun z => by subst z; rw [h2] at hq; cases hq
      have nqd : q ≠ pd := fun z => by subst z; rw [h3] at hq; cases hq
      have nqu : q ≠ pu := fun z => by subst z; rw [h4] at hq; cases hq
      have k2 : upd H q (.lst []) p = some (.ins C dx (fT vn vp (.ref pd) (.ref pu))) := by rw [upd_ne nqp.symm]; exact h2
      have k3 : upd H q (.lst []) pd = some (.lst xs) := by rw [upd_ne nqd.symm]; exact h3
      have k4 : upd H q (.lst []) pu = some (.lst ys) := by rw [upd_ne nqu.symm]; exact h4
      have x0 : Ext F H F (upd H q (.lst [])) := Ext.newH sF hq
      refine ⟨F, .lst t.un, .lst [], eqD (.lst t.un) (.lst []), x0.s, .inr ⟨pu, rfl, ys, k4, h8⟩, .inr ⟨q, rfl, [], upd_same, .nil⟩, by show (if _ then _ else _) = _; rw [if_pos hc.1], ?_⟩
      cases hs : t.un.getLast? with
      | none =>
        rw [hs] at hM'
        cases hM'
        have : t.un = [] := List.getLast?_eq_none_iff.mp hs
        rw [this]
        exact ⟨true, rfl, post Ca F _ f3 x0⟩
      | some d =>
        rw [hs] at hM'
        cases hM'
        have hne : t.un ≠ [] := fun z => by rw [z] at hs; cases hs
        have hb : eqD (.lst t.un) (.lst []) = false := by
          cases q : t.un with
          | nil => exact absurd q hne
          | cons a b => rfl
        rw [hb]
        refine ⟨false, rfl, ?_⟩

        refine st_next ?_
        have ho : xs.length < sizeLine := by
          rw [h7.length, sizeLine_eq]
          have := (Nat.blt_eq).mp hc.2
          exact this
        obtain ⟨v, hv, rv⟩ := h8.get (i := t.un.length - 1) (by rw [List.getLast?_eq_getElem?] at hs; exact hs)
        rw [← h8.length] at hv
        dsimp only
        unfold tDrop tBM
        refine rd_fld e0 k2 cl (tc.n2 C h1) (look_done ..) ?_
        refine ⟨ty_lst k3, ?_⟩
        unfold tCons tNil
        refine rd_fld e0 k2 cl (tc.n1 C h1) (look_present ..) ?_
        refine ⟨pd, xs, vp, rfl, rfl, k3, ho, ?_⟩
        dsimp only
        unfold sFld tBM0
        refine rd_fld e0 (by rw [upd_ne npd]; exact k2) cl (tc.n3 C h1) (look_undone ..) ?_
        have k5 : upd (upd H q (.lst [])) pd (.lst (xs ++ [vp])) pu = some (.lst ys) := by rw [upd_ne h9.symm]; exact k4
        refine ⟨ty_lst k5, pu, ys, v, rfl, rfl, k5, hv, ?_⟩
        refine ⟨.ref p, e0, p, C, dx, fT vn vp (.ref pd) (.ref pu), rfl, (by rw [upd_ne npu, upd_ne npd]; exact k2), cl, tc.n1 C h1, by show 4 < 1000; omega, ?_⟩
        have keep : ∀ x o, x ≠ p → x ≠ pd → x ≠ pu → H x = some o → upd (upd (upd (upd H q (.lst [])) pd (.lst (xs ++ [vp]))) pu (.lst ys.dropLast)) p (.ins C dx (putF "present" v (fT vn vp (.ref pd) (.ref pu)))) x = some o := fun x o a1 a2 a4 e => by
          have a3 : x ≠ q := fun z => by subst z; rw [hq] at e; cases e
          rw [upd_ne a1, upd_ne a4, upd_ne a2, upd_ne a3]
          exact e
        refine post .non F _ pd pu ?c ?t (.inl rfl) (.inl rfl) .non
        case c => exact ⟨Same.refl _, fun x o hz e => keep x o (fun z => hz (.inl z)) (fun z => hz (.inr (.inl z))) (fun z => hz (.inr (.inr z))) e, fun x o e => keep x o (fun z => by subst z; rw [n1] at e; cases e) (fun z => by subst z; rw [n2] at e; cases e) (fun z => by subst z; rw [n3] at e; cases e) (sF _ _ e), fun x o e => .inl e⟩
        case t =>
          refine ⟨C, dx, vn, v, xs ++ [vp], ys.dropLast, h1, ?_, ?_, ?_, h5, rv, h7.append (.cons h6 .nil), rdrop h8, h9, n1, n2, n3⟩
          · rw [upd_same]; rfl
          · rw [upd_ne npd.symm, upd_ne h9, upd_same]
          · rw [upd_ne npu.symm, upd_same]
    · cases hM'
end LS

set_option Elab.async false
set_option linter.all false
set_option maxRecDepth 100000
set_option maxHeartbeats 1000000
/-! LT3: statements told by the checker ahead of others; the context with a class; go, turn. -/
namespace LS
open PySem PySem.Spec PyProof.Rows L2
section
variable {X : Cx} {xc : V → Str → Prop} {W : WX} {G : Fns} {gc : GC}
def tPre (X : Cx) (xc : V → Str → Prop) (W : WX) (G : Fns) (ss : Ss) (T : TS) : TS := fun D σ H => ∃ H0 F ρ r, Rel X.K X.mg xc H0 F ρ σ H ∧ evSs G ss ρ = some r ∧ PostS X xc W H0 F { D with nx := T D } r
theorem pre_cons {s : S} {ss : Ss} {st : Stmt} {sts : List Stmt} {T : TS} (h : PS X st (tS X xc W G s)) (t : PSs X sts (tPre X xc W G ss T)) : PSs X (st :: sts) (tPre X xc W G (.cons s ss) T) := (pss_cons h t).of fun D σ H ⟨H0, F, ρ, r, R, ev, post⟩ => by
  obtain ⟨q, h1, h2⟩ := evCons ev
  refine ⟨H0, F, ρ, q, R, h1, ?_⟩
  rcases h2 with ⟨ρ', rfl, h3⟩ | ⟨h3, rfl⟩
  · exact fun F' σ' H' s' R' => ⟨H0, F', ρ', r, R', h3, post.later s'⟩
  · cases r with
    | nx ρ' => exact absurd rfl (h3 ρ')
    | rt d => exact post
    | ex c ρ' => exact post
theorem pre_frz {i : Nat} {ss : Ss} {sts : List Stmt} {T : TS} (t : PSs X sts (tPre X xc W G ss T)) : PSs X sts (tPre X xc W G (.cons (.frz i) ss) T) := t.of fun D σ H ⟨H0, F, ρ, r, R, ev, post⟩ => by
  obtain ⟨q, h1, h2⟩ := evCons ev
  have h1' : (match look ρ i with
    | .ow d => some (So.nx (ρ.set i (.fz d)))
    | .fz d => some (.nx ρ)
    | _ => none) = some q := h1
  split at h1'
  · rename_i d hi
    cases h1'
    rcases h2 with ⟨ρ', e, h3⟩ | ⟨h3, _⟩
    · cases e
      obtain ⟨F', s', R'⟩ := R.frz hi
      exact ⟨H0, F', _, r, R', h3, post.later s'⟩
    · exact absurd rfl (h3 _)
  · cases h1'
    rcases h2 with ⟨ρ', e, h3⟩ | ⟨h3, _⟩
    · cases e
      exact ⟨H0, F, ρ, r, R, h3, post⟩
    · exact absurd rfl (h3 _)
  · cases h1'
theorem run_pre {rest : List Stmt} {T : TS} (C : Ctx gc G X xc W) (hr : PSs X rest T) : ∀ (ss : Ss) {pre : List Stmt}, ckSs X.N ss gc X.env.scope pre = true → PSs X (pre ++ rest) (tPre X xc W G ss T)
  | .nil, [], _ => hr.of fun D σ H ⟨H0, F, ρ, r, R, ev, post⟩ => by
    have ev' : some (So.nx ρ) = some r := ev
    cases ev'
    exact post F σ H (Same.refl _) R
  | .nil, _ :: _, h => by simp [ckSs] at h
  | .cons s ss, pre, h => by
    by_cases hf : ∃ i, s = .frz i
    · obtain ⟨i, rfl⟩ := hf
      simp only [ckSs] at h
      exact pre_frz (run_pre C hr ss h)
    by_cases hl : ∃ i, s = .lck i
    · obtain ⟨i, rfl⟩ := hl
      simp only [ckSs] at h
      refine (pss_or (run_pre C hr ss h) (pss_lk (run_pre C hr ss h))).of fun D σ H ⟨H0, F, ρ, r, R, ev, post⟩ => ?_
      obtain ⟨q, h1, h2⟩ := evCons ev
      have h1' : (match look ρ i with
        | .ow (.dct kvs) => some (So.nx (ρ.set i (.fz (.ldt kvs))))
        | .fz d => some (.nx ρ)
        | _ => none) = some q := h1
      split at h1'
      · rename_i d hi
        cases h1'
        rcases h2 with ⟨ρ', e, h3⟩ | ⟨h3, _⟩
        · cases e
          obtain ⟨p, kvs, e1, e2⟩ := R.lck hi
          refine .inr ⟨p, _, e1, trivial, fun od => ?_⟩
          obtain ⟨F', s', R'⟩ := e2 od
          exact ⟨H0, F', _, r, R', h3, post.later s'⟩
        · exact absurd rfl (h3 _)
      · cases h1'
        rcases h2 with ⟨ρ', e, h3⟩ | ⟨h3, _⟩
        · cases e
          exact .inl ⟨H0, F, ρ, r, R, h3, post⟩
        · exact absurd rfl (h3 _)
      · cases h1'
    · cases pre with
      | nil => cases s <;> first
        | (simp [ckSs] at h; done)
        | exact absurd ⟨_, rfl⟩ hf
        | exact absurd ⟨_, rfl⟩ hl
      | cons st sts =>
        have h' : (ckS X.N s gc X.env.scope st && ckSs X.N ss gc X.env.scope sts) = true := by
          cases s <;> first
            | (simpa only [ckSs] using h)
            | exact absurd ⟨_, rfl⟩ hf
            | exact absurd ⟨_, rfl⟩ hl
        simp only [Bool.and_eq_true] at h'
        exact pre_cons (sS s C h'.1) (run_pre C hr ss h'.2)
theorem run_take {body : List Stmt} (n : Nat) {T : TS} (C : Ctx gc G X xc W) {ss : Ss} (h : ckSs X.N ss gc X.env.scope (body.take n) = true) (hr : PSs X (body.drop n) T) : PSs X body (tPre X xc W G ss T) := by
  have := run_pre C hr ss h
  rwa [List.take_append_drop] at this
end
/-! ### the context with classes -/
structure ClsOk (P : Program) (w : World) (K : PySem.W.Frag) (mg : Str → Option Value) (base : Heap) (lv : Nat) (G : Fns) (gc : GC) : Prop where
  fn : ∀ x g, gc.mkk x = false → LS.fnOf x G = some g → FnP P w K mg base lv x g
  mn : ∀ x, gc.mkk x = true → mg x = none
  cl : ∀ c fs, gc.cls.lookup c = some fs → ∃ C, mg c = some (.ref C) ∧ Cls K C ∧ ∀ n, fs.contains n = true → NoAttr K C n
  mt : ∀ k c m, gc.mth.contains (k, c, m) = true → ∀ g, LS.fnOf k G = some g → ∃ C f fd ps j, mg c = some (.ref C) ∧ Cls K C ∧ Meth K C m f ∧ Binds K fd ps [] ∧ j + 1 ≤ lv ∧ FnOk P w K mg base (L2.CX P w) j f fd ps (spO K mg c g)
def gcO (cts : List (Str × Cst)) (exs ein : List Str) (cls : List (Str × List Str)) (mth : List (Str × Str × Str)) : GC := { gcE cts exs ein with cls := cls, mth := mth }
theorem ctx_cls {P : Program} {w : World} {K : PySem.W.Frag} {mg : Str → Option Value} {base : Heap} {CX : CXT} {cts : List (Str × Cst)} {exs ein : List Str} {cls : List (Str × List Str)} {mth : List (Str × Str × Str)} {lv : Nat} {G : Fns} {N : List Str} {x : Str} {sc : Scope} {f : Addr} {cdv : Value} {A : Around} {outer : List Env} {s : Shared} {H : Hp} {E : XK} {W : WX} (M : ModOk cts exs ein K mg) (T : ClsOk P w K mg base lv G (gcO cts exs ein cls mth)) (nd : N.Nodup)
    (hr : Room lv (A.deeper (envOfC x sc s.heap.objs.size f cdv))) (tk : Takes (cxOf CX P w K mg base N x sc f cdv A outer s H E) W) : Ctx (gcO cts exs ein cls mth) G (cxOf CX P w K mg base N x sc f cdv A outer s H E) nox W where
  nd := nd
  calm := fun _ => rfl
  hu := by
    have := hr.un
    show (A.deeper (envOfC x sc s.heap.objs.size f cdv)).units + 65 < cLine
    omega
  nx := fun _ => rfl
  fnl := fun _ _ => rfl
  bl := M.bl
  ct := M.ct
  fn := fun y g m h => by
    obtain ⟨f', fd', ps', k, a1, a2, a3, a4, a5⟩ := T.fn y g m h
    exact ⟨f', fd', ps', k, a1, a2, a3, fun _ => hr.mono a4, a5⟩
  mn := T.mn
  cl := T.cl
  mt := fun k c m q g h => by
    obtain ⟨C, f', fd', ps', j, a1, a2, a3, a4, a5, a6⟩ := T.mt k c m q g h
    exact ⟨C, f', fd', ps', j, a1, a2, a3, a4, fun _ => hr.mono a5, a6⟩
  tk := tk
  po := passes_of (K := fun e s'' => CX outer H s E e s'') rfl
  ex := M.ex
  ei := M.ei
  ht := fun h => nomatch h
  stk := fun _ => ⟨rfl, rfl⟩
/-! ### method calls -/
section
variable {X : Cx} {W : WX}
theorem m_call {i k : Nat} {x m : Str} {C f : Addr} {fd : FuncData} {ps : List Str} {sp : Sp} {as : List Expr} {t : TA} {p apos pos : Pos} {e : Expr} (s0 : SlotIs X i x) (F : FnOk X.prog X.w X.K X.mg X.base (L2.CX X.prog X.w) k f fd ps sp) (hr : Room k X.A) (c : Cls X.K C) (hm : Meth X.K C m f)
    (hb : Binds X.K fd ps []) (tk : Takes X W) (ha : PA X (e :: as) t) (hst : (e :: as).all notSt = true) (hl : (apos.endLine == pos.line) = true) (hn : Nat.blt (e :: as).length 20 = true) :
    PE X (.Call (.Attribute (.Name x p) m apos) (e :: as) [] pos) (fun σ H Q => ∃ q dx fs, σ[i]? = some (some (.ref q)) ∧ H q = some (.ins C dx fs) ∧ fs.lookup m = none ∧ t σ H fun vs H2 => sp (.ref q :: vs) H2 Q (WE W σ)) := by
  refine ⟨fun pins s σ H Q I ⟨q, dx, fs, e1, e2, e3, h⟩ => ?_⟩
  obtain ⟨pl, ht⟩ := meth_tree (X := X) (o := .Name x p) (m := m) (as := e :: as) (apos := apos) (pos := pos) rfl hl (few_ok hst hn)
  have hst' := hst
  simp only [List.all_cons, Bool.and_eq_true] at hst'
  refine PySem.W.methodCall_KW (pl := pl) (thn (s0.pe.run pins s σ H (fun v H1 => v = .ref q ∧ H1 = H) I ⟨_, e1, rfl, rfl⟩) fun u s1 ⟨v, H1, I1, rx, z1, z2⟩ => ?_) ht
  subst z1 z2
  obtain rfl : u = Value.ref q := rx
  refine getmeth_ok I1 e2 c hm e3 ?_
  refine PySem.W.callWith_K (h₀ := X.base) (first := [.ref q]) I1.ok.mod.kin hm.kp (thn (ha.run pos pins s1 σ _ _ I1 h) fun us s2 ⟨vs, H2, I2, r2, q2⟩ => ⟨I2.kIn, ?_⟩) (star_cons hst'.1) (star_any hst'.2)
  exact run_fnS (us := .ref q :: us) (vs := .ref q :: vs) F hr hb (passAt tk σ) I2 (.cons rfl r2) q2
theorem m_call0 {i k : Nat} {x m : Str} {C f : Addr} {fd : FuncData} {ps : List Str} {sp : Sp} {p apos pos : Pos} (s0 : SlotIs X i x) (F : FnOk X.prog X.w X.K X.mg X.base (L2.CX X.prog X.w) k f fd ps sp) (hr : Room k X.A) (c : Cls X.K C) (hm : Meth X.K C m f)
    (hb : Binds X.K fd ps []) (tk : Takes X W) (hl : (apos.endLine == pos.line) = true) :
    PE X (.Call (.Attribute (.Name x p) m apos) [] [] pos) (fun σ H Q => ∃ q dx fs, σ[i]? = some (some (.ref q)) ∧ H q = some (.ins C dx fs) ∧ fs.lookup m = none ∧ sp [.ref q] H Q (WE W σ)) := by
  refine ⟨fun pins s σ H Q I ⟨q, dx, fs, e1, e2, e3, h⟩ => ?_⟩
  obtain ⟨pl, ht⟩ := meth_tree (X := X) (o := .Name x p) (m := m) (as := []) (apos := apos) (pos := pos) rfl hl rfl
  refine PySem.W.methodCall_KW (pl := pl) (thn (s0.pe.run pins s σ H (fun v H1 => v = .ref q ∧ H1 = H) I ⟨_, e1, rfl, rfl⟩) fun u s1 ⟨v, H1, I1, rx, z1, z2⟩ => ?_) ht
  subst z1 z2
  obtain rfl : u = Value.ref q := rx
  refine getmeth_ok I1 e2 c hm e3 ?_
  exact PySem.W.callWith_K0 (first := [.ref q]) I1.kIn hm.kp (run_fnS (us := [.ref q]) (vs := [.ref q]) F hr hb (passAt tk σ) I1 (.cons rfl .nil) h)
end
end LS

set_option Elab.async false
set_option linter.all false
set_option maxRecDepth 100000
set_option maxHeartbeats 1000000
/-! LT4: methods that are told by the checker up to a change. -/
namespace LS
open PySem PySem.Spec PyProof.Rows L2
section
variable {K : PySem.W.Frag} {mg : Str → Option Value} {F H : Hp} {p pd pu : Addr} {t : Tr}
theorem fT_cases {a b c d v : V} {x : Str} (h : (fT a b c d).lookup x = some v) : x = "net" ∨ x = "present" ∨ x = "done" ∨ x = "undone" := by
  unfold fT at h
  simp only [List.lookup] at h
  split at h
  · rename_i q; exact .inl (beq_iff_eq.mp q)
  · split at h
    · rename_i q; exact .inr (.inl (beq_iff_eq.mp q))
    · split at h
      · rename_i q; exact .inr (.inr (.inl (beq_iff_eq.mp q)))
      · split at h
        · rename_i q; exact .inr (.inr (.inr (beq_iff_eq.mp q)))
        · cases h
theorem TCls.all (tc : TCls K mg) {C : Addr} (h : mg "Trip" = some (.ref C)) {a b c d v : V} {x : Str} (e : (fT a b c d).lookup x = some v) : NoAttr K C x := by
  rcases fT_cases e with rfl | rfl | rfl | rfl
  · exact tc.n0 C h
  · exact tc.n1 C h
  · exact tc.n2 C h
  · exact tc.n3 C h
theorem TAt.own (tc : TCls K mg) (h : TAt K mg F H p pd pu t) : Own K mg nox F H p t.ob := by
  obtain ⟨C, dx, vn, vp, xs, ys, h1, h2, h3, h4, h5, h6, h7, h8, h9, n1, n2, n3⟩ := h
  exact ⟨C, dx, _, [vn, vp], h2, h1, fun x v e => tc.all h1 (a := vn) (b := vp) (c := .ref pd) (d := .ref pu) e, rfl, .cons h5 (.cons h6 .nil)⟩
theorem look_cons_succ (s : SV) (r : En) (n : Nat) : look (s :: r) (n + 1) = look r n := rfl
theorem entryO_rel {N : List Str} {ds : List D} {d : D} {ws : List V} (s : Same F H) (rs : Reps K mg nox F ws ds) (fp : F p = none) (ow : Own K mg nox F H p d) {n : Nat} (hn : ds.length + n + 1 = N.length) :
    Rel K mg nox (F, H) F (.bg (some p) d :: (ds.map .fz ++ List.replicate n .un)) (L2.start N (.ref p :: ws)) H := by
  have e := rs.length
  refine ⟨Ext.refl s, ?_, fun i => ?_, fun i j a b q _ hi _ _ _ => ?_⟩
  · unfold L2.start
    simp only [List.length_cons, List.length_append, List.length_map, List.length_replicate]
    omega
  · cases i with
    | zero => exact ⟨p, rfl, fun q hq => (Option.some.inj hq).symm, fp, ow⟩
    | succ i =>
      show SlotOk K mg nox H F H _ _ (look (ds.map .fz ++ List.replicate n .un) i)
      by_cases h : i < ds.length
      · obtain ⟨d', h1, h2⟩ := look_app_fz ds (List.replicate n .un) i h
        rw [h2]
        obtain ⟨v, h3, h4⟩ := rs.get h1
        refine ⟨v, ?_, h4⟩
        unfold L2.start
        rw [List.getElem?_append_left (by simp; omega), List.map_cons, List.getElem?_cons_succ, List.getElem?_map, h3]
        rfl
      · rw [look_app_un ds _ i (by omega)]
        trivial
  · cases i with
    | zero => cases hi
    | succ i =>
      rw [look_cons_succ] at hi
      by_cases h : i < ds.length
      · obtain ⟨d', h1, h2⟩ := look_app_fz ds (List.replicate n .un) i h
        rw [h2] at hi
        cases hi
      · rw [look_app_un ds _ i (by omega)] at hi
        cases hi
end
def ShTail (N : List Str) (sc : Scope) (gc : GC) (eE : E) (l : List Stmt) : Prop := ∃ (e : Expr) (p1 p2 p3 p4 p5 p6 : Pos), l = [.Expr (.Call (.Attribute (.Name "self" p1) "change" p2) [e] [] p3) p4, .Return (some (.Name "limit" p5)) p6] ∧
  ckE N eE gc sc e = true ∧ notSt e = true ∧ (p2.endLine == p3.line) = true
/-- statements of a method, then self.change(e), return limit -/
def wlkM (G : Fns) (ss : Ss) (n np : Nat) (eE : E) (iL : Nat) : Addr → Tr → List D → Option (Rr × Tr) := fun p t ds =>
  if ds.length = np then
    match evSs G ss (.bg (some p) t.ob :: (ds.map .fz ++ List.replicate n .un)) with
    | some (.ex c _) => some (.exc c, t)
    | some (.nx ρ) => (match cleanE (evE G eE ρ) with
      | some st => (match look ρ iL with
        | .fz lim => (match look ρ 0 with
          | .bg (some q) _ => if q = p then (match changeM p t [st] with
            | some (_, t') => some (.ret lim, t')
            | none => none) else none
          | _ => none)
        | _ => none)
      | none => none)
    | _ => none
  else none
theorem wlkM_some {G : Fns} {ss : Ss} {n np : Nat} {eE : E} {iL : Nat} {p : Addr} {t : Tr} {ds : List D} {r : Rr × Tr} (h : wlkM G ss n np eE iL p t ds = some r) : ds.length = np ∧ ∃ q, evSs G ss (.bg (some p) t.ob :: (ds.map .fz ++ List.replicate n .un)) = some q ∧
    ((∃ c ρ, q = .ex c ρ ∧ r = (.exc c, t)) ∨ ∃ ρ st lim d t' z, q = .nx ρ ∧ cleanE (evE G eE ρ) = some st ∧ look ρ iL = .fz lim ∧ look ρ 0 = .bg (some p) d ∧ changeM p t [st] = some (z, t') ∧ r = (.ret lim, t')) := by
  unfold wlkM at h
  split at h
  · rename_i hl
    refine ⟨hl, ?_⟩
    split at h
    · rename_i c ρ he; cases h; exact ⟨_, he, .inl ⟨c, ρ, rfl, rfl⟩⟩
    · rename_i ρ he
      split at h
      · rename_i st h1
        split at h
        · rename_i lim h2
          split at h
          · rename_i q d h3
            split at h
            · rename_i hq
              subst hq
              split at h
              · rename_i z t' h4
                cases h
                exact ⟨_, he, .inr ⟨ρ, st, lim, d, t', z, rfl, h1, h2, h3, h4, rfl⟩⟩
              · cases h
            · cases h
          · cases h
        · cases h
      · cases h
    · cases h
  · cases h
theorem changeM_ret {p : Addr} {t t' : Tr} {ds : List D} {z : Rr} (h : changeM p t ds = some (z, t')) : z = .ret .non := by
  unfold changeM at h
  split at h
  · split at h
    · cases h; rfl
    · cases h
  · cases h
theorem wlk_body {X : Cx} {Ex : XK} {body : List Stmt} {gc : GC} {G : Fns} {ss : Ss} {eE : E} {iL k nt np n : Nat} {fc : Addr} {fd : FuncData} {ps : List Str} (C : Ctx gc G X nox (fun cls d _ H => Ex cls d H)) (hh : gc.hot = false) (s0 : SlotIs X 0 "self") (sl : SlotIs X iL "limit")
    (hck : ckSs X.N ss gc X.env.scope (body.take nt) = true) (sh : ShTail X.N X.env.scope gc eE (body.drop nt)) (Fc : FnOk X.prog X.w X.K X.mg X.base (L2.CX X.prog X.w) k fc fd ps (spM X.K X.mg changeM)) (hr : Room k X.A) (hb : Binds X.K fd ps [])
    (tc : TCls X.K X.mg) (hm : ∀ C, X.mg "Trip" = some (.ref C) → Meth X.K C "change" fc) (hN : np + n + 1 = X.N.length) :
    ∃ T, PSs X body T ∧ ∀ vs H Q, spM X.K X.mg (wlkM G ss n np eE iL) vs H Q Ex → T { nx := fun _ H' => Q .non H', rt := Q } (L2.start X.N vs) H := by
  obtain ⟨e, p1, p2, p3, p4, p5, p6, hbody, ck, hst, hl⟩ := sh
  obtain ⟨Ct, hCt⟩ := tc.ex
  have hrest := pss_cons (ps_expr (m_call (i := 0) (p := p1) (apos := p2) (pos := p3) s0 Fc hr (tc.cls Ct hCt) (hm Ct hCt) hb C.tk (pa_cons (sE eE C ck).pe pa_nil (star_cons hst)) (by rw [List.all_cons, hst]; rfl) hl rfl) (sw_none (l := p4.line) rfl)) (pss_one (ps_ret (pos := p6) (sl.pe (p := p5))))
  rw [← hbody] at hrest
  refine ⟨_, run_take nt C hck hrest, fun vs H Q h => ?_⟩
  obtain ⟨F, p, pd, pu, ws, t, ds, r, rfl, sF, ta, rs, hM, post⟩ := h
  obtain ⟨hl', q, hev, hq⟩ := wlkM_some hM
  have ta' := ta
  obtain ⟨C', dx, vn, vp, xs, ys, h1, h2, h3, h4, h5, h6, h7, h8, h9, n1, n2, n3⟩ := ta'
  cases hCt.symm.trans h1
  refine ⟨(F, H), F, _, q, entryO_rel sF rs n1 (ta.own tc) (by rw [hl']; exact hN), hev, ?_⟩
  rcases hq with ⟨c, ρ, rfl, rfl⟩ | ⟨ρ, st, lim, d, t', z, rfl, k1, k2, k3, k4, rfl⟩
  · exact fun C2 F2 σ2 H2 hc R => post C2 F2 H2 hc R.base
  · intro F1 σ1 H1 s1 R
    cases changeM_ret k4
    obtain ⟨p', e0, hp', _⟩ := R.behind k3
    cases hp' p rfl
    obtain ⟨vl, el, rl⟩ := R.var k2
    have c1 := R.base.h _ _ h2
    unfold tSeq tDrop
    refine ⟨p, dx, _, e0, c1, ?_, ?_⟩
    · cases q : List.lookup ("change" : Str) (fT vn vp (.ref pd) (.ref pu)) with
      | none => exact q
      | some v =>
        have n := tc.all h1 q
        unfold NoAttr at n
        rw [(hm _ h1).at_] at n
        cases n
    · unfold tCons tNil
      refine rdK R k1 fun v F2 H2 x2 rv => ?_
      have x02 := R.base.trans x2
      refine ⟨F2, p, pd, pu, [v], t, [st], _, rfl, x2.s, ta.ext x02, .cons rv .nil, k4, ?_⟩
      intro w F' H' pd' pu' cg ta2 o1 o2 _
      exact ⟨vl, el, post vl F' H' pd' pu' (cg.after x02) ta2 (o1.imp id x02.h.free) (o2.imp id x02.h.free) ((rl.mono x2.f).mono cg.f)⟩
end LS

set_option Elab.async false
set_option linter.all false
set_option maxRecDepth 100000
set_option maxHeartbeats 1000000
/-! LT5: what stands behind changes; __init__. -/
namespace LS
open PySem PySem.Spec PyProof.Rows L2
section
variable {K : PySem.W.Frag} {mg : Str → Option Value} {xc : V → Str → Prop} {A B B' F H F' H' : Hp} {ρ ρ' : En} {σ : L2.St}
/-- what stands behind changes, or more stands behind -/
theorem Rel.chg (R : Rel K mg xc (A, B) F ρ σ H) (f : Same F F') (s : Same F' H') (n : ∀ a o, F' a = some o → F a = some o ∨ H a = none ∨ ∃ xs, o = .tup xs) (b : Same B' H') (d : ∀ a, B' a ≠ none → B a ≠ none ∨ (H a = none ∧ F' a = none))
    (k : ∀ a o, B a = none → H a = some o → H' a = some o) (hl : ρ'.length = ρ.length)
    (sl : ∀ i, (look ρ' i = look ρ i ∧ ∀ w d, look ρ i ≠ .bg w d) ∨ look ρ' i = .un ∨ ∃ w d, look ρ' i = .bg w d ∧ SlotOk K mg xc B' F' H' σ i (.bg w d)) : Rel K mg xc (A, B') F' ρ' σ H' := by
  have bn : ∀ a, F' a ≠ none → B a = none → B' a = none := fun a hf hb => by
    cases z : B' a with
    | none => rfl
    | some o =>
      rcases d a (by rw [z]; exact fun h => nomatch h) with q | ⟨_, q⟩
      · exact absurd hb q
      · exact absurd q hf
  have own : ∀ i e, look ρ' i = .ow e → look ρ i = .ow e := fun i e h => by
    rcases sl i with ⟨q, _⟩ | q | ⟨w, d', q, _⟩
    · rw [← q]; exact h
    · rw [q] at h; cases h
    · rw [q] at h; cases h
  refine ⟨⟨R.base.f.trans f, b, s, fun a o e => ?_⟩, by rw [hl]; exact R.len, fun i => ?_, fun i j e1 e2 q hij h1 h2 => R.disj i j e1 e2 q hij (own i e1 h1) (own j e2 h2)⟩
  · have e' : F' a ≠ none := by rw [e]; exact fun z => nomatch z
    rcases n a o e with q | q | q
    · rcases R.base.n a o q with w | w | w
      · exact .inl w
      · exact .inr (.inl (bn a e' w))
      · exact .inr (.inr w)
    · exact .inr (.inl (bn a e' (R.base.h.free q)))
    · exact .inr (.inr q)
  · rcases sl i with ⟨q, nb⟩ | q | ⟨w, d', q, ok⟩
    · rw [q]
      have z := R.slot i
      cases e : look ρ i with
      | un => trivial
      | fz d => rw [e] at z; obtain ⟨v, h1, h2⟩ := z; exact ⟨v, h1, h2.mono f⟩
      | bg w d => exact absurd e (nb w d)
      | ow d1 =>
        rw [e] at z
        obtain ⟨p, h1, h2, h3, h4⟩ := z
        obtain ⟨u, hu⟩ := h4.some
        have hp : F' p = none := by
          cases zz : F' p with
          | none => rfl
          | some o =>
            rcases n p o zz with w | w | ⟨us, w⟩
            · rw [h2] at w; cases w
            · rw [hu] at w; cases w
            · subst w
              have e1 := s _ _ zz
              have e2 := k p u h3 hu
              rw [e1] at e2
              cases e2
              exact (h4.notTup (Same.refl _) hu).elim
        refine ⟨p, h1, hp, ?_, h4.mono f fun o eo => k p o h3 eo⟩
        show B' p = none
        cases zz : B' p with
        | none => rfl
        | some o =>
          rcases d p (by rw [zz]; exact fun z => nomatch z) with q | ⟨q, _⟩
          · exact absurd h3 q
          · rw [hu] at q; cases q
    · rw [q]; trivial
    · rw [q]; exact ok
/-- one place that stands behind is written -/
theorem Rel.chg1 (R : Rel K mg xc (A, B) F ρ σ H) {q : Addr} {o : HO} (hq : B q ≠ none) (fq : F q = none) (hl : ρ'.length = ρ.length)
    (sl : ∀ i, (look ρ' i = look ρ i ∧ ∀ w d, look ρ i ≠ .bg w d) ∨ look ρ' i = .un ∨ ∃ w d, look ρ' i = .bg w d ∧ SlotOk K mg xc (L2.upd B q o) F (L2.upd H q o) σ i (.bg w d)) : Rel K mg xc (A, L2.upd B q o) F ρ' σ (L2.upd H q o) := by
  refine R.chg (Same.refl _) (fun a u e => ?_) (fun a u e => .inl e) (fun a u e => ?_) (fun a e => ?_) (fun a u hb e => ?_) hl sl
  · rw [upd_ne (fun z => by subst z; rw [fq] at e; cases e)]; exact R.base.s _ _ e
  · by_cases z : a = q
    · subst z; rw [upd_same] at e ⊢; exact e
    · rw [upd_ne z] at e ⊢; exact R.base.h _ _ e
  · by_cases z : a = q
    · subst z; exact .inl hq
    · rw [upd_ne z] at e; exact .inl e
  · rw [upd_ne (fun z => by subst z; exact hq hb)]; exact e
end
theorem Ext.free2 {F H F' H' : Hp} {p : Addr} {o : HO} (b : Ext F H F' H') (e : H p = some o) (nt : ∀ us, o ≠ .tup us) (n : F p = none) : F' p = none := by
  cases z : F' p with
  | none => rfl
  | some u =>
    rcases b.n p u z with w | w | ⟨us, w⟩
    · rw [n] at w; cases w
    · rw [e] at w; cases w
    · subst w
      have q := b.s _ _ z
      rw [b.h _ _ e] at q
      cases q
      exact absurd rfl (nt us)
def ShInit (N : List Str) (sc : Scope) (gc : GC) (eP : E) (l : List Stmt) : Prop := ∃ (e : Expr) (p1 p2 p3 p4 p5 p6 p7 p8 p9 p10 p11 p12 p13 p14 p15 : Pos), l = [.Assign [.Attribute (.Name "self" p1) "net" p2] (.Name "net" p3) p4, .Assign [.Attribute (.Name "self" p5) "present" p6] e p7,
  .Assign [.Attribute (.Name "self" p8) "done" p9] (.List [] p10) p11, .Assign [.Attribute (.Name "self" p12) "undone" p13] (.List [] p14) p15] ∧ ckE N eP gc sc e = true ∧ notComp e = true
/-- what stands behind is not read any more -/
def unbS : SV → SV
  | .bg _ _ => .un
  | s => s
def unb (ρ : En) : En := ρ.map unbS
theorem look_unb : ∀ (ρ : En) (i : Nat), look (unb ρ) i = unbS (look ρ i)
  | [], _ => rfl
  | _ :: _, 0 => rfl
  | _ :: ρ, i + 1 => look_unb ρ i
theorem unb_ok (ρ : En) (i : Nat) : (look (unb ρ) i = look ρ i ∧ ∀ w d, look ρ i ≠ .bg w d) ∨ look (unb ρ) i = .un := by
  rw [look_unb]
  cases look ρ i with
  | bg w d => exact .inr rfl
  | _ => exact .inl ⟨rfl, fun _ _ z => nomatch z⟩
def ini0 : D := .obj "Trip" [] []
def initM (G : Fns) (ss : Ss) (n : Nat) (eP : E) (p : Addr) (nd rd : D) : Option (Sum Str Tr) :=
  match evSs G ss (.bg (some p) ini0 :: ([nd, rd].map .fz ++ List.replicate n .un)) with
  | some (.ex c _) => some (.inl c)
  | some (.nx ρ) => (match look ρ 1 with
    | .fz d => (match look ρ 0 with
      | .bg (some q) _ => if q = p then (match cleanE (evE G eP (unb ρ)) with
        | some pr => some (.inr ⟨d, pr, [], []⟩)
        | none => none) else none
      | _ => none)
    | _ => none)
  | _ => none
theorem initM_some {G : Fns} {ss : Ss} {n : Nat} {eP : E} {p : Addr} {nd rd : D} {r : Sum Str Tr} (h : initM G ss n eP p nd rd = some r) : ∃ q, evSs G ss (.bg (some p) ini0 :: ([nd, rd].map .fz ++ List.replicate n .un)) = some q ∧
    ((∃ c ρ, q = .ex c ρ ∧ r = .inl c) ∨ ∃ ρ d d0 pr, q = .nx ρ ∧ look ρ 1 = .fz d ∧ look ρ 0 = .bg (some p) d0 ∧ cleanE (evE G eP (unb ρ)) = some pr ∧ r = .inr ⟨d, pr, [], []⟩) := by
  unfold initM at h
  split at h
  · rename_i c ρ he; cases h; exact ⟨_, he, .inl ⟨c, ρ, rfl, rfl⟩⟩
  · rename_i ρ he
    split at h
    · rename_i d h1
      split at h
      · rename_i q d0 h2
        split at h
        · rename_i hq
          subst hq
          split at h
          · rename_i pr h3
            cases h
            exact ⟨_, he, .inr ⟨ρ, d, d0, pr, rfl, h1, h2, h3, rfl⟩⟩
          · cases h
        · cases h
      · cases h
    · cases h
  · cases h
def spI (K : PySem.W.Frag) (mg : Str → Option Value) (M : Addr → D → D → Option (Sum Str Tr)) : Sp := fun vs H Q E => ∃ F p C dx a b nd rd r, vs = [.ref p, a, b] ∧ Same F H ∧ mg "Trip" = some (.ref C) ∧ H p = some (.ins C dx []) ∧ F p = none ∧ Rep K mg nox F a nd ∧ Rep K mg nox F b rd ∧ M p nd rd = some r ∧ match r with
  | .inr t => ∀ F' H' pd pu, Chg (fun a => a = p) F H F' H' → TAt K mg F' H' p pd pu t → H pd = none → H pu = none → Q .non H'
  | .inl c => ∀ C F' H', mg c = some (.ref C) → Ext F H F' H' → E (.ref C) none H'
theorem init_body {X : Cx} {Ex : XK} {body : List Stmt} {gc : GC} {G : Fns} {ss : Ss} {eP : E} {nt n : Nat} (C : Ctx gc G X nox (fun cls d _ H => Ex cls d H)) (s0 : SlotIs X 0 "self") (s1 : SlotIs X 1 "net")
    (hck : ckSs X.N ss gc X.env.scope (body.take nt) = true) (sh : ShInit X.N X.env.scope gc eP (body.drop nt)) (tc : TCls X.K X.mg) (hN : n + 3 = X.N.length) :
    ∃ T, PSs X body T ∧ ∀ vs H Q, spI X.K X.mg (initM G ss n eP) vs H Q Ex → T { nx := fun _ H' => Q .non H', rt := Q } (L2.start X.N vs) H := by
  obtain ⟨e, p1, p2, p3, p4, p5, p6, p7, p8, p9, p10, p11, p12, p13, p14, p15, hbody, ck, hnc⟩ := sh
  have hrest := pss_cons (m_set (f := "net") (p := p1) (p2 := p2) (pos := p4) s0 (s1.pe (p := p3)) rfl) (pss_cons (m_set (f := "present") (p := p5) (p2 := p6) (pos := p7) s0 (sE eP C ck).pe hnc)
    (pss_cons (m_set (f := "done") (p := p8) (p2 := p9) (pos := p11) s0 (pe_lst (pos := p10) pa_nil) rfl) (pss_one (m_set (f := "undone") (p := p12) (p2 := p13) (pos := p15) s0 (pe_lst (pos := p14) pa_nil) rfl))))
  rw [← hbody] at hrest
  refine ⟨_, run_take nt C hck hrest, fun vs H Q h => ?_⟩
  obtain ⟨F, p, Ct, dx, a, b, nd, rd, r, rfl, sF, h1, h2, n1, ra, rb, hM, post⟩ := h
  obtain ⟨q, hev, hq⟩ := initM_some hM
  have ow : Own X.K X.mg nox F H p ini0 := ⟨Ct, dx, [], [], h2, h1, fun _ _ z => (nomatch z), rfl, .nil⟩
  refine ⟨(F, H), F, _, q, entryO_rel sF (.cons ra (.cons rb .nil)) n1 ow (by show 2 + n + 1 = _; omega), hev, ?_⟩
  have cl := tc.cls Ct h1
  rcases hq with ⟨c, ρ, rfl, rfl⟩ | ⟨ρ, d, d0, pr, rfl, k1, k2, k3, rfl⟩
  · exact fun C2 F2 σ2 H2 hc R => post C2 F2 H2 hc R.base
  · intro F1 σ1 H1 s1' R
    obtain ⟨p', e0, hp', fp, _⟩ := R.behind k2
    cases hp' p rfl
    obtain ⟨vn, en, rn⟩ := R.var k1
    have c1 := R.base.h _ _ h2
    unfold tSeq
    refine ⟨vn, en, .ref p, e0, p, Ct, dx, [], rfl, c1, cl, tc.n0 Ct h1, by show 0 < 1000; omega, ?_⟩
    dsimp only
    have R2 : Rel X.K X.mg nox (F, upd H p (.ins Ct dx (putF "net" vn []))) F1 (unb ρ) σ1 (upd H1 p (.ins Ct dx (putF "net" vn []))) := by
      refine R.chg1 (by show H p ≠ none; rw [h2]; exact fun z => nomatch z) fp (by unfold unb; simp) fun i => ?_
      rcases unb_ok ρ i with z | z
      · exact .inl z
      · exact .inr (.inl z)
    refine rdK R2 k3 fun vp F3 H3 x3 rp => ?_
    have c2 : L2.upd H1 p (.ins Ct dx (putF "net" vn [])) p = some (.ins Ct dx (putF "net" vn [])) := upd_same
    have c3 := x3.h _ _ c2
    have fp3 : F3 p = none := x3.free2 c2 (fun _ z => nomatch z) fp
    refine ⟨.ref p, e0, p, Ct, dx, _, rfl, c3, cl, tc.n1 Ct h1, by show 1 < 1000; omega, ?_⟩
    refine ⟨by show 0 ≤ sizeLine; omega, fun q1 hq1 => ?_⟩
    have d1 : p ≠ q1 := fun z => by subst z; rw [upd_same] at hq1; cases hq1
    rw [upd_ne d1.symm] at hq1
    refine ⟨.ref p, e0, p, Ct, dx, _, rfl, (by rw [upd_ne d1, upd_same]), cl, tc.n2 Ct h1, by show 2 < 1000; omega, ?_⟩
    dsimp only
    refine ⟨by show 0 ≤ sizeLine; omega, fun q2 hq2 => ?_⟩
    have d2 : p ≠ q2 := fun z => by subst z; rw [upd_same] at hq2; cases hq2
    rw [upd_ne d2.symm] at hq2
    have d3 : q1 ≠ q2 := fun z => by subst z; rw [upd_same] at hq2; cases hq2
    rw [upd_ne d3.symm, upd_ne d2.symm] at hq2
    refine ⟨.ref p, e0, p, Ct, dx, _, rfl, (by rw [upd_ne d2, upd_same]), cl, tc.n3 Ct h1, by show 3 < 1000; omega, ?_⟩
    have old : ∀ a, H3 a = none → a ≠ p → H a = none := fun a ha hp => by
      have := x3.h.free ha
      rw [upd_ne hp] at this
      exact R.base.h.free this
    have key : ∀ (x : Addr) (o i4 i6 i8 : HO), x ≠ p → H3 x = some o → L2.upd (L2.upd (L2.upd (L2.upd (L2.upd H3 p i4) q1 (.lst [])) p i6) q2 (.lst [])) p i8 x = some o := fun x o i4 i6 i8 a1 e => by
      have a2 : x ≠ q1 := fun z => by subst z; rw [hq1] at e; cases e
      have a3 : x ≠ q2 := fun z => by subst z; rw [hq2] at e; cases e
      rw [upd_ne a1, upd_ne a3, upd_ne a1, upd_ne a2, upd_ne a1]
      exact e
    refine post F3 _ q1 q2 ?c ?t (old q1 hq1 d1.symm) (old q2 hq2 d2.symm)
    case c =>
      refine ⟨(R.base.f.trans x3.f), fun a o ha e => key a o _ _ _ ha (x3.h _ _ ?_), fun a o e => key a o _ _ _ (fun z => by subst z; rw [fp3] at e; cases e) (x3.s _ _ e), fun a o e => ?_⟩
      · rw [upd_ne ha]; exact R.base.h _ _ e
      · rcases x3.n a o e with q | q | q
        · exact R.base.n a o q
        · by_cases z : a = p
          · subst z; rw [upd_same] at q; cases q
          · rw [upd_ne z] at q; exact .inr (.inl (R.base.h.free q))
        · exact .inr (.inr q)
    case t =>
      refine ⟨Ct, dx, vn, vp, [], [], h1, ?_, ?_, ?_, rn.mono x3.f, rp, .nil, .nil, d3, fp3, x3.s.free hq1, x3.s.free hq2⟩
      · rw [upd_same]; rfl
      · rw [upd_ne d1.symm, upd_ne d3, upd_ne d1.symm, upd_same]
      · rw [upd_ne d2.symm, upd_same]
end LS

set_option Elab.async false
set_option linter.all false
set_option maxRecDepth 100000
set_option maxHeartbeats 1000000
/-! LT6: a new trip; try around statements of another kind; what a call tells. -/
namespace LS
open PySem PySem.Spec PyProof.Rows L2
section
variable {X : Cx} {W : WX}
/-- Trip(..), an exception of __init__ goes where W says -/
theorem m_make {k : Nat} {x : Str} {C f : Addr} {fd : FuncData} {ps : List Str} {sp : Sp} {as : List Expr} {t : TA} {p pos : Pos} {e : Expr} (M : L2.Mk X.K C f) (F : FnOk X.prog X.w X.K X.mg X.base (L2.CX X.prog X.w) k f fd ps sp) (hr : Room (k + 1) X.A) (hg : glB X.env.scope x = true) (hm : X.mg x = some (.ref C))
    (hb : Binds X.K fd ps []) (tk : Takes X W) (ha : PA X (e :: as) t) (hst : (e :: as).all notSt = true) :
    PE X (.Call (.Name x p) (e :: as) [] pos) (fun σ H Q => t σ H fun vs H1 => ∀ o dx, H1 o = none → H1 dx = none → dx ≠ o → sp (.ref o :: vs) (L2.upd (L2.upd H1 dx (.own o)) o (.ins C dx [])) (fun v H2 => v = .non ∧ Q (.ref o) H2) (WE W σ)) := by
  refine ⟨fun pins s σ H Q I h => ?_⟩
  obtain ⟨g1, g2, _⟩ := glB_ok hg
  simp only [List.all_cons, Bool.and_eq_true] at hst
  refine wpAny_Call_Name_kw (ld_glob I g1 hm ?_ g2)
  refine PySem.W.callWith_K (h₀ := X.base) I.ok.mod.kin M.kp (thn (ha.run pos pins s σ H _ I h) fun us s1 ⟨vs, H1, I1, r, hq0⟩ => ⟨I1.kIn, ?_⟩) (star_cons hst.1) (star_any hst.2)
  have hq := hq0 (s1.heap.objs.size + 1) s1.heap.objs.size (I1.hok.fresh (Nat.le_succ _)) (I1.hok.fresh (Nat.le_refl _)) (Nat.ne_of_lt (Nat.lt_succ_self _))
  have J := Inv.made (C := C) I1
  have rr : Vals (V.ref (s1.heap.objs.size + 1) :: vs) (Value.ref (s1.heap.objs.size + 1) :: us) := .cons rfl r
  have hlen : (Value.ref (s1.heap.objs.size + 1) :: us).length = ps.length := by rw [← rr.length]; exact F.len _ _ _ _ hq
  have b := hb _ (Value.ref (s1.heap.objs.size + 1) :: us) J.kIn (by rw [List.append_nil]; exact hlen)
  rw [List.append_nil] at b
  refine wpAny_call (make_map (f := f) I1.kIn M.makes M.init (beq_iff_eq.mp M.fn) (codeAny_mono (F.run _ X.stack _ _ ⟨_, []⟩ _ _ _ (WE W σ) (hr.make C us []) (J.env0.make C us []) b rr hq) fun fl s2 hfl => ?_))
  cases fl with
  | error e => exact passAt tk σ pins _ _ e s2 J hfl
  | ok fl =>
    cases fl with
    | ret u =>
      obtain ⟨v, H', I3, rv, ev, q3⟩ := J.after hfl
      subst ev
      exact ⟨rv, V.ref (s1.heap.objs.size + 1), H', I3, rfl, q3⟩
    | next => exact False.elim hfl
    | brk => exact False.elim hfl
    | cont => exact False.elim hfl
end
/-- what the clause's suite, told by the checker, asks of an exception -/
def wTry (X : Cx) (gc : GC) (G : Fns) (i : Nat) (h : Ss) (D : Ends) : WX := fun cls dd σ H => ∃ Cc k ρ H0 F d, cls = .ref Cc ∧ dd = none ∧ X.mg k = some (.ref Cc) ∧ gc.ein.contains k = true ∧ Rel X.K X.mg nox H0 F ρ σ H ∧ evSs G h (ρ.set i (.fz (.exc k))) = some (.rt d) ∧ plain d = true ∧
  ∀ v F2 H2, Ext H0.1 H0.2 F2 H2 → Rep X.K X.mg nox F2 v d → D.rt v H2
theorem t_try {X : Cx} {W : WX} {gc : GC} {G : Fns} (C : Ctx gc G X nox W) (ht : gc.top = true) {h : Ss} {i : Nat} {n : Str} {body suite : List Stmt} {b₀ : Stmt} {np pos pos' : Pos} {tb : WX → TS} (hi : X.N[i]? = some n) (hl : X.env.scope.names.lookup n = some .local) (hg : glB X.env.scope "LimitError" = true)
    (hne : ∃ c0, gc.ein.contains c0 = true)
    (hb : ∀ (W' : WX) (pn : List (Addr × Obj)) (xe : Value → Shared → Prop), Takes (X.tr pn xe) W' → PassesOwn (model X.prog X.w) X.A X.env xe → PSs (X.tr pn xe) body (tb W'))
    (hs : ∀ (a D : Addr) (oe : Obj) (pn : List (Addr × Obj)) (k : Str), Zc (.ref D) none oe → (∃ vs, oe.data = .fields vs) → gc.ein.contains k = true → X.mg k = some (.ref D) → PSs (X.suite a ((a, oe) :: pn)) (b₀ :: suite) (tSs (X.suite a ((a, oe) :: pn)) (xcS a k) W0 G h)) :
    PS X (.Try body [.ExceptHandler (some (.Name "LimitError" np)) (some n) (b₀ :: suite) pos'] [] [] pos) (fun D σ H => ∀ Wx : WX, (∀ cls dd σ' H', wTry X gc G i h D cls dd σ' H' → Wx cls dd σ' H') → tb Wx D σ H) := by
  obtain ⟨c0, hc0⟩ := hne
  obtain ⟨_, L, _, hL, _⟩ := C.ei c0 hc0
  obtain ⟨g1, g2, _⟩ := glB_ok hg
  obtain ⟨k1, k2⟩ := C.stk ht
  refine (ps_try_as (tb := tb) (ts := fun a cls d D σ H => ∃ Dc k, cls = .ref Dc ∧ d = none ∧ X.mg k = some (.ref Dc) ∧ gc.ein.contains k = true ∧ tSs X (xcS a k) W0 G h D σ H) (Wout := W) (c := .ref L) k1 k2 C.nd hi hl ⟨g1, g2, .inl hL⟩ C.tk hb ?_).of ?_
  · rintro a oe cls d pn hz hf
    refine ⟨fun pins s σ H D I ⟨Dc, k, e1, e2, e3, e4, t⟩ => ?_⟩
    subst e1 e2
    exact (hs a Dc oe pn k hz hf e4 e3).run pins s σ H D I t
  · intro D σ H htb
    refine htb _ fun cls dd σ' H' hw => ?_
    obtain ⟨Cc, k, ρ, H0, F, d, rfl, rfl, hc, hk, R', hh2, hp, post⟩ := hw
    obtain ⟨C1, L1, m1, m2, _, m4, _⟩ := C.ei k hk
    cases m1.symm.trans hc
    cases m2.symm.trans hL
    refine ⟨true, m4, fun _ a ha => ⟨Cc, k, rfl, rfl, hc, hk, H0, F, _, .rt d, (R'.xm (xc' := xcS a k) (fun _ _ z => z.elim)).set_fz (v := .ref a) (.exc ⟨rfl, rfl⟩), hh2, ?_⟩, fun z => nomatch z⟩
    exact fun v F2 H2 x rep => post v F2 H2 x (rep.nox (noexc_of hp))
/-- a method, what it promises -/
def MFn (X : Cx) (m : Str) (sp : Sp) : Prop := ∃ k f fd ps, Room (k + 1) X.A ∧ (∀ C, X.mg "Trip" = some (.ref C) → Meth X.K C m f) ∧ Binds X.K fd ps [] ∧ FnOk X.prog X.w X.K X.mg X.base (L2.CX X.prog X.w) k f fd ps sp
def MMk (X : Cx) (sp : Sp) : Prop := ∃ k f fd ps, Room (k + 1) X.A ∧ (∀ C, X.mg "Trip" = some (.ref C) → L2.Mk X.K C f) ∧ Binds X.K fd ps [] ∧ FnOk X.prog X.w X.K X.mg X.base (L2.CX X.prog X.w) k f fd ps sp
abbrev eLt (i : Nat) (n : Int) : E := .cmp .lt (.var i) (.cst (.int n))
abbrev eEq (i : Nat) (n : Int) : E := .cmp .eq (.var i) (.cst (.int n))
def ShTold (N : List Str) (sc : Scope) (gc : GC) (body : List Stmt) : Prop := ∃ (c1 c2 c3 c4 x1 y1 y2 z : Expr) (p1 p2 p3 p4 p5 p6 p7 p8 p9 q1 q2 q3 q4 q5 q6 q7 q8 q9 r1 r2 r3 r4 r5 r6 : Pos), body = [
    .If c1 [.Return (some (.IfExp c2 (.Call (.Attribute (.Name "_law_trip" p1) "go" p2) [] [] p3) (.Call (.Attribute (.Name "_law_trip" p4) "turn" p5) [x1] [] p6) p7)) p8] [] p9,
    .If c3 [.Return (some (.IfExp c4 (.Call (.Attribute (.Name "_law_trip" q1) "undo" q2) [] [] q3) (.Call (.Attribute (.Name "_law_trip" q4) "redo" q5) [] [] q6) q7)) q8] [] q9,
    .Return (some (.Compare (.Call (.Name "len" r1) [.Call (.Name "Trip" r2) [y1, y2] [] r3] [] r4) [.Lt] [z] r5)) r6] ∧
  (ckE N (eLt 0 2) gc sc c1 && ckE N (eEq 0 0) gc sc c2 && ckE N (eLt 0 4) gc sc c3 && ckE N (eEq 0 2) gc sc c4 && ckE N (.var 2) gc sc x1 && ckE N (.var 2) gc sc y1 && ckE N (.var 3) gc sc y2 && ckE N (.cst (.int 0)) gc sc z && notSt x1 && notSt y1 && notSt y2 && !behindInMarks .Lt z &&
    (p2.endLine == p3.line) && (p5.endLine == p6.line) && (q2.endLine == q3.line) && (q5.endLine == q6.line)) = true
/-- what a call tells -/
def ToldR (go turn undo redo : Addr → Tr → List D → Option (Rr × Tr)) (ini : Addr → D → D → Option (Sum Str Tr)) (way : Int) (p : Addr) (t : Tr) (d1 d2 : D) (r : Rr) (t' : Tr) : Prop :=
  (way = 0 ∧ go p t [] = some (r, t')) ∨ (way = 1 ∧ turn p t [d1] = some (r, t')) ∨ (way = 2 ∧ undo p t [] = some (r, t')) ∨ (way = 3 ∧ redo p t [] = some (r, t')) ∨ (way = 4 ∧ ∃ c, r = .exc c ∧ t' = t ∧ ∀ q, ini q d1 d2 = some (.inl c))
def enTold (p : Addr) (way : Int) (t : Tr) (d1 d2 : D) : En := [.fz (.int way), .bg (some p) t.ob, .fz d1, .fz d2, .un, .un]
/-- what told gives: a limit, None, or the mark of an exception -/
def TellR (G : Fns) (h : Ss) (ein : List Str) (p : Addr) (way : Int) (t : Tr) (d1 d2 : D) : Rr → D → Prop
  | .ret d, res => res = d
  | .exc c, res => ein.contains c = true ∧ evSs G h ((enTold p way t d1 d2).set 4 (.fz (.exc c))) = some (.rt res) ∧ plain res = true
def spTold (K : PySem.W.Frag) (mg : Str → Option Value) (R : Int → Addr → Tr → D → D → Rr → Tr → Prop) (Te : Addr → Int → Tr → D → D → Rr → D → Prop) : Sp := fun vs H Q _ => ∃ F p pd pu t way w1 w2 d1 d2 r t' res, vs = [.int way, .ref p, w1, w2] ∧ Same F H ∧ TAt K mg F H p pd pu t ∧ Rep K mg nox F w1 d1 ∧ Rep K mg nox F w2 d2 ∧
  R way p t d1 d2 r t' ∧ Te p way t d1 d2 r res ∧ (∀ c, r = .exc c → t' = t) ∧ ∀ v F' H' pd' pu', Chg (zT p pd pu) F H F' H' → TAt K mg F' H' p pd' pu' t' → (pd' = pd ∨ H pd' = none) → (pu' = pu ∨ H pu' = none) → Rep K mg nox F' v res → Q v H'
end LS

set_option Elab.async false
set_option linter.all false
set_option maxRecDepth 100000
set_option maxHeartbeats 1000000
/-! LT7: what a call of a trip tells. -/
namespace LS
open PySem PySem.Spec PyProof.Rows L2
section
variable {X : Cx} {W : WX} {gc : GC} {G : Fns}
structure ToldSt (K : PySem.W.Frag) (mg : Str → Option Value) (W : WX) (Dn : VK) (σ : L2.St) (F H : Hp) (p pd pu : Addr) (t : Tr) (way : Int) (d1 d2 : D) (r : Rr) (t' : Tr) : Prop where
  R : ∃ A B, Rel K mg nox (A, B) F (enTold p way t d1 d2) σ H
  ta : TAt K mg F H p pd pu t
  po : match r with
    | .ret d => ∀ v F' H' pd' pu', Chg (zT p pd pu) F H F' H' → TAt K mg F' H' p pd' pu' t' → (pd' = pd ∨ H pd' = none) → (pu' = pu ∨ H pu' = none) → Rep K mg nox F' v d → Dn v H'
    | .exc c => ∀ C F' H', mg c = some (.ref C) → Ext F H F' H' → W (.ref C) none σ H'
variable {Dn : VK} {σ : L2.St} {F H F' H' : Hp} {p pd pu : Addr} {t t' : Tr} {way : Int} {d1 d2 : D} {r : Rr}
theorem ToldSt.ext (s : ToldSt X.K X.mg W Dn σ F H p pd pu t way d1 d2 r t') (x : Ext F H F' H') : ToldSt X.K X.mg W Dn σ F' H' p pd pu t way d1 d2 r t' := by
  obtain ⟨⟨A, B, R⟩, ta, po⟩ := s
  refine ⟨⟨A, B, R.ext x⟩, ta.ext x, ?_⟩
  cases r with
  | ret d => exact fun v F2 H2 pd' pu' c h1 h2 h3 rv => po v F2 H2 pd' pu' (c.after x) h1 (h2.imp id x.h.free) (h3.imp id x.h.free) rv
  | exc c => exact fun C F2 H2 hc x2 => po C F2 H2 hc (x.trans x2)
theorem ToldSt.tr (s : ToldSt X.K X.mg W Dn σ F H p pd pu t way d1 d2 r t') : ∃ C dx fs, X.mg "Trip" = some (.ref C) ∧ σ[1]? = some (some (.ref p)) ∧ H p = some (.ins C dx fs) ∧ (TCls X.K X.mg → ∀ m f, Meth X.K C m f → fs.lookup m = none) := by
  obtain ⟨⟨A, B, R⟩, ta, po⟩ := s
  obtain ⟨q, e, hq, _⟩ := R.behind (i := 1) (o := some p) (d := t.ob) rfl
  cases hq p rfl
  obtain ⟨C, dx, vn, vp, xs, ys, h1, h2, _⟩ := ta
  refine ⟨C, dx, _, h1, e, h2, fun tc m f hm => ?_⟩
  cases z : List.lookup m (fT vn vp (.ref pd) (.ref pu)) with
  | none => exact z
  | some v =>
    have n := tc.all h1 z
    unfold NoAttr at n
    rw [hm.at_] at n
    cases n
/-- a test told by the checker -/
theorem told_t {e : E} {b : Bool} (s : ToldSt X.K X.mg W Dn σ F H p pd pu t way d1 d2 r t') (ev : evE G e (enTold p way t d1 d2) = some (.v .cl (.bl b))) {S : Bool → Hp → Prop} (k : ∀ F' H', ToldSt X.K X.mg W Dn σ F' H' p pd pu t way d1 d2 r t' → S b H') : tT X nox W G e σ H S := by
  obtain ⟨A, B, R⟩ := s.R
  exact ⟨(A, B), F, _, _, R, ev, fun F' H' x => k F' H' (s.ext x)⟩
/-- a method of the trip is called, its end is the end -/
theorem told_m {M : Addr → Tr → List D → Option (Rr × Tr)} {ds : List D} {ws : List V} (s : ToldSt X.K X.mg W Dn σ F H p pd pu t way d1 d2 r t') (rs : Reps X.K X.mg nox F ws ds) (hM : M p t ds = some (r, t')) : spM X.K X.mg M (.ref p :: ws) H Dn (WE W σ) := by
  obtain ⟨⟨A, B, R⟩, ta, po⟩ := s
  refine ⟨F, p, pd, pu, ws, t, ds, (r, t'), rfl, R.base.s, ta, rs, hM, ?_⟩
  cases r with
  | ret d => exact po
  | exc c => exact fun C F' H' hc x => po C F' H' hc x
theorem lt_ev {i : Nat} {ρ : En} {n m : Int} (h : look ρ i = .fz (.int n)) : evE G (eLt i m) ρ = some (.v .cl (.bl (decide (n < m)))) := by
  simp [h, cl, bnd, cop, blO, Cst.d]
theorem eq_ev {i : Nat} {ρ : En} {n m : Int} (h : look ρ i = .fz (.int n)) : evE G (eEq i m) ρ = some (.v .cl (.bl (n == m))) := by
  simp [h, cl, bnd, cop, blO, Cst.d, eqOk, plain, dep, eqD]
theorem told_body {body : List Stmt} {go turn undo redo : Addr → Tr → List D → Option (Rr × Tr)} {ini : Addr → D → D → Option (Sum Str Tr)} (C : Ctx gc G X nox W) (s1 : SlotIs X 1 "_law_trip") (sh : ShTold X.N X.env.scope gc body) (tc : TCls X.K X.mg)
    (f1 : MFn X "go" (spM X.K X.mg go)) (f2 : MFn X "turn" (spM X.K X.mg turn)) (f3 : MFn X "undo" (spM X.K X.mg undo)) (f4 : MFn X "redo" (spM X.K X.mg redo)) (f5 : MMk X (spI X.K X.mg ini)) (g1 : glB X.env.scope "len" = true) (g2 : glB X.env.scope "Trip" = true) :
    PSs X body (fun De σ H => ∃ F p pd pu t way d1 d2 r t', ToldSt X.K X.mg W De.rt σ F H p pd pu t way d1 d2 r t' ∧ ToldR go turn undo redo ini way p t d1 d2 r t') := by
  obtain ⟨c1, c2, c3, c4, x1, y1, y2, z, p1, p2, p3, p4, p5, p6, p7, p8, p9, q1, q2, q3, q4, q5, q6, q7, q8, q9, r1, r2, r3, r4, r5, r6, rfl, hck⟩ := sh
  simp only [Bool.and_eq_true, Bool.not_eq_true'] at hck
  obtain ⟨⟨⟨⟨⟨⟨⟨⟨⟨⟨⟨⟨⟨⟨⟨k1, k2⟩, k3⟩, k4⟩, k5⟩, k6⟩, k7⟩, k8⟩, n1⟩, n2⟩, n3⟩, bm⟩, l1⟩, l2⟩, l3⟩, l4⟩ := hck
  obtain ⟨Ct, hCt⟩ := tc.ex
  obtain ⟨j1, a1, d1, ps1, hr1, hm1, hb1, F1⟩ := f1
  obtain ⟨j2, a2, d2, ps2, hr2, hm2, hb2, F2⟩ := f2
  obtain ⟨j3, a3, d3, ps3, hr3, hm3, hb3, F3⟩ := f3
  obtain ⟨j4, a4, d4, ps4, hr4, hm4, hb4, F4⟩ := f4
  obtain ⟨j5, a5, d5, ps5, hr5, hm5, hb5, F5⟩ := f5
  obtain ⟨gl1, gl2, gl3⟩ := glB_ok g1
  have cl := tc.cls Ct hCt
  refine (pss_cons (ps_if ((sE _ C k1).pt rfl) (pss_one (ps_ret (pe_ifExp ((sE _ C k2).pt rfl) (m_call0 (p := p1) (apos := p2) (pos := p3) s1 F1 (hr1.mono (Nat.le_succ _)) cl (hm1 _ hCt) hb1 C.tk l1)
      (m_call (p := p4) (apos := p5) (pos := p6) s1 F2 (hr2.mono (Nat.le_succ _)) cl (hm2 _ hCt) hb2 C.tk (pa_cons (sE _ C k5).pe pa_nil (star_cons n1)) (by rw [List.all_cons, n1]; rfl) l2 rfl)))) pss_nil)
    (pss_cons (ps_if ((sE _ C k3).pt rfl) (pss_one (ps_ret (pe_ifExp ((sE _ C k4).pt rfl) (m_call0 (p := q1) (apos := q2) (pos := q3) s1 F3 (hr3.mono (Nat.le_succ _)) cl (hm3 _ hCt) hb3 C.tk l3)
      (m_call0 (p := q4) (apos := q5) (pos := q6) s1 F4 (hr4.mono (Nat.le_succ _)) cl (hm4 _ hCt) hb4 C.tk l4)))) pss_nil)
    (pss_one (ps_ret (pe_cmpR (cop_ok (xc := nox) .lt C.hu) (pe_callB (len_ok (xc := nox)) gl1 (C.bl _ (by decide)) boot_len (pa_cons (m_make (p := r2) (pos := r3) (hm5 _ hCt) F5 hr5 g2 hCt hb5 C.tk (pa_cons (sE _ C k6).pe (pa_cons (sE _ C k7).pe pa_nil (star_cons n3)) (star_cons n2)) (by rw [List.all_cons, List.all_cons, n2, n3]; rfl)) pa_nil (star_cons rfl)) gl3 gl2 (star_cons rfl) rfl) (sE _ C k8).pe bm))))).of ?_
  rintro De σ H ⟨F, p, pd, pu, t, way, d1, d2, r, t', s, hT⟩
  unfold tSeq tIfS tRet tIf
  rcases hT with ⟨rfl, h⟩ | ⟨rfl, h⟩ | ⟨rfl, h⟩ | ⟨rfl, h⟩ | ⟨rfl, c, rfl, rfl, h⟩
  · refine told_t s (lt_ev rfl) fun F1 H1 s1' => ?_
    rw [if_pos (by decide)]
    refine told_t s1' (eq_ev rfl) fun F2 H2 s2 => ?_
    rw [if_pos (by decide)]
    obtain ⟨C', dx, fs, hC, e, hp, nf⟩ := s2.tr
    cases hCt.symm.trans hC
    exact ⟨p, dx, fs, e, hp, nf tc _ _ (hm1 _ hCt), told_m s2 .nil h⟩
  · refine told_t s (lt_ev rfl) fun F1 H1 s1' => ?_
    rw [if_pos (by decide)]
    refine told_t s1' (eq_ev rfl) fun F2 H2 s2 => ?_
    rw [if_neg (by decide)]
    obtain ⟨C', dx, fs, hC, e, hp, nf⟩ := s2.tr
    cases hCt.symm.trans hC
    refine ⟨p, dx, fs, e, hp, nf tc _ _ (hm2 _ hCt), ?_⟩
    obtain ⟨A, B, R⟩ := s2.R
    exact ⟨(A, B), F2, _, .v .cl d1, R, rfl, fun v F3 H3 x ok => told_m (s2.ext x) (.cons ok .nil) h⟩
  · refine told_t s (lt_ev rfl) fun F1 H1 s1' => ?_
    rw [if_neg (by decide)]
    refine st_next ?_
    refine told_t s1' (lt_ev rfl) fun F2 H2 s2 => ?_
    rw [if_pos (by decide)]
    refine told_t s2 (eq_ev rfl) fun F3 H3 s3 => ?_
    rw [if_pos (by decide)]
    obtain ⟨C', dx, fs, hC, e, hp, nf⟩ := s3.tr
    cases hCt.symm.trans hC
    exact ⟨p, dx, fs, e, hp, nf tc _ _ (hm3 _ hCt), told_m s3 .nil h⟩
  · refine told_t s (lt_ev rfl) fun F1 H1 s1' => ?_
    rw [if_neg (by decide)]
    refine st_next ?_
    refine told_t s1' (lt_ev rfl) fun F2 H2 s2 => ?_
    rw [if_pos (by decide)]
    refine told_t s2 (eq_ev rfl) fun F3 H3 s3 => ?_
    rw [if_neg (by decide)]
    obtain ⟨C', dx, fs, hC, e, hp, nf⟩ := s3.tr
    cases hCt.symm.trans hC
    exact ⟨p, dx, fs, e, hp, nf tc _ _ (hm4 _ hCt), told_m s3 .nil h⟩
  · refine told_t s (lt_ev rfl) fun F1 H1 s1' => ?_
    rw [if_neg (by decide)]
    refine st_next ?_
    refine told_t s1' (lt_ev rfl) fun F2 H2 s2 => ?_
    rw [if_neg (by decide)]
    refine st_next ?_
    obtain ⟨A, B, R⟩ := s2.R
    refine ⟨(A, B), F2, _, .v .cl d1, R, rfl, fun v F3 H3 x3 ok => ?_⟩
    refine ⟨(A, B), F3, _, .v .cl d2, R.ext x3, rfl, fun w F4 H4 x4 ok2 => ?_⟩
    intro o dx ho hdx ne
    have s4 := (s2.ext x3).ext x4
    have e1 : L2.upd H4 dx (.own o) o = none := by rw [upd_ne ne.symm]; exact ho
    have xa : Ext F4 H4 F4 (L2.upd (L2.upd H4 dx (.own o)) o (.ins Ct dx [])) := (Ext.newH x4.s hdx).trans (Ext.newH (x4.s.trans (same_upd hdx)) e1)
    refine ⟨F4, o, Ct, dx, v, w, d1, d2, _, rfl, xa.s, hCt, upd_same, x4.s.free ho, Rep.mono x4.f ok, ok2, h o, ?_⟩
    exact fun C2 F5 H5 hc x5 => s4.po C2 F5 H5 hc (xa.trans x5)
end
end LS

set_option Elab.async false
set_option linter.all false
set_option maxRecDepth 100000
set_option maxHeartbeats 1000000
/-! LT8: _law_told's promise. -/
namespace LS
open PySem PySem.Spec PyProof.Rows L2
def ShTry (N : List Str) (sc : Scope) (gc : GC) (h : Ss) (body : List Stmt) : Prop := ∃ (bd suite : List Stmt) (b₀ : Stmt) (p1 p2 p3 : Pos), body = [.Try bd [.ExceptHandler (some (.Name "LimitError" p1)) (some "e") (b₀ :: suite) p2] [] [] p3] ∧ ShTold N sc gc bd ∧ ckSs N h (gcS gc) sc (b₀ :: suite) = true
theorem told_rel {K : PySem.W.Frag} {mg : Str → Option Value} {N : List Str} {F H : Hp} {p pd pu : Addr} {t : Tr} {way : Int} {d1 d2 : D} {w1 w2 : V} (tc : TCls K mg) (hN : N.length = 6) (sF : Same F H) (ta : TAt K mg F H p pd pu t) (r1 : Rep K mg nox F w1 d1) (r2 : Rep K mg nox F w2 d2) :
    Rel K mg nox (F, H) F (enTold p way t d1 d2) (L2.start N [.int way, .ref p, w1, w2]) H := by
  have e : L2.start N [.int way, .ref p, w1, w2] = [some (.int way), some (.ref p), some w1, some w2, none, none] := by
    unfold L2.start
    rw [hN]
    rfl
  rw [e]
  have fp : F p = none := by
    obtain ⟨C, dx, vn, vp, xs, ys, h1, h2, h3, h4, h5, h6, h7, h8, h9, n1, n2, n3⟩ := ta
    exact n1
  refine ⟨Ext.refl sF, rfl, fun i => ?_, fun i j a b q _ hi _ _ _ => ?_⟩
  · match i with
    | 0 => exact ⟨_, rfl, .int way⟩
    | 1 => exact ⟨p, rfl, fun q hq => (Option.some.inj hq).symm, fp, ta.own tc⟩
    | 2 => exact ⟨_, rfl, r1⟩
    | 3 => exact ⟨_, rfl, r2⟩
    | 4 => trivial
    | 5 => trivial
    | _ + 6 => trivial
  · match i with
    | 0 => cases hi
    | 1 => cases hi
    | 2 => cases hi
    | 3 => cases hi
    | 4 => cases hi
    | 5 => cases hi
    | _ + 6 => cases hi
section
variable {X : Cx} {W : WX} {gc : GC} {G : Fns}
theorem told_ok {body : List Stmt} {h : Ss} {go turn undo redo : Addr → Tr → List D → Option (Rr × Tr)} {ini : Addr → D → D → Option (Sum Str Tr)} (C : Ctx gc G X nox W) (hh : gc.hot = false) (ht : gc.top = true) (s1 : SlotIs X 1 "_law_trip") (sh : ShTry X.N X.env.scope gc h body) (tc : TCls X.K X.mg)
    (f1 : MFn X "go" (spM X.K X.mg go)) (f2 : MFn X "turn" (spM X.K X.mg turn)) (f3 : MFn X "undo" (spM X.K X.mg undo)) (f4 : MFn X "redo" (spM X.K X.mg redo)) (f5 : MMk X (spI X.K X.mg ini)) (g1 : glB X.env.scope "len" = true) (g2 : glB X.env.scope "Trip" = true) (g3 : glB X.env.scope "LimitError" = true)
    (hi : X.N[4]? = some ("e" : Str)) (hl : X.env.scope.names.lookup ("e" : Str) = some .local) (hN : X.N.length = 6) (hne : ∃ c0, gc.ein.contains c0 = true) :
    ∃ T, PSs X body T ∧ ∀ vs H Q Ex, spTold X.K X.mg (ToldR go turn undo redo ini) (TellR G h gc.ein) vs H Q Ex → T { nx := fun _ H' => Q .non H', rt := Q } (L2.start X.N vs) H := by
  obtain ⟨bd, suite, b₀, p1, p2, p3, rfl, sb, ck⟩ := sh
  refine ⟨_, pss_one (t_try (h := h) (tb := fun W' De σ H => ∃ F p pd pu t way d1 d2 r t', ToldSt X.K X.mg W' De.rt σ F H p pd pu t way d1 d2 r t' ∧ ToldR go turn undo redo ini way p t d1 d2 r t') C ht hi hl g3 hne (fun W' pn xe tk po => told_body (go := go) (turn := turn) (undo := undo) (redo := redo) (ini := ini) (C.tr hh tk po) ⟨s1.n, s1.v, s1.d⟩ sb tc f1 f2 f3 f4 f5 g1 g2)
    (fun a D oe pn k hz hf hk hm => sSs h (C.sui hz hf hk hm) ck)), fun vs H Q Ex hsp => ?_⟩
  obtain ⟨F, p, pd, pu, t, way, w1, w2, d1, d2, r, t', res, rfl, sF, ta, r1, r2, hR, hT, hx, post⟩ := hsp
  intro Wx hW
  have R := told_rel (way := way) tc hN sF ta r1 r2
  refine ⟨F, p, pd, pu, t, way, d1, d2, r, t', ⟨⟨F, H, R⟩, ta, ?_⟩, hR⟩
  cases r with
  | ret d =>
    cases (show res = d from hT)
    exact post
  | exc c =>
    obtain ⟨k1, k2, k3⟩ := hT
    cases hx c rfl
    intro C2 F' H' hc x
    exact hW _ _ _ _ ⟨C2, c, _, (F, H), F', res, rfl, rfl, hc, k1, R.ext x, k2, k3, fun v F2 H2 x2 rv => post v F2 H2 pd pu x2.chg (ta.ext x2) (.inl rfl) (.inl rfl) rv⟩
end
end LS

set_option Elab.async false
set_option linter.all false
set_option maxRecDepth 100000
set_option maxHeartbeats 1000000
/-! LT9: a for over statements of another kind; owned, behind; a call of told within the law. -/
namespace LS
open PySem PySem.Spec PyProof.Rows L2
section
variable {X : Cx} {xc : V → Str → Prop} {W : WX} {G : Fns} {gc : GC}
theorem t_for (C : Ctx gc G X xc W) (hcalm : X.calm = true) {tg : Tg} {it : It} {T : TS} {tgE itE : Expr} {bs : List Stmt} {pos : Pos} (hi : PI X tgE itE (tI X xc G it)) (hg : PG X tgE (tG X xc tg)) (hb : PSs X bs T) (hs : notSetE itE = true) :
    PS X (.For tgE itE bs [] pos) (fun Dn σ H => ∃ H0 F ρ ds, Rel X.K X.mg xc H0 F ρ σ H ∧ evI G it ρ = some ds ∧ ∃ Iv : Nat → Hp → L2.St → Hp → Prop, (∀ F1 H1, Ext F H F1 H1 → Iv 0 F1 σ H1) ∧ (∀ i F2 σ2 H2, Iv i F2 σ2 H2 → Same F2 H2) ∧
      (∀ i d F2 σ2 H2, ds[i]? = some d → Iv i F2 σ2 H2 → ∃ H02 ρ2 ρ3, Rel X.K X.mg xc H02 F2 ρ2 σ2 H2 ∧ bindT tg d ρ2 = some ρ3 ∧ ∀ F3 H3 σ3 (De : Ends), Ext F2 H2 F3 H3 → Rel X.K X.mg xc H02 F3 ρ3 σ3 H3 → (∀ F' σ' H', Same F2 F' → Iv (i + 1) F' σ' H' → De.nx σ' H') → De.rt = Dn.rt → T De σ3 H3) ∧
      (∀ F2 σ2 H2, Iv ds.length F2 σ2 H2 → Dn.nx σ2 H2)) := by
  refine (ps_for C.po hcalm hi hg hb (notSetE_ok hs)).of fun Dn σ H ⟨H0, F, ρ, ds, R, hds, Iv, i0, i1, i2, i3⟩ => ?_
  refine ⟨H0, F, ρ, ds, R, hds, fun J F1 H1 x1 itd => ?_⟩
  refine ⟨fun i m σ H => m = ds.length - i ∧ i ≤ ds.length ∧ ∃ F', Same F1 F' ∧ Iv i F' σ H, ⟨ds.length, by simp, Nat.zero_le _, F1, Same.refl _, i0 F1 H1 x1⟩, ?_⟩
  rintro i m σ2 H2 ⟨rfl, hi, F2, s2, v2⟩
  have sF2 := i1 i F2 σ2 H2 v2
  by_cases hlt : i < ds.length
  · obtain ⟨jg, jy⟩ := (itd i F2 H2 s2 sF2).1 hlt
    refine .inr ⟨jg, fun σ' H' => ∃ F', Same F1 F' ∧ Iv (i + 1) F' σ' H', fun σ' H' q => ⟨ds.length - (i + 1), by omega, rfl, hlt, q⟩, fun x H' y => ?_⟩
    obtain ⟨F3, d, x3, hd, rep⟩ := jy x H' y
    obtain ⟨H02, ρ2, ρ3, R2, hb3, run⟩ := i2 i d F2 σ2 H2 hd v2
    refine ⟨H02, F3, ρ2, d, ρ3, R2.ext x3, rep, hb3, fun σ' R4 _ _ => ?_⟩
    exact run F3 _ σ' _ x3 R4 (fun F' σ'' H'' s' iv => ⟨F', s2.trans s', iv⟩) rfl
  · have e : i = ds.length := by omega
    subst e
    exact .inl ⟨(itd _ F2 H2 s2 sF2).2 rfl, i3 F2 σ2 H2 v2⟩
end
section
variable {K : PySem.W.Frag} {mg : Str → Option Value} {A B F H : Hp} {ρ : En} {σ : L2.St}
theorem Own.inj {p : Addr} {d : D} {B' : Hp} {F : Hp} (h : Own K mg nox F B p d) (e : B' p = B p) : Own K mg nox F B' p d := h.mono (Same.refl _) fun o z => by rw [e]; exact z
/-- an owned thing stands behind from now on -/
theorem Rel.obg (R : Rel K mg nox (A, B) F ρ σ H) {i : Nat} {d : D} (hi : look ρ i = .ow d) : ∃ q o, σ[i]? = some (some (.ref q)) ∧ H q = some o ∧ B q = none ∧ F q = none ∧ Own K mg nox F H q d ∧ Rel K mg nox (A, L2.upd B q o) F (ρ.set i (.bg (some q) d)) σ H := by
  obtain ⟨q, hs, fq, bq, ow⟩ := R.own hi
  obtain ⟨o, ho⟩ := ow.some
  have bq' : B q = none := bq
  refine ⟨q, o, hs, ho, bq', fq, ow, ?_⟩
  have lt : i < ρ.length := by
    by_cases z : i < ρ.length
    · exact z
    · rw [look_big (by omega)] at hi; cases hi
  have same : Same B (L2.upd B q o) := same_upd bq'
  refine ⟨⟨R.base.f, fun a u e => ?_, R.base.s, fun a u e => ?_⟩, by simp [R.len], fun j => ?_, fun j k dj dk z hjk hj hk hsj hsk => ?_⟩
  · by_cases z : a = q
    · subst z
      have e' : L2.upd B a o a = some u := e
      rw [upd_same] at e'
      cases e'
      exact ho
    · have e' : L2.upd B q o a = some u := e
      rw [upd_ne z] at e'
      exact R.base.h _ _ e'
  · have ne : a ≠ q := fun z => by subst z; rw [fq] at e; cases e
    rcases R.base.n a u e with w | w | w
    · exact .inl w
    · exact .inr (.inl (by show L2.upd B q o a = none; rw [upd_ne ne]; exact w))
    · exact .inr (.inr w)
  · by_cases z : i = j
    · subst z
      rw [look_set_self lt]
      exact ⟨q, hs, fun x hx => (Option.some.inj hx).symm, fq, ow.mono (Same.refl _) fun o' e => by rw [ho] at e; cases e; exact upd_same⟩
    · rw [look_set_ne z]
      have s := R.slot j
      cases w : look ρ j with
      | un => trivial
      | fz dd => rw [w] at s; exact s
      | bg x dd =>
        rw [w] at s
        obtain ⟨p, h1, h2, h3, h4⟩ := s
        exact ⟨p, h1, h2, h3, h4.mono (Same.refl _) fun o' e => same _ _ e⟩
      | ow dd =>
        rw [w] at s
        obtain ⟨p, h1, h2, h3, h4⟩ := s
        have ne : p ≠ q := fun x => by subst x; exact R.disj i j d dd p z hi w hs h1
        exact ⟨p, h1, h2, by show L2.upd B q o p = none; rw [upd_ne ne]; exact h3, h4⟩
  · have own : ∀ {m : Nat} {dm : D}, look (ρ.set i (.bg (some q) d)) m = .ow dm → look ρ m = .ow dm := fun {m dm} h => by
      by_cases e : i = m
      · subst e; rw [look_set_self lt] at h; cases h
      · rw [look_set_ne e] at h; exact h
    exact R.disj j k dj dk z hjk (own hj) (own hk) hsj hsk
/-- what stood behind is owned by its slot from now on -/
theorem Rel.bgo (R : Rel K mg nox (A, B) F ρ σ H) {i : Nat} {q : Addr} {d : D} (hi : look ρ i = .bg (some q) d) (hd : ∀ j w d', j ≠ i → look ρ j = .bg w d' → ∃ q', w = some q' ∧ q' ≠ q) :
    Rel K mg nox (A, fun x => if x = q then none else B x) F (ρ.set i (.ow d)) σ H := by
  obtain ⟨q', hs, hq, fq, ow⟩ := R.behind hi
  cases hq q rfl
  have lt : i < ρ.length := by
    by_cases z : i < ρ.length
    · exact z
    · rw [look_big (by omega)] at hi; cases hi
  have bq : B q ≠ none := by
    obtain ⟨u, hu⟩ := ow.some
    have hu' : B q = some u := hu
    rw [hu']
    exact fun z => nomatch z
  refine ⟨⟨R.base.f, fun a u e => ?_, R.base.s, fun a u e => ?_⟩, by simp [R.len], fun j => ?_, fun j k dj dk z hjk hj hk hsj hsk => ?_⟩
  · have e' : (if a = q then none else B a) = some u := e
    split at e'
    · cases e'
    · exact R.base.h _ _ e'
  · rcases R.base.n a u e with w | w | w
    · exact .inl w
    · refine .inr (.inl ?_)
      show (if a = q then none else B a) = none
      split
      · rfl
      · exact w
    · exact .inr (.inr w)
  · by_cases z : i = j
    · subst z
      rw [look_set_self lt]
      exact ⟨q, hs, fq, if_pos rfl, ow.mono (Same.refl _) fun o e => R.base.h _ _ e⟩
    · rw [look_set_ne z]
      have s := R.slot j
      cases w : look ρ j with
      | un => trivial
      | fz dd => rw [w] at s; exact s
      | bg x dd =>
        rw [w] at s
        obtain ⟨p, h1, h2, h3, h4⟩ := s
        obtain ⟨q2, rfl, ne⟩ := hd j x dd (Ne.symm z) w
        obtain rfl := h2 q2 rfl
        exact ⟨_, h1, h2, h3, h4.mono (Same.refl _) fun o' e => by show (if _ = q then none else B _) = some o'; rw [if_neg ne]; exact e⟩
      | ow dd =>
        rw [w] at s
        obtain ⟨p, h1, h2, h3, h4⟩ := s
        refine ⟨p, h1, h2, ?_, h4⟩
        show (if p = q then none else B p) = none
        split
        · rfl
        · exact h3
  · have own : ∀ {m : Nat} {dm : D}, look (ρ.set i (.ow d)) m = .ow dm → i = m ∨ look ρ m = .ow dm := fun {m dm} h => by
      by_cases e : i = m
      · exact .inl e
      · rw [look_set_ne e] at h; exact .inr h
    have bad : ∀ {m : Nat} {dm : D}, look ρ m = .ow dm → σ[m]? = some (some (.ref z)) → z = q → False := fun {m dm} h1 h2 e => by
      subst e
      obtain ⟨p, g1, _, g2, _⟩ := R.own h1
      rw [h2] at g1
      cases g1
      exact bq g2
    rcases own hj with rfl | hj'
    · rw [hs] at hsj
      cases hsj
      rcases own hk with rfl | hk'
      · exact hjk rfl
      · exact bad hk' hsk rfl
    · rcases own hk with rfl | hk'
      · rw [hs] at hsk
        cases hsk
        exact bad hj' hsj rfl
      · exact R.disj j k dj dk z hjk hj' hk' hsj hsk
/-- the trip's slot takes its new state -/
def repS (p : Addr) (o : D) : SV → SV
  | .bg (some q) d => if q = p then .bg (some q) o else .bg (some q) d
  | .bg none _ => .un
  | s => s
theorem look_map {f : SV → SV} (h : f .un = .un) : ∀ (ρ : En) (i : Nat), look (ρ.map f) i = f (look ρ i)
  | [], _ => h.symm
  | _ :: _, 0 => rfl
  | _ :: ρ, i + 1 => look_map h ρ i
theorem TAt.cells {F H B : Hp} {p pd pu : Addr} {t : Tr} (h : TAt K mg F H p pd pu t) (e1 : B p = H p) (e2 : B pd = H pd) (e3 : B pu = H pu) : TAt K mg F B p pd pu t := by
  obtain ⟨C, dx, vn, vp, xs, ys, h1, h2, h3, h4, hr⟩ := h
  exact ⟨C, dx, vn, vp, xs, ys, h1, e1.trans h2, e2.trans h3, e3.trans h4, hr⟩
theorem TAt.some {F H : Hp} {p pd pu : Addr} {t : Tr} (h : TAt K mg F H p pd pu t) : H p ≠ none ∧ H pd ≠ none ∧ H pu ≠ none ∧ F p = none ∧ F pd = none ∧ F pu = none := by
  obtain ⟨C, dx, vn, vp, xs, ys, h1, h2, h3, h4, h5, h6, h7, h8, h9, n1, n2, n3⟩ := h
  exact ⟨by rw [h2]; exact (fun z => nomatch z), by rw [h3]; exact (fun z => nomatch z), by rw [h4]; exact (fun z => nomatch z), n1, n2, n3⟩
/-- what is told of the trip in the law, later: F more, B as it was -/
theorem TAt.later {F F' H' : Hp} {p pd pu : Addr} {t : Tr} (h : TAt K mg F B p pd pu t) (s : Same F F') (b : Ext A B F' H') (a1 : A p = none) (a2 : A pd = none) (a3 : A pu = none) : TAt K mg F' B p pd pu t := by
  obtain ⟨C, dx, vn, vp, xs, ys, h1, h2, h3, h4, h5, h6, h7, h8, h9, n1, n2, n3⟩ := h
  exact ⟨C, dx, vn, vp, xs, ys, h1, h2, h3, h4, h5.mono s, h6.mono s, h7.mono s, h8.mono s, h9, b.free2 h2 (fun _ z => nomatch z) a1, b.free2 h3 (fun _ z => nomatch z) a2, b.free2 h4 (fun _ z => nomatch z) a3⟩
theorem Rel.told (tc : TCls K mg) {F' H' : Hp} {p pd pu pd' pu' : Addr} {t t' : Tr} (R : Rel K mg nox (A, B) F ρ σ H) (ta : TAt K mg F B p pd pu t) (cg : Chg (zT p pd pu) F H F' H') (ta' : TAt K mg F' H' p pd' pu' t') (o1 : pd' = pd ∨ H pd' = none) (o2 : pu' = pu ∨ H pu' = none)
    (hq : ∀ i q d, look ρ i = .bg (some q) d → q ≠ p → q ≠ pd ∧ q ≠ pu) : ∃ B', Rel K mg nox (A, B') F' (ρ.map (repS p t'.ob)) σ H' ∧ TAt K mg F' B' p pd' pu' t' ∧ ∀ x, x ≠ p → x ≠ pd → x ≠ pu → B x ≠ none → B' x = B x := by
  obtain ⟨c1, c2, c3, f1, f2, f3⟩ := ta.some
  obtain ⟨c1', c2', c3', f1', f2', f3'⟩ := ta'.some
  have old : ∀ x, B x ≠ none → H x ≠ none := fun x h => by
    cases e : B x with
    | none => exact absurd e h
    | some o =>
      have := R.base.h x o e
      rw [this]
      exact fun z => nomatch z
  have hz : ∀ x, zT p pd pu x → B x ≠ none := fun x h => by
    rcases h with rfl | rfl | rfl
    · exact c1
    · exact c2
    · exact c3
  have keep : ∀ x, x ≠ p → x ≠ pd → x ≠ pu → B x ≠ none → ¬ (x = p ∨ x = pd ∨ x = pu ∨ x = pd' ∨ x = pu') := fun x a1 a2 a3 hb h => by
    rcases h with rfl | rfl | rfl | rfl | rfl
    · exact a1 rfl
    · exact a2 rfl
    · exact a3 rfl
    · rcases o1 with e | e
      · exact a2 e
      · exact old _ hb e
    · rcases o2 with e | e
      · exact a3 e
      · exact old _ hb e
  have tb : TAt K mg F' (fun x => if x = p ∨ x = pd ∨ x = pu ∨ x = pd' ∨ x = pu' then H' x else B x) p pd' pu' t' := ta'.cells (if_pos (.inl rfl)) (if_pos (.inr (.inr (.inr (.inl rfl))))) (if_pos (.inr (.inr (.inr (.inr rfl)))))
  refine ⟨fun x => if x = p ∨ x = pd ∨ x = pu ∨ x = pd' ∨ x = pu' then H' x else B x, ?_, tb, fun x a1 a2 a3 hb => if_neg (keep x a1 a2 a3 hb)⟩
  refine R.chg cg.f cg.s cg.n (fun x o e => ?_) (fun x e => ?_) (fun x o hb e => cg.h x o (fun z => hz x z hb) e) (by simp) fun i => ?_
  · have e' : (if x = p ∨ x = pd ∨ x = pu ∨ x = pd' ∨ x = pu' then H' x else B x) = some o := e
    split at e'
    · exact e'
    · rename_i hn
      exact cg.h x o (fun z => hn (by rcases z with z | z | z; exact .inl z; exact .inr (.inl z); exact .inr (.inr (.inl z)))) (R.base.h _ _ e')
  · by_cases hb : B x = none
    · have e' : (if x = p ∨ x = pd ∨ x = pu ∨ x = pd' ∨ x = pu' then H' x else B x) ≠ none := e
      split at e'
      · rename_i hx
        rcases hx with rfl | rfl | rfl | rfl | rfl
        · exact .inl c1
        · exact .inl c2
        · exact .inl c3
        · rcases o1 with z | z
          · rw [z]; exact .inl c2
          · exact .inr ⟨z, f2'⟩
        · rcases o2 with z | z
          · rw [z]; exact .inl c3
          · exact .inr ⟨z, f3'⟩
      · exact absurd hb e'
    · exact .inl hb
  · rw [look_map rfl]
    cases e : look ρ i with
    | un => exact .inl ⟨rfl, fun _ _ z => nomatch z⟩
    | fz d => exact .inl ⟨rfl, fun _ _ z => nomatch z⟩
    | ow d => exact .inl ⟨rfl, fun _ _ z => nomatch z⟩
    | bg w d =>
      cases w with
      | none => exact .inr (.inl rfl)
      | some q =>
        obtain ⟨q', g1, g2, g3, g4⟩ := R.behind e
        cases g2 q rfl
        by_cases hqp : q = p
        · subst hqp
          refine .inr (.inr ⟨some q, t'.ob, if_pos rfl, q, g1, fun _ z => (Option.some.inj z).symm, f1', tb.own tc⟩)
        · obtain ⟨n1, n2⟩ := hq i q d e hqp
          obtain ⟨u, hu⟩ := g4.some
          have hu' : B q = some u := hu
          have hb : B q ≠ none := by rw [hu']; exact fun z => nomatch z
          have hk := keep q hqp n1 n2 hb
          refine .inr (.inr ⟨some q, d, if_neg hqp, q, g1, fun _ z => (Option.some.inj z).symm, ?_, (g4.mono cg.f fun o z => z).inj (if_neg hk)⟩)
          cases z : F' q with
          | none => rfl
          | some o =>
            rcases cg.n q o z with w | w | ⟨us, w⟩
            · rw [g3] at w; cases w
            · exact absurd w (old q hb)
            · subst w
              have e1 := cg.s _ _ z
              have e2 := cg.h q u (fun y => by rcases y with y | y | y; exact hqp y; exact n1 y; exact n2 y) (R.base.h _ _ hu')
              rw [e1] at e2
              cases e2
              exact (g4.notTup (Same.refl _) hu').elim
end
end LS

set_option Elab.async false
set_option linter.all false
set_option maxRecDepth 100000
set_option maxHeartbeats 1000000
/-! LT10: told called in the law; lists that stand behind are written. -/
namespace LS
open PySem PySem.Spec PyProof.Rows L2
section
variable {K : PySem.W.Frag} {mg : Str → Option Value} {A B F H : Hp} {ρ ρ' : En} {σ : L2.St}
/-- what is not read any more -/
theorem Rel.weak {H0 : Hp × Hp} (R : Rel K mg nox H0 F ρ σ H) (hl : ρ'.length = ρ.length) (h : ∀ i, look ρ' i = look ρ i ∨ look ρ' i = .un) : Rel K mg nox H0 F ρ' σ H := by
  have own : ∀ i d, look ρ' i = .ow d → look ρ i = .ow d := fun i d e => by
    rcases h i with q | q
    · rw [← q]; exact e
    · rw [q] at e; cases e
  refine ⟨R.base, by rw [hl]; exact R.len, fun i => ?_, fun i j d e p hij h1 h2 => R.disj i j d e p hij (own i d h1) (own j e h2)⟩
  rcases h i with q | q
  · rw [q]; exact R.slot i
  · rw [q]; trivial
/-- a list that stands behind is written -/
theorem Rel.mutl (R : Rel K mg nox (A, B) F ρ σ H) {q : Addr} {xs ys : List V} {ds : List D} (hb : B q = some (.lst xs)) (fq : F q = none) (rs : Reps K mg nox F ys ds) : Rel K mg nox (A, L2.upd B q (.lst ys)) F (ρ.map (repS q (.lst ds))) σ (L2.upd H q (.lst ys)) := by
  refine R.chg1 (by rw [hb]; exact fun z => nomatch z) fq (by simp) fun i => ?_
  rw [look_map rfl]
  cases e : look ρ i with
  | un => exact .inl ⟨rfl, fun _ _ z => nomatch z⟩
  | fz d => exact .inl ⟨rfl, fun _ _ z => nomatch z⟩
  | ow d => exact .inl ⟨rfl, fun _ _ z => nomatch z⟩
  | bg w d =>
    cases w with
    | none => exact .inr (.inl rfl)
    | some q' =>
      obtain ⟨q2, g1, g2, g3, g4⟩ := R.behind e
      cases g2 q' rfl
      by_cases hqp : q' = q
      · subst hqp
        exact .inr (.inr ⟨some q', .lst ds, if_pos rfl, q', g1, fun _ z => (Option.some.inj z).symm, fq, ys, upd_same, rs⟩)
      · exact .inr (.inr ⟨some q', d, if_neg hqp, q', g1, fun _ z => (Option.some.inj z).symm, g3, g4.inj (by show L2.upd B q (.lst ys) q' = B q'; exact upd_ne hqp)⟩)
theorem TAt.upd {p pd pu q : Addr} {t : Tr} {o : HO} (h : TAt K mg F B p pd pu t) (n1 : p ≠ q) (n2 : pd ≠ q) (n3 : pu ≠ q) : TAt K mg F (L2.upd B q o) p pd pu t := h.cells (upd_ne n1) (upd_ne n2) (upd_ne n3)
/-- a slot takes the address of what stands behind -/
theorem Rel.setbg {H0 : Hp × Hp} (R : Rel K mg nox H0 F ρ σ H) {i : Nat} {q : Addr} {d : D} (fq : F q = none) (ow : Own K mg nox F H0.2 q d) : Rel K mg nox H0 F (ρ.set i (.bg (some q) d)) (σ.set i (some (.ref q))) H := by
  have hl := R.len
  have own : ∀ {m : Nat} {dm : D}, look (ρ.set i (.bg (some q) d)) m = .ow dm → i ≠ m ∧ look ρ m = .ow dm := fun {m dm} h => by
    by_cases e : i = m
    · subst e
      by_cases lt : i < ρ.length
      · rw [look_set_self lt] at h; cases h
      · rw [look_big (by simp; omega)] at h; cases h
    · rw [look_set_ne e] at h; exact ⟨e, h⟩
  refine ⟨R.base, by simp [hl], fun j => ?_, fun j k dj dk z hjk hj hk hsj hsk => ?_⟩
  · by_cases e : i = j
    · subst e
      by_cases lt : i < ρ.length
      · rw [look_set_self lt]
        exact ⟨q, by rw [List.getElem?_set_self (by omega)], fun x hx => (Option.some.inj hx).symm, fq, ow⟩
      · rw [look_big (by simp; omega)]; trivial
    · rw [look_set_ne e]
      have s := R.slot j
      cases w : look ρ j with
      | un => trivial
      | fz dd => rw [w] at s; obtain ⟨v, h1, h2⟩ := s; exact ⟨v, by rw [List.getElem?_set_ne e]; exact h1, h2⟩
      | ow dd => rw [w] at s; obtain ⟨p, h1, h2⟩ := s; exact ⟨p, by rw [List.getElem?_set_ne e]; exact h1, h2⟩
      | bg x dd => rw [w] at s; obtain ⟨p, h1, h2⟩ := s; exact ⟨p, by rw [List.getElem?_set_ne e]; exact h1, h2⟩
  · obtain ⟨n1, o1⟩ := own hj
    obtain ⟨n2, o2⟩ := own hk
    rw [List.getElem?_set_ne n1] at hsj
    rw [List.getElem?_set_ne n2] at hsk
    exact R.disj j k dj dk z hjk o1 o2 hsj hsk
end
section
variable {X : Cx} {W : WX} {G : Fns} {A B F H : Hp} {ρ : En} {σ : L2.St}
def tTold (X : Cx) (W : WX) (G : Fns) (R : Int → Addr → Tr → D → D → Rr → Tr → Prop) (Te : Addr → Int → Tr → D → D → Rr → D → Prop) (i : Nat) (e1 e3 e4 : E) : TE :=
  tCallS (spTold X.K X.mg R Te) (WE W) (tCons (tE X nox W G e1) (tCons (tVar i) (tCons (tE X nox W G e3) (tCons (tE X nox W G e4) tNil))))
/-- a law's def that tells: its promise, at hand -/
def FTold (X : Cx) (R : Int → Addr → Tr → D → D → Rr → Tr → Prop) (Te : Addr → Int → Tr → D → D → Rr → D → Prop) : Prop := ∃ k f fd ps, X.mg "_law_told" = some (.ref f) ∧ PySem.W.keepIn X.K (.ref f) = true ∧ Room k X.A ∧ Binds X.K fd ps [] ∧ FnOk X.prog X.w X.K X.mg X.base (L2.CX X.prog X.w) k f fd ps (spTold X.K X.mg R Te)
theorem r_told {gc : GC} {R : Int → Addr → Tr → D → D → Rr → Tr → Prop} {Te : Addr → Int → Tr → D → D → Rr → D → Prop} {i : Nat} {x : Str} {e1 e3 e4 : E} {a1 a3 a4 : Expr} {p p2 pos : Pos} (C : Ctx gc G X nox W) (F : FTold X R Te) (s : SlotIs X i x) (hg : glB X.env.scope "_law_told" = true)
    (c1 : ckE X.N e1 gc X.env.scope a1 = true) (c3 : ckE X.N e3 gc X.env.scope a3 = true) (c4 : ckE X.N e4 gc X.env.scope a4 = true) (n1 : notSt a1 = true) (n3 : notSt a3 = true) (n4 : notSt a4 = true) :
    PE X (.Call (.Name "_law_told" p) [a1, .Name x p2, a3, a4] [] pos) (tTold X W G R Te i e1 e3 e4) := by
  obtain ⟨k, f, fd, ps, h1, h2, h3, h4, h5⟩ := F
  obtain ⟨g1, g2, _⟩ := glB_ok hg
  exact pe_callS h5 h3 g1 h1 h2 h4 (passAt C.tk) (pa_cons (sE _ C c1).pe (pa_cons s.pe (pa_cons (sE _ C c3).pe (pa_cons (sE _ C c4).pe pa_nil (star_cons n4)) (star_cons n3)) (star_cons rfl)) (star_cons n1)) g2 (star_cons n1) (star_any (by rw [List.all_cons, List.all_cons, List.all_cons, n3, n4]; rfl))
theorem told_use {R : Int → Addr → Tr → D → D → Rr → Tr → Prop} {Te : Addr → Int → Tr → D → D → Rr → D → Prop} {i : Nat} {e1 e3 e4 : E} {p pd pu : Addr} {t t' : Tr} {way : Int} {d1 d2 o0 res : D} {r : Rr} {Q : VK} (tc : TCls X.K X.mg) (L : Rel X.K X.mg nox (A, B) F ρ σ H) (ta : TAt X.K X.mg F B p pd pu t)
    (z1 : A p = none) (z2 : A pd = none) (z3 : A pu = none) (hi : look ρ i = .bg (some p) o0) (hq : ∀ i q d, look ρ i = .bg (some q) d → q ≠ p → q ≠ pd ∧ q ≠ pu) (v1 : evE G e1 ρ = some (.v .cl (.int way))) (v3 : evE G e3 ρ = some (.v .cl d1)) (v4 : evE G e4 ρ = some (.v .cl d2))
    (hR : R way p t d1 d2 r t') (hT : Te p way t d1 d2 r res) (hx : ∀ c, r = .exc c → t' = t)
    (k : ∀ v F' H' B' pd' pu', Rel X.K X.mg nox (A, B') F' (ρ.map (repS p t'.ob)) σ H' → TAt X.K X.mg F' B' p pd' pu' t' → A pd' = none → A pu' = none → Same F F' → Rep X.K X.mg nox F' v res → (∀ x, x ≠ p → x ≠ pd → x ≠ pu → B x ≠ none → B' x = B x) → (pd' = pd ∨ B pd' = none) → (pu' = pu ∨ B pu' = none) → Q v H') : tTold X W G R Te i e1 e3 e4 σ H Q := by
  refine ⟨(A, B), F, ρ, _, L, v1, fun w1 F1 H1 x1 ok1 => ?_⟩
  cases (show Rep X.K X.mg nox F1 w1 (.int way) from ok1)
  have L1 := L.ext x1
  obtain ⟨q, g1, g2, _⟩ := L1.behind hi
  cases g2 p rfl
  refine ⟨.ref p, g1, ?_⟩
  refine ⟨(A, B), F1, ρ, _, L1, v3, fun w3 F3 H3 x3 ok3 => ?_⟩
  refine ⟨(A, B), F3, ρ, _, L1.ext x3, v4, fun w4 F4 H4 x4 ok4 => ?_⟩
  have x04 := (x1.trans x3).trans x4
  have L4 := L.ext x04
  have ta4 := ta.later x04.f L4.base z1 z2 z3
  have tah : TAt X.K X.mg F4 H4 p pd pu t := by
    obtain ⟨C, dx, vn, vp, xs, ys, h1, h2, h3, h4, hr⟩ := ta4
    exact ⟨C, dx, vn, vp, xs, ys, h1, L4.base.h _ _ h2, L4.base.h _ _ h3, L4.base.h _ _ h4, hr⟩
  refine ⟨F4, p, pd, pu, t, way, w3, w4, d1, d2, r, t', res, rfl, x4.s, tah, Rep.mono x4.f ok3, ok4, hR, hT, hx, ?_⟩
  intro v F' H' pd' pu' cg ta' o1 o2 rv
  obtain ⟨B', R', tb, same⟩ := L4.told tc ta4 cg ta' o1 o2 hq
  have af : ∀ a, H4 a = none → A a = none := fun a h => L4.base.f.free (x4.s.free h)
  exact k v F' H' B' pd' pu' R' tb (o1.elim (fun e => e ▸ z2) (af _)) (o2.elim (fun e => e ▸ z3) (af _)) (x04.f.trans cg.f) rv same (o1.imp id L4.base.h.free) (o2.imp id L4.base.h.free)
theorem l_append {i : Nat} {x : Str} (s : SlotIs X i x) {e : Expr} {te : TE} {p p3 p4 pos : Pos} (he : PE X e te) (hs : notSt e = true) (hl : (p3.endLine == p4.line) = true) :
    PS X (.Expr (.Call (.Attribute (.Name x p) "append" p3) [e] [] p4) pos) (tDrop (tBM X.K "list" rAppend (tVar i) (tCons te tNil))) :=
  ps_expr (pe_bm PySem.F.plainAttrs_list PySem.F.slot_list_append PySem.F.type_list_append mt_append s.pe (pa_cons he pa_nil (star_cons hs)) (base_ok rfl _) (few_ok (by rw [List.all_cons, hs]; rfl) rfl) hl (star_cons hs) rfl) (sw_none rfl)
theorem l_pop {i : Nat} {x : Str} (s : SlotIs X i x) {p p3 p4 : Pos} (hl : (p3.endLine == p4.line) = true) : PE X (.Call (.Attribute (.Name x p) "pop" p3) [] [] p4) (tBM0 X.K "list" rPop (tVar i)) :=
  pe_bm0 PySem.F.plainAttrs_list PySem.F.slot_list_pop PySem.F.type_list_pop mt_pop s.pe (base_ok rfl _) hl
end
end LS

set_option Elab.async false
set_option linter.all false
set_option maxRecDepth 100000
set_option maxHeartbeats 2000000
/-! LT11: methods in the head's facts; methods that change nothing. -/
namespace LS
open PySem PySem.Spec PyProof.Rows L2
/-- a method of the text -/
structure MRow where
  m : Str
  q : Str
  N : List Str
  ps : List Str
  st : Stmt
def MRow.defD (r : MRow) : He.DefD := ⟨("Trip", some r.m), r.m, r.q, defArgs r.st, defBody r.st, defScope r.st, [], []⟩
def clsBody (s : Stmt) : List Stmt := match s with
  | .ClassDef _ _ _ b _ _ _ _ _ _ _ => b
  | _ => []
def BindOkM (r : MRow) : Prop := ∀ (kV doc pm : Value) (an : Option Addr) (cdv ct : Value) (us : List Value), us.length = r.ps.length → bindArgs (PySem.W.fnOf r.m r.q (defArgs r.st) (defBody r.st) (defScope r.st) .none kV doc pm an cdv ct) ⟨us, []⟩ = pure (r.ps.zip us)
section
variable {K : PySem.W.Frag} {mg : Str → Option Value}
theorem mod_of2 {rows : List Row} {lr : Row} {cts : List (Str × Cst)} {exs ein : List Str} {h : Heap} (X : K.In h) (Gm : h.Ns mainGlobals mg) (c : ∀ f ∈ faL rows lr cts exs, f.ok K = true) (hc : cts.all cOk = true) (he : ∀ c, ein.contains c = true → ExiOk K mg ein c) : ModOk cts exs ein K mg := by
  refine ⟨fun x hx => ?_, fun x k hx => ?_, fun x hx => ?_, he⟩
  · have hm : x ∈ bnames := by simpa using hx
    exact He.free_ok X Gm (c (.free x) (by unfold faL; simp [hm]))
  · have hm : (x, k) ∈ cts := PySem.mem_of_lookup hx
    have hf : cFa (x, k) ∈ faL rows lr cts exs := by
      unfold faL
      exact List.mem_append_right _ (List.mem_cons_of_mem _ (List.mem_append_left _ (List.mem_map_of_mem hm)))
    have hk := List.all_eq_true.mp hc _ hm
    cases k with
    | int i =>
      obtain ⟨t, e⟩ := He.int_ok X Gm (c _ hf)
      exact ⟨_, e, ⟨t, rfl⟩⟩
    | str z =>
      obtain ⟨t, e⟩ := He.str_ok X Gm (c _ hf)
      exact ⟨_, e, ⟨t, rfl⟩⟩
    | _ => cases hk
  · have hm : x ∈ exs := by simpa using hx
    have h1 := He.glo_ok X Gm (c (.glo x) (by unfold faL; simp [hm]))
    obtain ⟨e1, e2, e3, e4⟩ := He.exc_ok (c (.exc x) (by unfold faL; simp [hm]))
    exact ⟨_, "ValueError", "ValueError.__new__", "ValueError.__init__", _, PySem.F.excBase_ValueError, e1, h1, e2, e3, e4⟩
theorem ei_of2 {rows : List Row} {lr : Row} {cts : List (Str × Cst)} {exs ein : List Str} {h : Heap} (X : K.In h) (Gm : h.Ns mainGlobals mg) (c : ∀ f ∈ faL rows lr cts exs, f.ok K = true) (hb : einB ein K = true) (h1 : ein.all (fun x => exs.contains x) = true) (h2 : exs.contains "LimitError" = true) :
    ∀ x, ein.contains x = true → ExiOk K mg ein x := fun x hx => by
  have glo : ∀ y, exs.contains y = true → mg y = some (.ref (He.ga K y)) := fun y hy => by
    have hm : y ∈ exs := by simpa using hy
    exact He.glo_ok X Gm (c (.glo y) (by unfold faL; simp [hm]))
  have hx' : x ∈ ein := by simpa using hx
  obtain ⟨b1, b2⟩ := He.ba (List.all_eq_true.mp hb x hx')
  obtain ⟨b3, b4⟩ := He.ba b2
  refine ⟨_, _, glo x (List.all_eq_true.mp h1 x hx'), glo _ h2, excB_ok b1, of_decide_eq_true b3, fun c' hc' => ?_⟩
  have hc2 : c' ∈ ein := by simpa using hc'
  exact ⟨_, glo c' (List.all_eq_true.mp h1 c' hc2), of_decide_eq_true (List.all_eq_true.mp b4 c' hc2)⟩
end
theorem strsD_str : ∀ ns : List Str, strsD (ns.map D.str) = some ns
  | [] => rfl
  | n :: ns => by
    show (strsD (ns.map D.str)).map (n :: ·) = _
    rw [strsD_str ns]
    rfl
theorem strsD_eq : ∀ {xs : List D} {ns : List Str}, strsD xs = some ns → xs = ns.map D.str
  | [], ns, h => by
    have h' : some [] = some ns := h
    cases h'; rfl
  | d :: xs, ns, h => by
    cases d with
    | str x =>
      have h' : (strsD xs).map (x :: ·) = some ns := h
      cases e : strsD xs with
      | none => rw [e] at h'; cases h'
      | some ms =>
        rw [e] at h'
        cases h'
        rw [strsD_eq e]
        rfl
    | _ => cases h
/-- a method that changes nothing keeps its promise -/
theorem pure_body {X : Cx} {Ex : XK} {body : List Stmt} {gc : GC} {G : Fns} {d : Def} {ns : List Str} (C : Ctx gc G X nox (fun cls d _ H => Ex cls d H)) (hck : ckSs X.N d.body gc X.env.scope body = true) (hN : d.nl = X.N.length) (hpos : 1 ≤ X.N.length) :
    ∃ T, PSs X body T ∧ ∀ vs H Q, spO X.K X.mg "Trip" (runMt G "Trip" ns d) vs H Q Ex → T { nx := fun _ H' => Q .non H', rt := Q } (L2.start X.N vs) H := by
  refine ⟨_, sSs d.body C hck, fun vs H Q h => ?_⟩
  obtain ⟨F, p, ns', ds, r, rfl, sF, fp, ow, hg, post⟩ := h
  have hg' : (if strsD (ns'.map D.str) = some ns ∧ d.np = 1 then
    (match evSs G d.body (.bg none (.obj "Trip" ns ds) :: List.replicate (d.nl - 1) .un) with
    | some (.nx _) => some (.ret .non)
    | some (.rt v) => some (.ret v)
    | some (.ex c _) => some (.exc c)
    | none => none) else none) = some (Rr.ret r) := hg
  rw [strsD_str] at hg'
  split at hg'
  · rename_i hc
    obtain ⟨e, _⟩ := hc
    cases e
    have R := entryO_rel (N := X.N) (ds := []) (ws := []) (n := d.nl - 1) sF .nil fp ow (by show 0 + (d.nl - 1) + 1 = _; omega)
    have R' : Rel X.K X.mg nox (F, H) F (.bg none (.obj "Trip" ns ds) :: List.replicate (d.nl - 1) .un) (L2.start X.N [.ref p]) H := by
      refine ⟨R.base, R.len, fun i => ?_, fun i j e1 e2 q hij h1 h2 => ?_⟩
      · cases i with
        | zero => exact ⟨p, rfl, (fun _ z => nomatch z), fp, ow⟩
        | succ i => exact R.slot (i + 1)
      · cases i with
        | zero => cases h1
        | succ i =>
          cases j with
          | zero => cases h2
          | succ j => exact R.disj (i + 1) (j + 1) e1 e2 q hij h1 h2
    cases he : evSs G d.body (.bg none (.obj "Trip" ns ds) :: List.replicate (d.nl - 1) .un) with
    | none => rw [he] at hg'; cases hg'
    | some q =>
      rw [he] at hg'
      refine ⟨(F, H), F, _, q, R', he, ?_⟩
      cases q with
      | nx ρ' => cases hg'; exact fun F2 σ' H2 _ R2 => post .non F2 H2 R2.base .non
      | rt v => cases hg'; exact fun v F2 H2 x rep => post v F2 H2 x rep
      | ex c ρ' => cases hg'
  · cases hg'
theorem mth_fn {P : Program} {w : World} {K : PySem.W.Frag} {mg : Str → Option Value} {base : Heap} {r : MRow} {f : Addr} {fd : FuncData} {lv : Nat} {sp : Sp} (F : FunD K r.m r.q (defArgs r.st) (defBody r.st) (defScope r.st) [] [] f fd) (S : FnScope r.N r.ps (defScope r.st)) (len : ∀ vs H Q E, sp vs H Q E → vs.length = r.ps.length)
    (body : ∀ (cdv : Value) (A : Around) (outer : List Env) (s : Shared) (H : Hp) (Ex : XK), Room lv (A.deeper (envOfC r.q (defScope r.st) s.heap.objs.size f cdv)) →
      ∃ T, PSs (cxOf (L2.CX P w) P w K mg base r.N r.q (defScope r.st) f cdv A outer s H Ex) (defBody r.st) T ∧ ∀ vs H' Q, sp vs H' Q Ex → T { nx := fun _ H' => Q .non H', rt := Q } (L2.start r.N vs) H') : FnOk P w K mg base (L2.CX P w) (lv + 1) f fd r.ps sp :=
  F.ok S len fun cdv A outer s H vs Q E hr h => by
    obtain ⟨T, h1, h2⟩ := body cdv A outer s H E hr
    exact ⟨T, h1, h2 vs H Q h⟩
end LS

set_option Elab.async false
set_option linter.all false
set_option maxRecDepth 100000
set_option maxHeartbeats 0
namespace LS
open PySem PySem.Spec PyProof.Rows L2
/-- is_int: value, least, most -/
def d_is_int : Def := ⟨3, 3, (.cons (.ret (.and (.cons (.isi (.var 0) "int") (.cons (.not (.isi (.var 0) "bool")) (.cons (.chain .le .le (.var 1) (.var 0) (.var 2)) .nil))))) .nil)⟩
/-- are_signs: value, sign -/
def d_are_signs : Def := ⟨1, 2, (.cons (.ite (.or (.cons (.not (.isi (.var 0) "tuple")) (.cons (.cmp .gt (.b1 .len (.var 0)) (.glb "MAX_SIGNS" (.int 3))) .nil))) (.cons (.ret (.cst (.bl false))) .nil) .nil) (.cons (.ret (.b1 .all (.lc (.fn "is_int" (.cons (.var 1) (.cons (.cst (.int 0)) (.cons (.glb "MAX_LIMIT" (.int 13)) .nil)))) (.one 1) (.seq (.var 0)) .no [1]))) .nil))⟩
/-- is_road: value -/
def d_is_road : Def := ⟨1, 1, (.cons (.ite (.or (.cons (.not (.isi (.var 0) "tuple")) (.cons (.cmp .ne (.b1 .len (.var 0)) (.cst (.int 4))) (.cons (.not (.fn "are_signs" (.cons (.ix (.var 0) (.cst (.int 3))) .nil))) .nil)))) (.cons (.ret (.cst (.bl false))) .nil) .nil) (.cons (.ret (.and (.cons (.fn "is_int" (.cons (.ix (.var 0) (.cst (.int 0))) (.cons (.cst (.int 0)) (.cons (.glb "MAX_JUNCTION" (.int 5)) .nil)))) (.cons (.fn "is_int" (.cons (.ix (.var 0) (.cst (.int 1))) (.cons (.cst (.int 0)) (.cons (.glb "MAX_JUNCTION" (.int 5)) .nil)))) (.cons (.fn "is_int" (.cons (.ix (.var 0) (.cst (.int 2))) (.cons (.cst (.int 0)) (.cons (.cst (.int 1)) .nil)))) .nil))))) .nil))⟩
/-- is_net: candidate, fast, slow, keeps, roads, road -/
def d_is_net : Def := ⟨1, 6, (.cons (.ite (.or (.cons (.not (.isi (.var 0) "tuple")) (.cons (.cmp .ne (.b1 .len (.var 0)) (.cst (.int 4))) (.cons (.not (.fn "is_int" (.cons (.ix (.var 0) (.cst (.int 0))) (.cons (.glb "MIN_FAST" (.int 5)) (.cons (.glb "MAX_LIMIT" (.int 13)) .nil))))) .nil)))) (.cons (.ret (.cst (.bl false))) .nil) .nil) (.cons (.unp [1, 2, 3, 4] (.var 0)) (.cons (.ite (.or (.cons (.not (.fn "is_int" (.cons (.var 2) (.cons (.cst (.int 1)) (.cons (.var 1) .nil))))) (.cons (.not (.fn "is_int" (.cons (.var 3) (.cons (.cst (.int 0)) (.cons (.cst (.int 1)) .nil))))) .nil))) (.cons (.ret (.cst (.bl false))) .nil) .nil) (.cons (.ret (.and (.cons (.isi (.var 4) "tuple") (.cons (.chain .le .le (.cst (.int 1)) (.b1 .len (.var 4)) (.glb "MAX_ROADS" (.int 8))) (.cons (.b1 .all (.lc (.fn "is_road" (.cons (.var 5) .nil)) (.one 5) (.seq (.var 4)) .no [5])) .nil))))) .nil))))⟩
/-- check_net: value -/
def d_check_net : Def := ⟨1, 1, (.cons (.ite (.not (.fn "is_net" (.cons (.var 0) .nil))) (.cons (.rse "InvalidNet" "the value is not a net") .nil) .nil) .nil)⟩
/-- check_road: net, value -/
def d_check_road : Def := ⟨2, 2, (.cons (.exp (.fn "check_net" (.cons (.var 0) .nil))) (.cons (.ite (.not (.fn "is_int" (.cons (.var 1) (.cons (.cst (.int 0)) (.cons (.bin .sub (.b1 .len (.ix (.var 0) (.cst (.int 3)))) (.cst (.int 1))) .nil))))) (.cons (.rse "InvalidRoad" "the value is not the number of a road") .nil) .nil) .nil))⟩
/-- find_followers: net, road, number, other -/
def d_find_followers : Def := ⟨2, 4, (.cons (.ret (.lc (.var 2) (.many [2, 3]) (.enum (.ix (.var 0) (.cst (.int 3)))) (.so (.cmp .eq (.ix (.var 3) (.cst (.int 0))) (.ix (.ix (.ix (.var 0) (.cst (.int 3))) (.var 1)) (.cst (.int 1))))) [2, 3])) .nil)⟩
/-- find_standing: net, road -/
def d_find_standing : Def := ⟨2, 2, (.cons (.ret (.ite (.cmp .eq (.ix (.ix (.ix (.var 0) (.cst (.int 3))) (.var 1)) (.cst (.int 2))) (.cst (.int 1))) (.ix (.var 0) (.cst (.int 1))) (.ix (.var 0) (.cst (.int 0))))) .nil)⟩
/-- pieces: net, road, state, rest, one -/
def d_pieces : Def := ⟨3, 5, (.cons (.set 3 (.fn "find_standing" (.cons (.var 0) (.cons (.var 1) .nil)))) (.cons (.ret (.lc (.ite (.cmp .gt (.var 4) (.cst (.int 0))) (.var 4) (.var 3)) (.one 4) (.seq (.bin .add (.tup (.cons (.var 2) .nil)) (.ix (.ix (.ix (.var 0) (.cst (.int 3))) (.var 1)) (.cst (.int 3))))) .no [4])) .nil))⟩
/-- go_over: net, state -/
def d_go_over : Def := ⟨2, 2, (.cons (.ret (.ite (.cmp .eq (.ix (.var 0) (.cst (.int 2))) (.cst (.int 1))) (.var 1) (.cst (.int 0)))) .nil)⟩
/-- _law_drawn: _law_script, _law_k, _law_many, _law_cell, _law_turn, _law_rest -/
def d__law_drawn : Def := ⟨3, 6, (.cons (.set 3 (.bin .mul (.cst (.int 7)) (.var 1))) (.cons (.frz 3) (.cons (.ite (.cmp .ne (.var 0) (.lst .nil)) (.cons (.set 3 (.ix (.var 0) (.bin .mod (.var 1) (.b1 .len (.var 0))))) (.cons (.set 4 (.bin .fdiv (.var 1) (.b1 .len (.var 0)))) (.cons (.ite (.and (.cons (.cmp .ge (.var 3) (.bin .pow (.cst (.int 10)) (.cst (.int 18)))) (.cons (.cmp .lt (.var 4) (.cst (.int 60))) .nil))) (.cons (.set 5 (.bin .fdiv (.var 3) (.bin .pow (.cst (.int 10)) (.cst (.int 18))))) (.cons (.whl (.and (.cons (.cmp .gt (.var 5) (.cst (.int 0))) (.cons (.cmp .gt (.var 4) (.cst (.int 0))) .nil))) (.cons (.set 5 (.bin .fdiv (.var 5) (.cst (.int 1000000)))) (.cons (.set 4 (.bin .sub (.var 4) (.cst (.int 1)))) .nil))) (.cons (.ite (.cmp .gt (.var 5) (.cst (.int 0))) (.cons (.ret (.bin .mod (.bin .mod (.var 5) (.cst (.int 1000000))) (.var 2))) .nil) .nil) .nil))) .nil) (.cons (.set 3 (.bin .add (.var 3) (.bin .mul (.cst (.int 6553)) (.bin .fdiv (.var 1) (.b1 .len (.var 0)))))) .nil)))) .nil) (.cons (.set 3 (.bin .mod (.bin .add (.bin .mul (.bin .mod (.var 3) (.cst (.int 2147483563))) (.cst (.int 69069))) (.bin .mul (.cst (.int 104723)) (.bin .add (.var 1) (.cst (.int 1))))) (.cst (.int 2147483563)))) (.cons (.set 3 (.bin .mod (.bin .add (.bin .mul (.var 3) (.var 3)) (.bin .fdiv (.var 3) (.cst (.int 3)))) (.cst (.int 2147483399)))) (.cons (.ret (.bin .mod (.bin .fdiv (.bin .mod (.bin .add (.bin .mul (.var 3) (.var 3)) (.bin .fdiv (.var 3) (.cst (.int 7)))) (.cst (.int 2147483647))) (.cst (.int 11))) (.var 2))) .nil))))))⟩
/-- _law_net: _law_script, _law_at, _law_most, _law_fast, _law_slow, _law_keeps, _law_roads, _law_k, _law_spot, _law_some, _law_many, _law_signs, _law_town, _law_n -/
def d__law_net : Def := ⟨3, 14, (.cons (.set 3 (.bin .add (.cst (.int 5)) (.fn "_law_drawn" (.cons (.var 0) (.cons (.var 1) (.cons (.cst (.int 9)) .nil)))))) (.cons (.par [4, 5, 6] (.cons (.bin .add (.cst (.int 1)) (.fn "_law_drawn" (.cons (.var 0) (.cons (.bin .add (.var 1) (.cst (.int 1))) (.cons (.var 3) .nil))))) (.cons (.ix (.lst (.cons (.cst (.int 1)) (.cons (.cst (.int 1)) (.cons (.cst (.int 0)) .nil)))) (.fn "_law_drawn" (.cons (.var 0) (.cons (.bin .add (.var 1) (.cst (.int 2))) (.cons (.cst (.int 3)) .nil))))) (.cons (.lst .nil) .nil)))) (.cons (.for_ (.one 7) (.rng (.bin .add (.cst (.int 1)) (.fn "_law_drawn" (.cons (.var 0) (.cons (.bin .add (.var 1) (.cst (.int 3))) (.cons (.var 2) .nil)))))) (.cons (.set 8 (.bin .add (.bin .add (.var 1) (.cst (.int 4))) (.bin .mul (.cst (.int 7)) (.var 7)))) (.cons (.set 9 (.lc (.lst (.cons (.cst (.int 0)) (.cons (.cst (.int 0)) (.cons (.var 3) (.cons (.var 4) (.cons (.cst (.int 7)) (.cons (.fn "_law_drawn" (.cons (.var 0) (.cons (.bin .add (.bin .add (.var 8) (.cst (.int 3))) (.var 13)) (.cons (.cst (.int 14)) .nil)))) .nil))))))) (.one 13) (.rng (.cst (.int 3))) .no [13])) (.cons (.frz 9) (.cons (.set 10 (.ix (.lst (.cons (.cst (.int 0)) (.cons (.cst (.int 1)) (.cons (.cst (.int 0)) (.cons (.cst (.int 2)) (.cons (.cst (.int 3)) .nil)))))) (.fn "_law_drawn" (.cons (.var 0) (.cons (.bin .add (.var 8) (.cst (.int 6))) (.cons (.cst (.int 5)) .nil)))))) (.cons (.set 11 (.b1 .tuple (.lc (.ix (.ix (.var 9) (.var 13)) (.fn "_law_drawn" (.cons (.var 0) (.cons (.bin .add (.bin .add (.var 8) (.cst (.int 2))) (.var 13)) (.cons (.cst (.int 6)) .nil))))) (.one 13) (.rng (.var 10)) .no [13]))) (.cons (.set 12 (.ix (.lst (.cons (.cst (.int 0)) (.cons (.cst (.int 0)) (.cons (.cst (.int 1)) .nil)))) (.fn "_law_drawn" (.cons (.var 0) (.cons (.bin .add (.var 8) (.cst (.int 5))) (.cons (.cst (.int 3)) .nil)))))) (.cons (.app 6 (.tup (.cons (.fn "_law_drawn" (.cons (.var 0) (.cons (.var 8) (.cons (.cst (.int 4)) .nil)))) (.cons (.fn "_law_drawn" (.cons (.var 0) (.cons (.bin .add (.var 8) (.cst (.int 1))) (.cons (.cst (.int 4)) .nil)))) (.cons (.var 12) (.cons (.var 11) .nil)))))) .nil)))))))) (.cons (.ret (.tup (.cons (.var 3) (.cons (.var 4) (.cons (.var 5) (.cons (.b1 .tuple (.var 6)) .nil)))))) .nil))))⟩
/-- _law_pieces: _law_net_here, _law_road, _law_state, _law_start, _law_end, _law_town, _law_signs, _law_one -/
def d__law_pieces : Def := ⟨3, 8, (.cons (.unp [3, 4, 5, 6] (.ix (.ix (.var 0) (.cst (.int 3))) (.var 1))) (.cons (.ret (.lc (.ite (.cmp .gt (.var 7) (.cst (.int 0))) (.var 7) (.ite (.cmp .eq (.var 5) (.cst (.int 1))) (.ix (.var 0) (.cst (.int 1))) (.ix (.var 0) (.cst (.int 0))))) (.one 7) (.seq (.bin .add (.tup (.cons (.var 2) .nil)) (.var 6))) .no [7])) .nil))⟩
/-- _law_next: _law_net_here, _law_road, _law_k -/
def d__law_next : Def := ⟨2, 3, (.cons (.ret (.lc (.var 2) (.one 2) (.rng (.b1 .len (.ix (.var 0) (.cst (.int 3))))) (.so (.cmp .eq (.ix (.ix (.ix (.var 0) (.cst (.int 3))) (.var 2)) (.cst (.int 0))) (.ix (.ix (.ix (.var 0) (.cst (.int 3))) (.var 1)) (.cst (.int 1))))) [2])) .nil)⟩
/-- _law_badnet: _law_script, _law_at, _law_road, _law_bad, _law_odd -/
def d__law_badnet : Def := ⟨2, 5, (.cons (.set 2 (.tup (.cons (.cst (.int 0)) (.cons (.cst (.int 1)) (.cons (.cst (.int 0)) (.cons (.tup .nil) .nil)))))) (.cons (.set 3 (.lst (.cons (.cst .non) (.cons (.tup .nil) (.cons (.tup (.cons (.cst (.int 10)) (.cons (.cst (.int 5)) (.cons (.cst (.int 1)) (.cons (.tup .nil) .nil))))) (.cons (.tup (.cons (.cst (.int 4)) (.cons (.cst (.int 3)) (.cons (.cst (.int 1)) (.cons (.tup (.cons (.var 2) .nil)) .nil))))) (.cons (.tup (.cons (.cst (.int 10)) (.cons (.cst (.int 11)) (.cons (.cst (.int 1)) (.cons (.tup (.cons (.var 2) .nil)) .nil))))) .nil))))))) (.cons (.set 3 (.bin .add (.var 3) (.lst (.cons (.tup (.cons (.cst (.int 10)) (.cons (.cst (.int 5)) (.cons (.cst (.int 2)) (.cons (.tup (.cons (.var 2) .nil)) .nil))))) (.cons (.tup (.cons (.cst (.int 10)) (.cons (.cst (.int 5)) (.cons (.cst (.int 1)) (.cons (.bin .mul (.tup (.cons (.var 2) .nil)) (.cst (.int 9))) .nil))))) .nil))))) (.cons (.set 3 (.bin .add (.var 3) (.lst (.cons (.lst (.cons (.cst (.int 10)) (.cons (.cst (.int 5)) (.cons (.cst (.int 1)) (.cons (.tup (.cons (.var 2) .nil)) .nil))))) (.cons (.tup (.cons (.cst (.int 10)) (.cons (.cst (.int 5)) (.cons (.cst (.int 1)) (.cons (.lst (.cons (.var 2) .nil)) .nil))))) (.cons (.tup (.cons (.cst (.bl true)) (.cons (.cst (.int 1)) (.cons (.cst (.int 1)) (.cons (.tup (.cons (.var 2) .nil)) .nil))))) .nil)))))) (.cons (.set 3 (.bin .add (.var 3) (.lst (.cons (.tup (.cons (.cst (.int 10)) (.cons (.cst (.int 5)) (.cons (.cst (.int 1)) (.cons (.tup (.cons (.tup (.cons (.cst (.int 0)) (.cons (.cst (.int 1)) (.cons (.cst (.int 0)) .nil)))) .nil)) .nil))))) .nil)))) (.cons (.for_ (.one 4) (.seq (.tup (.cons (.tup (.cons (.cst (.int 6)) (.cons (.cst (.int 1)) (.cons (.cst (.int 0)) (.cons (.tup .nil) .nil))))) (.cons (.tup (.cons (.cst (.int 0)) (.cons (.cst (.int 1)) (.cons (.cst (.int 2)) (.cons (.tup .nil) .nil))))) (.cons (.tup (.cons (.cst (.int 0)) (.cons (.cst (.int 1)) (.cons (.cst (.int 0)) (.cons (.tup (.cons (.cst (.int 14)) .nil)) .nil))))) (.cons (.tup (.cons (.cst (.int 0)) (.cons (.cst (.int 1)) (.cons (.cst (.int 0)) (.cons (.tup (.cons (.cst (.int 1)) (.cons (.cst (.int 2)) (.cons (.cst (.int 3)) (.cons (.cst (.int 4)) .nil))))) .nil))))) (.cons (.tup (.cons (.cst (.int 0)) (.cons (.cst (.int 1)) (.cons (.cst (.int 0)) (.cons (.lst (.cons (.cst (.int 1)) .nil)) .nil))))) .nil))))))) (.cons (.app 3 (.tup (.cons (.cst (.int 10)) (.cons (.cst (.int 5)) (.cons (.cst (.int 1)) (.cons (.tup (.cons (.var 4) .nil)) .nil)))))) .nil)) (.cons (.ret (.ix (.var 3) (.fn "_law_drawn" (.cons (.var 0) (.cons (.var 1) (.cons (.cst (.int 16)) .nil)))))) .nil)))))))⟩
/-- _law_due: _law_net_here, _law_now, _law_way, _law_one, _law_road, _law_piece, _law_state, _law_seen, _law_signs, _law_limit -/
def d__law_due : Def := ⟨4, 10, (.cons (.unp [4, 5, 6, 7] (.var 1)) (.cons (.set 8 (.ix (.ix (.ix (.var 0) (.cst (.int 3))) (.var 4)) (.cst (.int 3)))) (.cons (.ite (.cmp .eq (.var 2) (.cst (.int 0))) (.cons (.ite (.cmp .eq (.var 5) (.b1 .len (.var 8))) (.cons (.ret (.tup (.cons (.tup (.cons (.cst (.str "raised")) (.cons (.cst (.int 2)) .nil))) (.cons (.cst .non) .nil)))) .nil) .nil) (.cons (.set 9 (.ix (.fn "_law_pieces" (.cons (.var 0) (.cons (.var 4) (.cons (.var 6) .nil)))) (.bin .add (.var 5) (.cst (.int 1))))) (.cons (.ret (.tup (.cons (.var 9) (.cons (.tup (.cons (.var 4) (.cons (.bin .add (.var 5) (.cst (.int 1))) (.cons (.ix (.var 8) (.var 5)) (.cons (.bin .add (.var 7) (.lst (.cons (.var 9) .nil))) .nil))))) .nil)))) .nil))) .nil) (.cons (.ite (.cmp .ge (.var 3) (.b1 .len (.ix (.var 0) (.cst (.int 3))))) (.cons (.ret (.tup (.cons (.tup (.cons (.cst (.str "raised")) (.cons (.cst (.int 1)) .nil))) (.cons (.cst .non) .nil)))) .nil) .nil) (.cons (.ite (.or (.cons (.cmp .lt (.var 5) (.b1 .len (.var 8))) (.cons (.cmp .nin (.var 3) (.fn "_law_next" (.cons (.var 0) (.cons (.var 4) .nil)))) .nil))) (.cons (.ret (.tup (.cons (.tup (.cons (.cst (.str "raised")) (.cons (.cst (.int 3)) .nil))) (.cons (.cst .non) .nil)))) .nil) .nil) (.cons (.set 6 (.bin .mul (.var 6) (.ix (.var 0) (.cst (.int 2))))) (.cons (.frz 6) (.cons (.set 9 (.ix (.fn "_law_pieces" (.cons (.var 0) (.cons (.var 3) (.cons (.var 6) .nil)))) (.cst (.int 0)))) (.cons (.ret (.tup (.cons (.var 9) (.cons (.tup (.cons (.var 3) (.cons (.cst (.int 0)) (.cons (.var 6) (.cons (.bin .add (.var 7) (.lst (.cons (.var 9) .nil))) .nil))))) .nil)))) .nil)))))))))⟩
def H_is_int : Fns := []
def e_is_int : List D → Option Rr := runDef H_is_int d_is_int
def H_are_signs : Fns := ("is_int", e_is_int) :: H_is_int
@[simp] theorem fo_are_signs_is_int : LS.fnOf "is_int" H_are_signs = some e_is_int := rfl
def e_are_signs : List D → Option Rr := runDef H_are_signs d_are_signs
def H_is_road : Fns := ("are_signs", e_are_signs) :: H_are_signs
@[simp] theorem fo_is_road_is_int : LS.fnOf "is_int" H_is_road = some e_is_int := rfl
@[simp] theorem fo_is_road_are_signs : LS.fnOf "are_signs" H_is_road = some e_are_signs := rfl
def e_is_road : List D → Option Rr := runDef H_is_road d_is_road
def H_is_net : Fns := ("is_road", e_is_road) :: H_is_road
@[simp] theorem fo_is_net_is_int : LS.fnOf "is_int" H_is_net = some e_is_int := rfl
@[simp] theorem fo_is_net_is_road : LS.fnOf "is_road" H_is_net = some e_is_road := rfl
def e_is_net : List D → Option Rr := runDef H_is_net d_is_net
def H_check_net : Fns := ("is_net", e_is_net) :: H_is_net
@[simp] theorem fo_check_net_is_net : LS.fnOf "is_net" H_check_net = some e_is_net := rfl
def e_check_net : List D → Option Rr := runDef H_check_net d_check_net
def H_check_road : Fns := ("check_net", e_check_net) :: H_check_net
@[simp] theorem fo_check_road_check_net : LS.fnOf "check_net" H_check_road = some e_check_net := rfl
@[simp] theorem fo_check_road_is_int : LS.fnOf "is_int" H_check_road = some e_is_int := rfl
def e_check_road : List D → Option Rr := runDef H_check_road d_check_road
def H_find_followers : Fns := ("check_road", e_check_road) :: H_check_road
def e_find_followers : List D → Option Rr := runDef H_find_followers d_find_followers
def H_find_standing : Fns := ("find_followers", e_find_followers) :: H_find_followers
def e_find_standing : List D → Option Rr := runDef H_find_standing d_find_standing
def H_pieces : Fns := ("find_standing", e_find_standing) :: H_find_standing
@[simp] theorem fo_pieces_find_standing : LS.fnOf "find_standing" H_pieces = some e_find_standing := rfl
def e_pieces : List D → Option Rr := runDef H_pieces d_pieces
def H_go_over : Fns := ("pieces", e_pieces) :: H_pieces
def e_go_over : List D → Option Rr := runDef H_go_over d_go_over
def H__law_drawn : Fns := ("go_over", e_go_over) :: H_go_over
def e__law_drawn : List D → Option Rr := runDef H__law_drawn d__law_drawn
def H__law_net : Fns := ("_law_drawn", e__law_drawn) :: H__law_drawn
@[simp] theorem fo__law_net__law_drawn : LS.fnOf "_law_drawn" H__law_net = some e__law_drawn := rfl
def e__law_net : List D → Option Rr := runDef H__law_net d__law_net
def H__law_pieces : Fns := ("_law_net", e__law_net) :: H__law_net
def e__law_pieces : List D → Option Rr := runDef H__law_pieces d__law_pieces
def H__law_next : Fns := ("_law_pieces", e__law_pieces) :: H__law_pieces
def e__law_next : List D → Option Rr := runDef H__law_next d__law_next
def H__law_badnet : Fns := ("_law_next", e__law_next) :: H__law_next
@[simp] theorem fo__law_badnet__law_drawn : LS.fnOf "_law_drawn" H__law_badnet = some e__law_drawn := rfl
def e__law_badnet : List D → Option Rr := runDef H__law_badnet d__law_badnet
def H__law_due : Fns := ("_law_badnet", e__law_badnet) :: H__law_badnet
@[simp] theorem fo__law_due__law_pieces : LS.fnOf "_law_pieces" H__law_due = some e__law_pieces := rfl
@[simp] theorem fo__law_due__law_next : LS.fnOf "_law_next" H__law_due = some e__law_next := rfl
def e__law_due : List D → Option Rr := runDef H__law_due d__law_due
def H_law : Fns := ("_law_due", e__law_due) :: H__law_due
@[simp] theorem fo_law_is_int : LS.fnOf "is_int" H_law = some e_is_int := rfl
@[simp] theorem fo_law_are_signs : LS.fnOf "are_signs" H_law = some e_are_signs := rfl
@[simp] theorem fo_law_is_road : LS.fnOf "is_road" H_law = some e_is_road := rfl
@[simp] theorem fo_law_is_net : LS.fnOf "is_net" H_law = some e_is_net := rfl
@[simp] theorem fo_law_check_net : LS.fnOf "check_net" H_law = some e_check_net := rfl
@[simp] theorem fo_law_check_road : LS.fnOf "check_road" H_law = some e_check_road := rfl
@[simp] theorem fo_law_find_followers : LS.fnOf "find_followers" H_law = some e_find_followers := rfl
@[simp] theorem fo_law_find_standing : LS.fnOf "find_standing" H_law = some e_find_standing := rfl
@[simp] theorem fo_law_pieces : LS.fnOf "pieces" H_law = some e_pieces := rfl
@[simp] theorem fo_law_go_over : LS.fnOf "go_over" H_law = some e_go_over := rfl
@[simp] theorem fo_law__law_drawn : LS.fnOf "_law_drawn" H_law = some e__law_drawn := rfl
@[simp] theorem fo_law__law_net : LS.fnOf "_law_net" H_law = some e__law_net := rfl
@[simp] theorem fo_law__law_pieces : LS.fnOf "_law_pieces" H_law = some e__law_pieces := rfl
@[simp] theorem fo_law__law_next : LS.fnOf "_law_next" H_law = some e__law_next := rfl
@[simp] theorem fo_law__law_badnet : LS.fnOf "_law_badnet" H_law = some e__law_badnet := rfl
@[simp] theorem fo_law__law_due : LS.fnOf "_law_due" H_law = some e__law_due := rfl
def m___len__ : Def := ⟨1, 1, (.cons (.ret (.b1 .len (.ix (.fld 0 "Trip" "present") (.cst (.int 3))))) .nil)⟩
def m_place : Def := ⟨1, 1, (.cons (.ret (.sl (.fld 0 "Trip" "present") .no (.so (.cst (.int 2))))) .nil)⟩
def m_limit : Def := ⟨1, 1, (.cons (.ret (.ix (.ix (.fld 0 "Trip" "present") (.cst (.int 3))) (.neg (.cst (.int 1))))) .nil)⟩
def m_seen : Def := ⟨1, 1, (.cons (.ret (.b1 .list (.ix (.fld 0 "Trip" "present") (.cst (.int 3))))) .nil)⟩
def go_ss : Ss := (.cons (.unp [1, 2, 3, 4] (.fld 0 "Trip" "present")) (.cons (.set 5 (.ix (.ix (.ix (.fld 0 "Trip" "net") (.cst (.int 3))) (.var 1)) (.cst (.int 3)))) (.cons (.ite (.cmp .ge (.var 2) (.b1 .len (.var 5))) (.cons (.rse "AtEnd" "there is no further piece") .nil) .nil) (.cons (.set 6 (.ix (.fn "pieces" (.cons (.fld 0 "Trip" "net") (.cons (.var 1) (.cons (.var 3) .nil)))) (.bin .add (.var 2) (.cst (.int 1))))) .nil))))
def go_e : E := (.tup (.cons (.var 1) (.cons (.bin .add (.var 2) (.cst (.int 1))) (.cons (.ix (.var 5) (.var 2)) (.cons (.bin .add (.var 4) (.tup (.cons (.var 6) .nil))) .nil)))))
def turn_ss : Ss := (.cons (.ite (.not (.fn "is_int" (.cons (.var 1) (.cons (.cst (.int 0)) (.cons (.bin .sub (.b1 .len (.ix (.fld 0 "Trip" "net") (.cst (.int 3)))) (.cst (.int 1))) .nil))))) (.cons (.rse "InvalidRoad" "the value is not the number of a road") .nil) .nil) (.cons (.unp [2, 3, 4, 5] (.fld 0 "Trip" "present")) (.cons (.ite (.or (.cons (.cmp .lt (.var 3) (.b1 .len (.ix (.ix (.ix (.fld 0 "Trip" "net") (.cst (.int 3))) (.var 2)) (.cst (.int 3))))) (.cons (.cmp .nin (.var 1) (.fn "find_followers" (.cons (.fld 0 "Trip" "net") (.cons (.var 2) .nil)))) .nil))) (.cons (.rse "NotThere" "the driver cannot turn into the road") .nil) .nil) (.cons (.set 4 (.fn "go_over" (.cons (.fld 0 "Trip" "net") (.cons (.var 4) .nil)))) (.cons (.set 6 (.ix (.fn "pieces" (.cons (.fld 0 "Trip" "net") (.cons (.var 1) (.cons (.var 4) .nil)))) (.cst (.int 0)))) .nil)))))
def turn_e : E := (.tup (.cons (.var 1) (.cons (.cst (.int 0)) (.cons (.var 4) (.cons (.bin .add (.var 5) (.tup (.cons (.var 6) .nil))) .nil)))))
def init_ss : Ss := (.cons (.exp (.fn "check_road" (.cons (.var 1) (.cons (.var 2) .nil)))) .nil)
def init_e : E := (.tup (.cons (.var 2) (.cons (.cst (.int 0)) (.cons (.cst (.int 0)) (.cons (.tup (.cons (.ix (.fn "pieces" (.cons (.var 1) (.cons (.var 2) (.cons (.cst (.int 0)) .nil)))) (.cst (.int 0))) .nil)) .nil)))))
def told_h : Ss := (.cons (.set 5 (.lst (.cons (.ise 4 "InvalidNet") (.cons (.ise 4 "InvalidRoad") (.cons (.ise 4 "AtEnd") .nil))))) (.cons (.frz 5) (.cons (.ret (.tup (.cons (.cst (.str "raised")) (.cons (.mth .index (.bin .add (.var 5) (.lst (.cons (.ise 4 "NotThere") (.cons (.ise 4 "NothingToUndo") .nil)))) (.cons (.cst (.bl true)) .nil)) .nil)))) .nil)))
def law_0 : Ss := (.cons (.set 1 (.fn "_law_net" (.cons (.var 0) (.cons (.cst (.int 10)) (.cons (.cst (.int 5)) .nil))))) (.cons (.set 2 (.fn "_law_drawn" (.cons (.var 0) (.cons (.cst (.int 1)) (.cons (.b1 .len (.ix (.var 1) (.cst (.int 3)))) .nil))))) .nil))
def law_now : E := (.tup (.cons (.var 2) (.cons (.cst (.int 0)) (.cons (.cst (.int 0)) (.cons (.lst (.cons (.ix (.fn "_law_pieces" (.cons (.var 1) (.cons (.var 2) (.cons (.cst (.int 0)) .nil)))) (.cst (.int 0))) .nil)) .nil)))))
def law_it : It := (.rng (.bin .add (.cst (.int 8)) (.fn "_law_drawn" (.cons (.var 0) (.cons (.cst (.int 0)) (.cons (.cst (.int 14)) .nil))))))
def lp_0 : Ss := (.cons (.set 8 (.bin .add (.cst (.int 60)) (.bin .mul (.cst (.int 3)) (.var 7)))) (.cons (.set 9 (.ix (.lst (.cons (.cst (.int 0)) (.cons (.cst (.int 0)) (.cons (.cst (.int 1)) (.cons (.cst (.int 1)) (.cons (.cst (.int 1)) (.cons (.cst (.int 2)) (.cons (.cst (.int 3)) .nil)))))))) (.fn "_law_drawn" (.cons (.var 0) (.cons (.var 8) (.cons (.cst (.int 7)) .nil)))))) .nil))
def lp_c : E := (.cmp .lt (.var 9) (.cst (.int 2)))
def th_0 : Ss := (.cons (.set 10 (.bin .add (.fn "_law_next" (.cons (.var 1) (.cons (.ix (.var 4) (.cst (.int 0))) .nil))) (.lst (.cons (.fn "_law_drawn" (.cons (.var 0) (.cons (.bin .add (.var 8) (.cst (.int 1))) (.cons (.cst (.int 6)) .nil)))) .nil)))) (.cons (.frz 10) (.cons (.set 11 (.ix (.var 10) (.fn "_law_drawn" (.cons (.var 0) (.cons (.bin .add (.var 8) (.cst (.int 2))) (.cons (.b1 .len (.var 10)) .nil)))))) (.cons (.unp [12, 13] (.fn "_law_due" (.cons (.var 1) (.cons (.var 4) (.cons (.var 9) (.cons (.var 11) .nil)))))) .nil))))
def th_w : E := (.var 9)
def th_1 : E := (.var 11)
def th_r : E := (.var 12)
def th_2 : Ss := (.cons (.ite (.cmp .isn (.var 13) (.cst .non)) (.cons (.app 5 (.var 4)) (.cons (.par [4, 6] (.cons (.var 13) (.cons (.lst .nil) .nil))) .nil)) .nil) .nil)
def el_t : E := (.cmp .eq (.var 9) (.cst (.int 2)))
def el_r : E := (.ite (.cmp .eq (.var 14) (.lst .nil)) (.tup (.cons (.cst (.str "raised")) (.cons (.cst (.int 4)) .nil))) (.cst .non))
def el_u : E := (.cmp .ne (.var 14) (.lst .nil))
def lp_1 : Ss := (.cons (.ite (.or (.cons (.cmp .ne (.mcl 3 "Trip" "place" "Trip.place") (.sl (.var 4) .no (.so (.cst (.int 2))))) (.cons (.cmp .ne (.mcl 3 "Trip" "seen" "Trip.seen") (.ix (.var 4) (.cst (.int 3)))) .nil))) (.cons (.ret (.cst (.bl false))) .nil) .nil) (.cons (.ite (.or (.cons (.cmp .ne (.mcl 3 "Trip" "limit" "Trip.limit") (.ix (.ix (.var 4) (.cst (.int 3))) (.neg (.cst (.int 1))))) (.cons (.cmp .ne (.oln 3 "Trip" "Trip.__len__") (.b1 .len (.ix (.var 4) (.cst (.int 3))))) .nil))) (.cons (.ret (.cst (.bl false))) .nil) .nil) .nil))
def law_1 : Ss := (.cons (.set 16 (.ix (.lst (.cons (.cst .non) (.cons (.neg (.cst (.int 1))) (.cons (.b1 .len (.ix (.var 1) (.cst (.int 3)))) (.cons (.cst (.bl true)) (.cons (.cst (.str "0")) .nil)))))) (.fn "_law_drawn" (.cons (.var 0) (.cons (.cst (.int 2)) (.cons (.cst (.int 5)) .nil)))))) .nil)
def tl_1 : E := (.var 16)
def tl_2 : E := (.fn "_law_badnet" (.cons (.var 0) (.cons (.cst (.int 3)) .nil)))
def tl_3 : E := (.var 16)
def law_2 : Ss := (.cons (.ite (.cmp .ne (.var 17) (.lst (.cons (.tup (.cons (.cst (.str "raised")) (.cons (.cst (.int 1)) .nil))) (.cons (.tup (.cons (.cst (.str "raised")) (.cons (.cst (.int 0)) .nil))) (.cons (.tup (.cons (.cst (.str "raised")) (.cons (.cst (.int 1)) .nil))) .nil))))) (.cons (.ret (.cst (.bl false))) .nil) .nil) (.cons (.ret (.and (.cons (.cmp .eq (.mcl 3 "Trip" "place" "Trip.place") (.sl (.var 4) .no (.so (.cst (.int 2))))) (.cons (.cmp .eq (.mcl 3 "Trip" "seen" "Trip.seen") (.ix (.var 4) (.cst (.int 3)))) .nil)))) .nil))
end LS

set_option Elab.async false
set_option linter.all false
set_option maxRecDepth 100000
set_option maxHeartbeats 2000000
/-! K64w: the walk through the law k64. -/
namespace LS
open PySem PySem.Spec PyProof.Rows L2
/-- if _law_told(..) != ..: return False -/
def ShTI (N : List Str) (sc : Scope) (gc : GC) (e1 e3 e4 eR : E) (st : Stmt) : Prop := ∃ (a1 a3 a4 r : Expr) (j : Nat) (p1 p2 p3 p4 p5 p6 p7 : Pos), st = .If (.Compare (.Call (.Name "_law_told" p1) [a1, .Name "_law_trip" p2, a3, a4] [] p3) [.NotEq] [r] p4) [.Return (some (.Constant (.bool false) j p5)) p6] [] p7 ∧
  (ckE N e1 gc sc a1 && ckE N e3 gc sc a3 && ckE N e4 gc sc a4 && ckE N eR gc sc r && notSt a1 && notSt a3 && notSt a4 && !behindInMarks .NotEq r) = true
section
variable {X : Cx} {W : WX} {G : Fns} {gc : GC} {A B F H : Hp} {ρ : En} {σ : L2.St}
def tTI (X : Cx) (W : WX) (G : Fns) (R : Int → Addr → Tr → D → D → Rr → Tr → Prop) (Te : Addr → Int → Tr → D → D → Rr → D → Prop) (e1 e3 e4 eR : E) : TS :=
  tIfS (tTest (tOp (rC2 X.K X.mg nox (cop .ne)) (tTold X W G R Te 3 e1 e3 e4) (tE X nox W G eR))) (tRet (L2.tC (.bl false))) tNext
theorem r_ti {R : Int → Addr → Tr → D → D → Rr → Tr → Prop} {Te : Addr → Int → Tr → D → D → Rr → D → Prop} {e1 e3 e4 eR : E} {st : Stmt} (C : Ctx gc G X nox W) (F : FTold X R Te) (s : SlotIs X 3 "_law_trip") (hg : glB X.env.scope "_law_told" = true) (sh : ShTI X.N X.env.scope gc e1 e3 e4 eR st) : PS X st (tTI X W G R Te e1 e3 e4 eR) := by
  obtain ⟨a1, a3, a4, r, j, p1, p2, p3, p4, p5, p6, p7, rfl, ck⟩ := sh
  simp only [Bool.and_eq_true, Bool.not_eq_true'] at ck
  obtain ⟨⟨⟨⟨⟨⟨⟨k1, k2⟩, k3⟩, k4⟩, k5⟩, k6⟩, k7⟩, k8⟩ := ck
  exact ps_if (pt_cmpR (cop_ok (xc := nox) .ne C.hu) (r_told C F s hg k1 k2 k3 k5 k6 k7) (sE _ C k4).pe k8) (pss_one (ps_ret pe_bl)) pss_nil
theorem ti_use {R : Int → Addr → Tr → D → D → Rr → Tr → Prop} {Te : Addr → Int → Tr → D → D → Rr → D → Prop} {e1 e3 e4 eR : E} {p pd pu : Addr} {t t' : Tr} {way : Int} {d1 d2 o0 res dR : D} {m : Mk} {r : Rr} {De : Ends} (tc : TCls X.K X.mg) (L : Rel X.K X.mg nox (A, B) F ρ σ H) (ta : TAt X.K X.mg F B p pd pu t)
    (z1 : A p = none) (z2 : A pd = none) (z3 : A pu = none) (hi : look ρ 3 = .bg (some p) o0) (hq : ∀ i q d, look ρ i = .bg (some q) d → q ≠ p → q ≠ pd ∧ q ≠ pu) (v1 : evE G e1 ρ = some (.v .cl (.int way))) (v3 : evE G e3 ρ = some (.v .cl d1)) (v4 : evE G e4 ρ = some (.v .cl d2))
    (hR : R way p t d1 d2 r t') (hT : Te p way t d1 d2 r res) (hx : ∀ c, r = .exc c → t' = t) (vR : evE G eR (ρ.map (repS p t'.ob)) = some (.v m dR)) (hc : cop .ne res dR = some false)
    (k : ∀ F' H' B' pd' pu', Rel X.K X.mg nox (A, B') F' (ρ.map (repS p t'.ob)) σ H' → TAt X.K X.mg F' B' p pd' pu' t' → A pd' = none → A pu' = none → Same F F' → (∀ x, x ≠ p → x ≠ pd → x ≠ pu → B x ≠ none → B' x = B x) → (pd' = pd ∨ B pd' = none) → (pu' = pu ∨ B pu' = none) → De.nx σ H') : tTI X W G R Te e1 e3 e4 eR De σ H := by
  refine told_use tc L ta z1 z2 z3 hi hq v1 v3 v4 hR hT hx fun v F1 H1 B1 pd' pu' L1 ta1 y2 y3 s1 rv same o1 o2 => ?_
  refine ⟨(A, B1), F1, _, _, L1, vR, fun w F2 H2 x2 ok2 => ?_⟩
  refine ⟨F2, res, dR, false, x2.s, .inl (rv.mono x2.f), ok2.vr, hc, false, rfl, ?_⟩
  exact k F2 H2 B1 pd' pu' (L1.ext x2) (ta1.later x2.f (L1.ext x2).base z1 y2 y3) y2 y3 (s1.trans x2.f) same o1 o2
end
/-! ### a turn of the law's loop -/
def eL (ns : List Int) (nd : D) (p : Addr) (o now : D) (s5 s6 s7 s8 s9 s10 s11 s12 s13 s14 s15 : SV) : En := [.fz (.scr ns), .fz nd, .un, .bg (some p) o, .fz now, s5, s6, s7, s8, s9, s10, s11, s12, s13, s14, s15, .un, .un]
abbrev eH (ns : List Int) (nd : D) (p : Addr) (o now : D) (dn un : List D) : En := eL ns nd p o now (.ow (.lst dn)) (.ow (.lst un)) .un .un .un .un .un .un .un .un .un
def ShEl (N : List Str) (sc : Scope) (gc : GC) (l : List Stmt) : Prop := ∃ (ct cu en : Expr) (ti : Stmt) (k1 k2 k3 : Nat) (p1 p2 p3 p4 p5 p6 p7 p8 p9 q1 q2 q3 q4 q5 q6 q7 q8 q9 r1 r2 r3 r4 : Pos), l = [
    .Assign [.Tuple [.Name "_law_used" p1, .Name "_law_kept" p2] k1 p3] (.IfExp ct (.Tuple [.Name "_law_done" p4, .Name "_law_undone" p5] k2 p6) (.Tuple [.Name "_law_undone" p7, .Name "_law_done" p8] k3 p9) q1) q2,
    ti,
    .If cu [.Expr (.Call (.Attribute (.Name "_law_kept" q3) "append" q4) [en] [] q5) q6, .Assign [.Name "_law_now" q7] (.Call (.Attribute (.Name "_law_used" q8) "pop" q9) [] [] r1) r2] [] r3] ∧
  ShTI N sc gc (.var 9) (.cst (.int 0)) (.cst (.int 0)) el_r ti ∧ (ckE N el_t gc sc ct && ckE N el_u gc sc cu && ckE N (.var 4) gc sc en && notSt en && (q4.endLine == q5.line) && (q9.endLine == r1.line) && asgsB gc N sc [14, 15] [.Name "_law_used" p1, .Name "_law_kept" p2] && asgB gc N sc 4 (.Name "_law_now" q7) && !gc.hot) = true
def ShLb (N : List Str) (sc : Scope) (gc : GC) (l : List Stmt) : Prop := ∃ (c : Expr) (th el rest : List Stmt) (ti : Stmt) (p : Pos), l.drop 2 = .If c th el p :: rest ∧ ckSs N lp_0 gc sc (l.take 2) = true ∧ ckE N lp_c gc sc c = true ∧ ckSs N th_0 gc sc (th.take 3) = true ∧ (∃ tr, th.drop 3 = ti :: tr ∧ ckSs N th_2 gc sc tr = true) ∧ ShTI N sc gc th_w th_1 (.cst (.int 0)) th_r ti ∧ ShEl N sc gc el ∧ ckSs N lp_1 gc sc rest = true
structure Fr where
  ns : List Int
  nd : D
  R : Int → Addr → Tr → D → D → Rr → Tr → Prop
  Te : Addr → Int → Tr → D → D → Rr → D → Prop
/-- the turn's last tests hold, then P -/
def Last (G : Fns) (f : Fr) (p : Addr) (P : Tr → D → List D → List D → Prop) (t : Tr) (now : D) (dn un : List D) : Prop := evSs G lp_1 (eH f.ns f.nd p t.ob now dn un) = some (.nx (eH f.ns f.nd p t.ob now dn un)) ∧ P t now dn un
def d4 : D := .tup [.str "raised", .int 4]
def StepOk (G : Fns) (f : Fr) (k : Int) (p : Addr) (t : Tr) (now : D) (dn un : List D) (P : Tr → D → List D → List D → Prop) : Prop :=
  ∃ at_ w : Int, evSs G lp_0 (eL f.ns f.nd p t.ob now (.ow (.lst dn)) (.ow (.lst un)) (.fz (.int k)) .un .un .un .un .un .un .un .un) = some (.nx (eL f.ns f.nd p t.ob now (.ow (.lst dn)) (.ow (.lst un)) (.fz (.int k)) (.fz (.int at_)) (.fz (.int w)) .un .un .un .un .un .un)) ∧
  ((w < 2 ∧ ∃ near one due new r t' res now' dn' un', evSs G th_0 (eL f.ns f.nd p t.ob now (.ow (.lst dn)) (.ow (.lst un)) (.fz (.int k)) (.fz (.int at_)) (.fz (.int w)) .un .un .un .un .un .un) =
      some (.nx (eL f.ns f.nd p t.ob now (.ow (.lst dn)) (.ow (.lst un)) (.fz (.int k)) (.fz (.int at_)) (.fz (.int w)) (.fz near) (.fz one) (.fz due) (.fz new) .un .un)) ∧ f.R w p t one (.int 0) r t' ∧ f.Te p w t one (.int 0) r res ∧ (∀ c, r = .exc c → t' = t) ∧ cop .ne res due = some false ∧
      evSs G th_2 (eL f.ns f.nd p t'.ob now (.ow (.lst dn)) (.ow (.lst un)) (.fz (.int k)) (.fz (.int at_)) (.fz (.int w)) (.fz near) (.fz one) (.fz due) (.fz new) .un .un) = some (.nx (eL f.ns f.nd p t'.ob now' (.ow (.lst dn')) (.ow (.lst un')) (.fz (.int k)) (.fz (.int at_)) (.fz (.int w)) (.fz near) (.fz one) (.fz due) (.fz new) .un .un)) ∧
      Last G f p P t' now' dn' un') ∨
   (w = 2 ∧ ∃ r t' res, f.R w p t (.int 0) (.int 0) r t' ∧ f.Te p w t (.int 0) (.int 0) r res ∧ (∀ c, r = .exc c → t' = t) ∧ eqOk (.lst dn) (.lst []) = true ∧ cop .ne res (if dn = [] then d4 else .non) = some false ∧ un.length < 1000 ∧ ((dn = [] ∧ Last G f p P t' now dn un) ∨ ∃ d, dn.getLast? = some d ∧ Last G f p P t' d dn.dropLast (un ++ [now]))) ∨
   (w = 3 ∧ ∃ r t' res, f.R w p t (.int 0) (.int 0) r t' ∧ f.Te p w t (.int 0) (.int 0) r res ∧ (∀ c, r = .exc c → t' = t) ∧ eqOk (.lst un) (.lst []) = true ∧ cop .ne res (if un = [] then d4 else .non) = some false ∧ dn.length < 1000 ∧ ((un = [] ∧ Last G f p P t' now dn un) ∨ ∃ d, un.getLast? = some d ∧ Last G f p P t' d (dn ++ [now]) un.dropLast)))
end LS

set_option Elab.async false
set_option linter.all false
set_option maxRecDepth 100000
set_option maxHeartbeats 2000000
/-! K64v (printed by gen/mkel.py): the law's else branch. -/
namespace LS
open PySem PySem.Spec PyProof.Rows L2
theorem tst_eq {G : Fns} {i : Nat} {ρ : En} {o : Option Nat} {ds : List D} (h : look ρ i = .bg o (.lst ds)) (he : eqOk (.lst ds) (.lst []) = true) : evE G (.cmp .eq (.var i) (.lst .nil)) ρ = some (.v .cl (.bl (decide (ds = [])))) := by
  have e : eqD (.lst ds) (.lst []) = decide (ds = []) := by cases ds <;> rfl
  simp only [ev_cmp, ev_var, h, bnd, ev_lst, ev_nil, bndL, List.length_nil]
  show blO (if eqOk (.lst ds) (.lst []) = true then some (eqD (.lst ds) (.lst [])) else none) = _
  rw [if_pos he, e]
  rfl
theorem tst_ne {G : Fns} {i : Nat} {ρ : En} {o : Option Nat} {ds : List D} (h : look ρ i = .bg o (.lst ds)) (he : eqOk (.lst ds) (.lst []) = true) : evE G (.cmp .ne (.var i) (.lst .nil)) ρ = some (.v .cl (.bl (!decide (ds = [])))) := by
  have e : eqD (.lst ds) (.lst []) = decide (ds = []) := by cases ds <;> rfl
  simp only [ev_cmp, ev_var, h, bnd, ev_lst, ev_nil, bndL, List.length_nil]
  show blO (if eqOk (.lst ds) (.lst []) = true then some (!eqD (.lst ds) (.lst [])) else none) = _
  rw [if_pos he, e]
  rfl
section
variable {X : Cx} {W : WX} {G : Fns} {gc : GC}
/-- both lists are owned again -/
theorem back2 {A B F H : Hp} {σ : L2.St} {p pd pu a b : Addr} {t' : Tr} {now : D} {dn un : List D} {ns : List Int} {nd : D} {s7 s8 s9 : D} {Z Y : Prop} (post : ∀ B', Rel X.K X.mg nox (A, B') F (eL ns nd p t'.ob now (.ow (.lst dn)) (.ow (.lst un)) (.fz s7) (.fz s8) (.fz s9) .un .un .un .un .un .un) σ H → TAt X.K X.mg F B' p pd pu t' → A pd = none → A pu = none → Z → Y)
    (L : Rel X.K X.mg nox (A, B) F (eL ns nd p t'.ob now (.bg (some a) (.lst dn)) (.bg (some b) (.lst un)) (.fz s7) (.fz s8) (.fz s9) .un .un .un .un .un .un) σ H) (ta : TAt X.K X.mg F B p pd pu t') (z2 : A pd = none) (z3 : A pu = none) (npa : p ≠ a) (npb : p ≠ b) (nab : a ≠ b) (nda : pd ≠ a) (ndb : pd ≠ b) (nua : pu ≠ a) (nub : pu ≠ b) (z : Z) : Y := by
  have L1 := L.bgo (i := 5) (q := a) (d := .lst dn) rfl (fun j w d' hj h => by
    match j, h with
    | 3, h => cases h; exact ⟨p, rfl, npa⟩
    | 5, h => exact absurd rfl hj
    | 6, h => cases h; exact ⟨b, rfl, nab.symm⟩
    | 7, h => cases h
    | 8, h => cases h
    | 9, h => cases h
    | 10, h => cases h
    | 11, h => cases h
    | 12, h => cases h
    | 13, h => cases h
    | 14, h => cases h
    | 15, h => cases h
    | 16, h => cases h
    | 17, h => cases h
    | _ + 18, h => cases h)
  have L2 := L1.bgo (i := 6) (q := b) (d := .lst un) rfl (fun j w d' hj h => by
    match j, h with
    | 3, h => cases h; exact ⟨p, rfl, npb⟩
    | 6, h => exact absurd rfl hj
    | 7, h => cases h
    | 8, h => cases h
    | 9, h => cases h
    | 10, h => cases h
    | 11, h => cases h
    | 12, h => cases h
    | 13, h => cases h
    | 14, h => cases h
    | 15, h => cases h
    | 16, h => cases h
    | 17, h => cases h
    | _ + 18, h => cases h)
  have c : ∀ x, x ≠ a → x ≠ b → (fun x => if x = b then none else (fun x => if x = a then none else B x) x) x = B x := fun x h1 h2 => by
    show (if x = b then none else if x = a then none else B x) = B x
    rw [if_neg h2, if_neg h1]
  exact post _ L2 (ta.cells (c p npa npb) (c pd nda ndb) (c pu nua nub)) z2 z3 z
def TEl (X : Cx) (De : Ends) (σ : L2.St) (H : Hp) (R : Int → Addr → Tr → D → D → Rr → Tr → Prop) (Te : Addr → Int → Tr → D → D → Rr → D → Prop) (w : Int) (ns : List Int) (nd : D) : Prop :=
  ∃ A B F p pd pu t t' now dn un k at_ r res, Rel X.K X.mg nox (A, B) F (eL ns nd p t.ob now (.ow (.lst dn)) (.ow (.lst un)) (.fz (.int k)) (.fz (.int at_)) (.fz (.int w)) .un .un .un .un .un .un) σ H ∧ TAt X.K X.mg F B p pd pu t ∧ A p = none ∧ A pd = none ∧ A pu = none ∧
    R w p t (.int 0) (.int 0) r t' ∧ Te p w t (.int 0) (.int 0) r res ∧ (∀ c, r = .exc c → t' = t) ∧ eqOk (.lst (if w = 2 then dn else un)) (.lst []) = true ∧ cop .ne res (if (if w = 2 then dn else un) = [] then d4 else .non) = some false ∧ (if w = 2 then un else dn).length < 1000 ∧
    ∀ F' σ' H' B' pd' pu' now' dn' un', Same F F' → Rel X.K X.mg nox (A, B') F' (eL ns nd p t'.ob now' (.ow (.lst dn')) (.ow (.lst un')) (.fz (.int k)) (.fz (.int at_)) (.fz (.int w)) .un .un .un .un .un .un) σ' H' → TAt X.K X.mg F' B' p pd' pu' t' → A pd' = none → A pu' = none →
      (((if w = 2 then dn else un) = [] ∧ now' = now ∧ dn' = dn ∧ un' = un) ∨ ∃ d, (if w = 2 then dn else un).getLast? = some d ∧ now' = d ∧ dn' = (if w = 2 then dn.dropLast else dn ++ [now]) ∧ un' = (if w = 2 then un ++ [now] else un.dropLast)) → De.nx σ' H'
theorem el_undo {R : Int → Addr → Tr → D → D → Rr → Tr → Prop} {Te : Addr → Int → Tr → D → D → Rr → D → Prop} {l : List Stmt} {ns : List Int} {nd : D} (C : Ctx gc G X nox W) (FT : FTold X R Te) (s3 : SlotIs X 3 "_law_trip") (s5 : SlotIs X 5 "_law_done") (s6 : SlotIs X 6 "_law_undone") (s14 : SlotIs X 14 "_law_used") (s15 : SlotIs X 15 "_law_kept")
    (hg : glB X.env.scope "_law_told" = true) (sh : ShEl X.N X.env.scope gc l) (tc : TCls X.K X.mg) :
    PSs X l (fun De σ H => TEl X De σ H R Te 2 ns nd) := by
  obtain ⟨ct, cu, en, ti, k1, k2, k3, p1, p2, p3, p4, p5, p6, p7, p8, p9, q1, q2, q3, q4, q5, q6, q7, q8, q9, r1, r2, r3, r4, rfl, shT, ck⟩ := sh
  simp only [Bool.and_eq_true, Bool.not_eq_true'] at ck
  obtain ⟨⟨⟨⟨⟨⟨⟨⟨c1, c2⟩, c3⟩, c4⟩, l1⟩, l2⟩, g1⟩, g2⟩, hh⟩ := ck
  obtain ⟨h1, h2, h3⟩ := g_names C g1
  obtain ⟨n1, n2⟩ := asg_nm g2
  refine (pss_cons (ps_asg (pe_ifExp ((sE _ C c1).pt rfl) (pe_tup (x1 := k2) (pos := p6) (pa_cons (s5.pe (p := p4)) (pa_cons (s6.pe (p := p5)) pa_nil (star_cons rfl)) (star_cons rfl))) (pe_tup (pa_cons (s6.pe (p := p7)) (pa_cons (s5.pe (p := p8)) pa_nil (star_cons rfl)) (star_cons rfl)))) (pg_tup (C.calm hh) h1 h2 h3) sole_tup (stores_none rfl) rfl)
    (pss_cons (r_ti C FT s3 hg shT) (pss_one (ps_if ((sE _ C c2).pt rfl) (pss_cons (l_append (p := q3) (p3 := q4) (p4 := q5) (pos := q6) s15 (sE _ C c3).pe c4 l1)
      (pss_one (ps_set (pos := r2) C.nd n1 (by rcases n2 with q | ⟨q, _⟩; exact .inl q; exact .inr q) (l_pop (p := q8) (p3 := q9) (p4 := r1) s14 l2) (sw_none rfl) (by rcases n2 with q | ⟨_, q⟩; exact .inr q; exact .inl (C.fnl _ q))))) pss_nil)))).of ?_
  intro De σ H ⟨A, B, F, p, pd, pu, t, t', now, dn, un, k, at_, r, res, L, ta, z1, z2, z3, hR, hT, hx, he, hc, hlen, post⟩
  obtain ⟨a, oa, ea, ha, ba, fa, owa, La⟩ := L.obg (i := 5) (d := .lst dn) rfl
  obtain ⟨b, ob, eb, hb, bb, fb, owb, Lb⟩ := La.obg (i := 6) (d := .lst un) rfl
  obtain ⟨xa, ha', ra⟩ := owa
  obtain ⟨xb, hb', rb⟩ := owb
  cases ha.symm.trans ha'
  cases hb.symm.trans hb'
  have nab : a ≠ b := fun z => by subst z; rw [upd_same] at bb; cases bb
  have bb0 : B b = none := by rw [upd_ne nab.symm] at bb; exact bb
  obtain ⟨y1, y2, y3, f1, f2, f3⟩ := ta.some
  have npa : p ≠ a := fun z => y1 (by rw [z]; exact ba)
  have npb : p ≠ b := fun z => y1 (by rw [z]; exact bb0)
  have nda : pd ≠ a := fun z => y2 (by rw [z]; exact ba)
  have ndb : pd ≠ b := fun z => y2 (by rw [z]; exact bb0)
  have nua : pu ≠ a := fun z => y3 (by rw [z]; exact ba)
  have nub : pu ≠ b := fun z => y3 (by rw [z]; exact bb0)
  have ta2 := (ta.upd (o := .lst xa) npa nda nua).upd (o := .lst xb) npb ndb nub
  have ca : L2.upd (L2.upd B a (.lst xa)) b (.lst xb) a = some (.lst xa) := by rw [upd_ne nab, upd_same]
  have cb : L2.upd (L2.upd B a (.lst xa)) b (.lst xb) b = some (.lst xb) := upd_same
  generalize hB2 : L2.upd (L2.upd B a (.lst xa)) b (.lst xb) = B2 at *
  have Lb2 : Rel X.K X.mg nox (A, B2) F (eL ns nd p t.ob now (.bg (some a) (.lst dn)) (.bg (some b) (.lst un)) (.fz (.int k)) (.fz (.int at_)) (.fz (.int 2)) .un .un .un .un .un .un) σ H := Lb
  have hlen' : un.length < 1000 := hlen
  -- the names for the two lists
  refine ⟨(A, B2), F, _, _, Lb2, eq_ev rfl, fun F1 H1 x1 => ?_⟩
  have L1 := Lb2.ext x1
  show (if _ then _ else _)
  rw [if_pos (by decide)]
  refine ⟨.ref a, (by obtain ⟨q, e1, e2, _⟩ := L1.behind (i := 5) (o := some a) (d := .lst dn) rfl; cases e2 a rfl; exact e1), .ref b, (by obtain ⟨q, e1, e2, _⟩ := L1.behind (i := 6) (o := some b) (d := .lst un) rfl; cases e2 b rfl; exact e1), ?_⟩
  refine ⟨by show 2 ≤ sizeLine; rw [sizeLine_eq]; omega, fun q hq => ?_⟩
  refine ⟨q, [.ref a, .ref b], rfl, .of upd_same, rfl, rfl, ?_⟩
  have fa1 : F1 a = none := by obtain ⟨q, e1, e2, e3, _⟩ := L1.behind (i := 5) (o := some a) (d := .lst dn) rfl; cases e2 a rfl; exact e3
  have fb1 : F1 b = none := by obtain ⟨q, e1, e2, e3, _⟩ := L1.behind (i := 6) (o := some b) (d := .lst un) rfl; cases e2 b rfl; exact e3
  have L2' := L1.ext (Ext.newH (o := .tup [.ref a, .ref b]) x1.s hq)
  have owa2 : Own X.K X.mg nox F1 B2 a (.lst dn) := ⟨xa, ca, ra.mono x1.f⟩
  have owb2 : Own X.K X.mg nox F1 B2 b (.lst un) := ⟨xb, cb, rb.mono x1.f⟩
  have L3 := (L2'.setbg (i := 14) fa1 owa2).setbg (i := 15) fb1 owb2
  have ta3 := ta2.later x1.f L2'.base z1 z2 z3
  have L4 : Rel X.K X.mg nox (A, B2) F1 (eL ns nd p t.ob now (.bg (some a) (.lst dn)) (.bg (some b) (.lst un)) (.fz (.int k)) (.fz (.int at_)) (.fz (.int 2)) .un .un .un .un (.bg (some a) (.lst dn)) (.bg (some b) (.lst un))) ((σ.set 14 (some (.ref a))).set 15 (some (.ref b))) (L2.upd H1 q (.tup [.ref a, .ref b])) := L3
  have bgs : ∀ (o : D) i q d, look (eL ns nd p o now (.bg (some a) (.lst dn)) (.bg (some b) (.lst un)) (.fz (.int k)) (.fz (.int at_)) (.fz (.int 2)) .un .un .un .un (.bg (some a) (.lst dn)) (.bg (some b) (.lst un))) i = .bg (some q) d → q = p ∨ q = a ∨ q = b := fun o i q d h => by
    match i, h with
    | 3, h => cases h; exact .inl rfl
    | 5, h => cases h; exact .inr (.inl rfl)
    | 6, h => cases h; exact .inr (.inr rfl)
    | 14, h => cases h; exact .inr (.inl rfl)
    | 15, h => cases h; exact .inr (.inr rfl)
    | 7, h => cases h
    | 8, h => cases h
    | 9, h => cases h
    | 10, h => cases h
    | 11, h => cases h
    | 12, h => cases h
    | 13, h => cases h
    | 16, h => cases h
    | 17, h => cases h
    | _ + 18, h => cases h
  have rep : (eL ns nd p t.ob now (.bg (some a) (.lst dn)) (.bg (some b) (.lst un)) (.fz (.int k)) (.fz (.int at_)) (.fz (.int 2)) .un .un .un .un (.bg (some a) (.lst dn)) (.bg (some b) (.lst un))).map (repS p t'.ob) = eL ns nd p t'.ob now (.bg (some a) (.lst dn)) (.bg (some b) (.lst un)) (.fz (.int k)) (.fz (.int at_)) (.fz (.int 2)) .un .un .un .un (.bg (some a) (.lst dn)) (.bg (some b) (.lst un)) := by
    simp [eL, repS, npa.symm, npb.symm]
  dsimp only
  refine ti_use (r := r) (t' := t') (way := 2) (d1 := .int 0) (d2 := .int 0) (res := res) (dR := if dn = [] then d4 else .non) (m := .cl) tc L4 ta3 z1 z2 z3 rfl (fun i q d h hne => ?_) rfl rfl rfl hR hT hx ?_ hc ?_
  · rcases bgs _ i q d h with rfl | rfl | rfl
    · exact absurd rfl hne
    · exact ⟨nda.symm, nua.symm⟩
    · exact ⟨ndb.symm, nub.symm⟩
  · rw [rep]
    show (bnd (evE G (.cmp .eq (.var 14) (.lst .nil)) _) fun _ d => _) = _
    have e0 : evE G (.cmp .eq (.var 14) (.lst .nil)) (eL ns nd p t'.ob now (.bg (some a) (.lst dn)) (.bg (some b) (.lst un)) (.fz (.int k)) (.fz (.int at_)) (.fz (.int 2)) .un .un .un .un (.bg (some a) (.lst dn)) (.bg (some b) (.lst un))) = some (.v .cl (.bl (decide (dn = [])))) := by
      rw [tst_eq (ds := dn) (o := some a) rfl he]
    rw [e0]
    by_cases hu : dn = []
    · rw [if_pos hu, decide_eq_true hu]; rfl
    · rw [if_neg hu, decide_eq_false hu]; rfl
  intro F2 H2 B3 pd' pu' L5 ta5 z4 z5 s2 same o1 o2
  rw [rep] at L5
  have ca3 : B3 a = some (.lst xa) := by rw [same a npa.symm nda.symm nua.symm (by rw [ca]; exact (fun z => nomatch z))]; exact ca
  have cb3 : B3 b = some (.lst xb) := by rw [same b npb.symm ndb.symm nub.symm (by rw [cb]; exact (fun z => nomatch z))]; exact cb
  have nda' : pd' ≠ a := fun z => by
    rcases o1 with e | e
    · exact nda (e ▸ z)
    · rw [z, ca] at e; cases e
  have ndb' : pd' ≠ b := fun z => by
    rcases o1 with e | e
    · exact ndb (e ▸ z)
    · rw [z, cb] at e; cases e
  have nua' : pu' ≠ a := fun z => by
    rcases o2 with e | e
    · exact nua (e ▸ z)
    · rw [z, ca] at e; cases e
  have nub' : pu' ≠ b := fun z => by
    rcases o2 with e | e
    · exact nub (e ▸ z)
    · rw [z, cb] at e; cases e
  have e0 : evE G el_u (eL ns nd p t'.ob now (.bg (some a) (.lst dn)) (.bg (some b) (.lst un)) (.fz (.int k)) (.fz (.int at_)) (.fz (.int 2)) .un .un .un .un (.bg (some a) (.lst dn)) (.bg (some b) (.lst un))) = some (.v .cl (.bl (!decide (dn = [])))) := tst_ne (ds := dn) (o := some a) rfl he
  refine ⟨(A, B3), F2, _, _, L5, e0, fun F3 H3 x3 => ?_⟩
  have L6 := L5.ext x3
  have ta6 := ta5.later x3.f L6.base z1 z4 z5
  have s3' := (x1.f.trans s2).trans x3.f
  have fa3 : F3 a = none := by obtain ⟨q, e1, e2, e3, _⟩ := L6.behind (i := 5) (o := some a) (d := .lst dn) rfl; cases e2 a rfl; exact e3
  have fb3 : F3 b = none := by obtain ⟨q, e1, e2, e3, _⟩ := L6.behind (i := 6) (o := some b) (d := .lst un) rfl; cases e2 b rfl; exact e3
  by_cases hu : dn = []
  · rw [decide_eq_true hu]
    show (if false = true then _ else _)
    rw [if_neg Bool.false_ne_true]
    refine st_next ?_
    have L7 := L6.weak (ρ' := eL ns nd p t'.ob now (.bg (some a) (.lst dn)) (.bg (some b) (.lst un)) (.fz (.int k)) (.fz (.int at_)) (.fz (.int 2)) .un .un .un .un .un .un) rfl (fun i => by
      match i with
      | 14 => exact .inr rfl
      | 15 => exact .inr rfl
      | 0 | 1 | 2 | 3 | 4 | 5 | 6 | 7 | 8 | 9 | 10 | 11 | 12 | 13 | 16 | 17 => exact .inl rfl
      | _ + 18 => exact .inl rfl)
    exact back2 (post F3 _ H3 · pd' pu' now dn un s3') L7 ta6 z4 z5 npa npb nab nda' ndb' nua' nub' (.inl ⟨hu, rfl, rfl, rfl⟩)
  · rw [decide_eq_false hu]
    show (if true = true then _ else _)
    rw [if_pos rfl]
    unfold tSeq tDrop tBM
    obtain ⟨qk, ek, eq2, _⟩ := L6.behind (i := 15) (o := some b) (d := .lst un) rfl
    cases eq2 b rfl
    refine ⟨.ref b, ek, ty_lst (L6.base.h _ _ cb3), ?_⟩
    unfold tCons tNil
    refine ⟨(A, B3), F3, _, .v .cl now, L6, rfl, fun v F4 H4 x4 ok => ?_⟩
    have ok' : Rep X.K X.mg nox F4 v now := ok
    have L7 := L6.ext x4
    have fa4 : F4 a = none := by obtain ⟨q, e1, e2, e3, _⟩ := L7.behind (i := 5) (o := some a) (d := .lst dn) rfl; cases e2 a rfl; exact e3
    have fb4 : F4 b = none := by obtain ⟨q, e1, e2, e3, _⟩ := L7.behind (i := 6) (o := some b) (d := .lst un) rfl; cases e2 b rfl; exact e3
    have s4 := s3'.trans x4.f
    have ra4 := ra.mono s4
    have rb4 := rb.mono s4
    refine ⟨b, xb, v, rfl, rfl, L7.base.h _ _ cb3, by rw [rb.length, sizeLine_eq]; omega, ?_⟩
    have L8 := L7.mutl cb3 fb4 (rb4.append (.cons ok' .nil))
    have rep8 : (eL ns nd p t'.ob now (.bg (some a) (.lst dn)) (.bg (some b) (.lst un)) (.fz (.int k)) (.fz (.int at_)) (.fz (.int 2)) .un .un .un .un (.bg (some a) (.lst dn)) (.bg (some b) (.lst un))).map (repS b (.lst (un ++ [now]))) = eL ns nd p t'.ob now (.bg (some a) (.lst dn)) (.bg (some b) (.lst (un ++ [now]))) (.fz (.int k)) (.fz (.int at_)) (.fz (.int 2)) .un .un .un .un (.bg (some a) (.lst dn)) (.bg (some b) (.lst (un ++ [now]))) := by
      simp [eL, repS, npa, npb, nab, nab.symm]
    rw [rep8] at L8
    obtain ⟨d, hd⟩ : ∃ d, dn.getLast? = some d := by
      cases q : dn.getLast? with
      | none => exact absurd (List.getLast?_eq_none_iff.mp q) hu
      | some d => exact ⟨d, rfl⟩
    obtain ⟨w, hw, rw_⟩ := ra4.get (i := dn.length - 1) (by rw [List.getLast?_eq_getElem?] at hd; exact hd)
    rw [← ra.length] at hw
    obtain ⟨qu, eu, eu2, _⟩ := L8.behind (i := 14) (o := some a) (d := .lst dn) rfl
    cases eu2 a rfl
    have cu8 : L2.upd B3 b (.lst (xb ++ [v])) a = some (.lst xa) := by rw [upd_ne nab]; exact ca3
    refine ⟨.ref a, eu, ty_lst (L8.base.h _ _ cu8), a, xa, w, rfl, rfl, L8.base.h _ _ cu8, hw, ?_⟩
    have L9 := L8.mutl cu8 fa4 (rdrop ra4)
    have rep9 : (eL ns nd p t'.ob now (.bg (some a) (.lst dn)) (.bg (some b) (.lst (un ++ [now]))) (.fz (.int k)) (.fz (.int at_)) (.fz (.int 2)) .un .un .un .un (.bg (some a) (.lst dn)) (.bg (some b) (.lst (un ++ [now])))).map (repS a (.lst dn.dropLast)) = eL ns nd p t'.ob now (.bg (some a) (.lst dn.dropLast)) (.bg (some b) (.lst (un ++ [now]))) (.fz (.int k)) (.fz (.int at_)) (.fz (.int 2)) .un .un .un .un (.bg (some a) (.lst dn.dropLast)) (.bg (some b) (.lst (un ++ [now]))) := by
      simp [eL, repS, npa, npb, nab, nab.symm]
    rw [rep9] at L9
    have L10 := L9.set_fz (i := 4) (v := w) rw_
    have L11 := L10.weak (ρ' := eL ns nd p t'.ob d (.bg (some a) (.lst dn.dropLast)) (.bg (some b) (.lst (un ++ [now]))) (.fz (.int k)) (.fz (.int at_)) (.fz (.int 2)) .un .un .un .un .un .un) rfl (fun i => by
      match i with
      | 14 => exact .inr rfl
      | 15 => exact .inr rfl
      | 0 | 1 | 2 | 3 | 4 | 5 | 6 | 7 | 8 | 9 | 10 | 11 | 12 | 13 | 16 | 17 => exact .inl rfl
      | _ + 18 => exact .inl rfl)
    have ta8 := ((ta6.later x4.f L7.base z1 z4 z5).upd (q := b) (o := .lst (xb ++ [v])) npb ndb' nub').upd (q := a) (o := .lst xa.dropLast) npa nda' nua'
    exact back2 (post F4 _ _ · pd' pu' d dn.dropLast (un ++ [now]) s4) L11 ta8 z4 z5 npa npb nab nda' ndb' nua' nub' (.inr ⟨d, hd, rfl, rfl, rfl⟩)
theorem el_redo {R : Int → Addr → Tr → D → D → Rr → Tr → Prop} {Te : Addr → Int → Tr → D → D → Rr → D → Prop} {l : List Stmt} {ns : List Int} {nd : D} (C : Ctx gc G X nox W) (FT : FTold X R Te) (s3 : SlotIs X 3 "_law_trip") (s5 : SlotIs X 5 "_law_done") (s6 : SlotIs X 6 "_law_undone") (s14 : SlotIs X 14 "_law_used") (s15 : SlotIs X 15 "_law_kept")
    (hg : glB X.env.scope "_law_told" = true) (sh : ShEl X.N X.env.scope gc l) (tc : TCls X.K X.mg) :
    PSs X l (fun De σ H => TEl X De σ H R Te 3 ns nd) := by
  obtain ⟨ct, cu, en, ti, k1, k2, k3, p1, p2, p3, p4, p5, p6, p7, p8, p9, q1, q2, q3, q4, q5, q6, q7, q8, q9, r1, r2, r3, r4, rfl, shT, ck⟩ := sh
  simp only [Bool.and_eq_true, Bool.not_eq_true'] at ck
  obtain ⟨⟨⟨⟨⟨⟨⟨⟨c1, c2⟩, c3⟩, c4⟩, l1⟩, l2⟩, g1⟩, g2⟩, hh⟩ := ck
  obtain ⟨h1, h2, h3⟩ := g_names C g1
  obtain ⟨n1, n2⟩ := asg_nm g2
  refine (pss_cons (ps_asg (pe_ifExp ((sE _ C c1).pt rfl) (pe_tup (x1 := k2) (pos := p6) (pa_cons (s5.pe (p := p4)) (pa_cons (s6.pe (p := p5)) pa_nil (star_cons rfl)) (star_cons rfl))) (pe_tup (pa_cons (s6.pe (p := p7)) (pa_cons (s5.pe (p := p8)) pa_nil (star_cons rfl)) (star_cons rfl)))) (pg_tup (C.calm hh) h1 h2 h3) sole_tup (stores_none rfl) rfl)
    (pss_cons (r_ti C FT s3 hg shT) (pss_one (ps_if ((sE _ C c2).pt rfl) (pss_cons (l_append (p := q3) (p3 := q4) (p4 := q5) (pos := q6) s15 (sE _ C c3).pe c4 l1)
      (pss_one (ps_set (pos := r2) C.nd n1 (by rcases n2 with q | ⟨q, _⟩; exact .inl q; exact .inr q) (l_pop (p := q8) (p3 := q9) (p4 := r1) s14 l2) (sw_none rfl) (by rcases n2 with q | ⟨_, q⟩; exact .inr q; exact .inl (C.fnl _ q))))) pss_nil)))).of ?_
  intro De σ H ⟨A, B, F, p, pd, pu, t, t', now, dn, un, k, at_, r, res, L, ta, z1, z2, z3, hR, hT, hx, he, hc, hlen, post⟩
  obtain ⟨a, oa, ea, ha, ba, fa, owa, La⟩ := L.obg (i := 5) (d := .lst dn) rfl
  obtain ⟨b, ob, eb, hb, bb, fb, owb, Lb⟩ := La.obg (i := 6) (d := .lst un) rfl
  obtain ⟨xa, ha', ra⟩ := owa
  obtain ⟨xb, hb', rb⟩ := owb
  cases ha.symm.trans ha'
  cases hb.symm.trans hb'
  have nab : a ≠ b := fun z => by subst z; rw [upd_same] at bb; cases bb
  have bb0 : B b = none := by rw [upd_ne nab.symm] at bb; exact bb
  obtain ⟨y1, y2, y3, f1, f2, f3⟩ := ta.some
  have npa : p ≠ a := fun z => y1 (by rw [z]; exact ba)
  have npb : p ≠ b := fun z => y1 (by rw [z]; exact bb0)
  have nda : pd ≠ a := fun z => y2 (by rw [z]; exact ba)
  have ndb : pd ≠ b := fun z => y2 (by rw [z]; exact bb0)
  have nua : pu ≠ a := fun z => y3 (by rw [z]; exact ba)
  have nub : pu ≠ b := fun z => y3 (by rw [z]; exact bb0)
  have ta2 := (ta.upd (o := .lst xa) npa nda nua).upd (o := .lst xb) npb ndb nub
  have ca : L2.upd (L2.upd B a (.lst xa)) b (.lst xb) a = some (.lst xa) := by rw [upd_ne nab, upd_same]
  have cb : L2.upd (L2.upd B a (.lst xa)) b (.lst xb) b = some (.lst xb) := upd_same
  generalize hB2 : L2.upd (L2.upd B a (.lst xa)) b (.lst xb) = B2 at *
  have Lb2 : Rel X.K X.mg nox (A, B2) F (eL ns nd p t.ob now (.bg (some a) (.lst dn)) (.bg (some b) (.lst un)) (.fz (.int k)) (.fz (.int at_)) (.fz (.int 3)) .un .un .un .un .un .un) σ H := Lb
  have hlen' : dn.length < 1000 := hlen
  -- the names for the two lists
  refine ⟨(A, B2), F, _, _, Lb2, eq_ev rfl, fun F1 H1 x1 => ?_⟩
  have L1 := Lb2.ext x1
  show (if _ then _ else _)
  rw [if_neg (by decide)]
  refine ⟨.ref b, (by obtain ⟨q, e1, e2, _⟩ := L1.behind (i := 6) (o := some b) (d := .lst un) rfl; cases e2 b rfl; exact e1), .ref a, (by obtain ⟨q, e1, e2, _⟩ := L1.behind (i := 5) (o := some a) (d := .lst dn) rfl; cases e2 a rfl; exact e1), ?_⟩
  refine ⟨by show 2 ≤ sizeLine; rw [sizeLine_eq]; omega, fun q hq => ?_⟩
  refine ⟨q, [.ref b, .ref a], rfl, .of upd_same, rfl, rfl, ?_⟩
  have fa1 : F1 a = none := by obtain ⟨q, e1, e2, e3, _⟩ := L1.behind (i := 5) (o := some a) (d := .lst dn) rfl; cases e2 a rfl; exact e3
  have fb1 : F1 b = none := by obtain ⟨q, e1, e2, e3, _⟩ := L1.behind (i := 6) (o := some b) (d := .lst un) rfl; cases e2 b rfl; exact e3
  have L2' := L1.ext (Ext.newH (o := .tup [.ref b, .ref a]) x1.s hq)
  have owa2 : Own X.K X.mg nox F1 B2 a (.lst dn) := ⟨xa, ca, ra.mono x1.f⟩
  have owb2 : Own X.K X.mg nox F1 B2 b (.lst un) := ⟨xb, cb, rb.mono x1.f⟩
  have L3 := (L2'.setbg (i := 14) fb1 owb2).setbg (i := 15) fa1 owa2
  have ta3 := ta2.later x1.f L2'.base z1 z2 z3
  have L4 : Rel X.K X.mg nox (A, B2) F1 (eL ns nd p t.ob now (.bg (some a) (.lst dn)) (.bg (some b) (.lst un)) (.fz (.int k)) (.fz (.int at_)) (.fz (.int 3)) .un .un .un .un (.bg (some b) (.lst un)) (.bg (some a) (.lst dn))) ((σ.set 14 (some (.ref b))).set 15 (some (.ref a))) (L2.upd H1 q (.tup [.ref b, .ref a])) := L3
  have bgs : ∀ (o : D) i q d, look (eL ns nd p o now (.bg (some a) (.lst dn)) (.bg (some b) (.lst un)) (.fz (.int k)) (.fz (.int at_)) (.fz (.int 3)) .un .un .un .un (.bg (some b) (.lst un)) (.bg (some a) (.lst dn))) i = .bg (some q) d → q = p ∨ q = a ∨ q = b := fun o i q d h => by
    match i, h with
    | 3, h => cases h; exact .inl rfl
    | 5, h => cases h; exact .inr (.inl rfl)
    | 6, h => cases h; exact .inr (.inr rfl)
    | 14, h => cases h; exact .inr (.inr rfl)
    | 15, h => cases h; exact .inr (.inl rfl)
    | 7, h => cases h
    | 8, h => cases h
    | 9, h => cases h
    | 10, h => cases h
    | 11, h => cases h
    | 12, h => cases h
    | 13, h => cases h
    | 16, h => cases h
    | 17, h => cases h
    | _ + 18, h => cases h
  have rep : (eL ns nd p t.ob now (.bg (some a) (.lst dn)) (.bg (some b) (.lst un)) (.fz (.int k)) (.fz (.int at_)) (.fz (.int 3)) .un .un .un .un (.bg (some b) (.lst un)) (.bg (some a) (.lst dn))).map (repS p t'.ob) = eL ns nd p t'.ob now (.bg (some a) (.lst dn)) (.bg (some b) (.lst un)) (.fz (.int k)) (.fz (.int at_)) (.fz (.int 3)) .un .un .un .un (.bg (some b) (.lst un)) (.bg (some a) (.lst dn)) := by
    simp [eL, repS, npa.symm, npb.symm]
  dsimp only
  refine ti_use (r := r) (t' := t') (way := 3) (d1 := .int 0) (d2 := .int 0) (res := res) (dR := if un = [] then d4 else .non) (m := .cl) tc L4 ta3 z1 z2 z3 rfl (fun i q d h hne => ?_) rfl rfl rfl hR hT hx ?_ hc ?_
  · rcases bgs _ i q d h with rfl | rfl | rfl
    · exact absurd rfl hne
    · exact ⟨nda.symm, nua.symm⟩
    · exact ⟨ndb.symm, nub.symm⟩
  · rw [rep]
    show (bnd (evE G (.cmp .eq (.var 14) (.lst .nil)) _) fun _ d => _) = _
    have e0 : evE G (.cmp .eq (.var 14) (.lst .nil)) (eL ns nd p t'.ob now (.bg (some a) (.lst dn)) (.bg (some b) (.lst un)) (.fz (.int k)) (.fz (.int at_)) (.fz (.int 3)) .un .un .un .un (.bg (some b) (.lst un)) (.bg (some a) (.lst dn))) = some (.v .cl (.bl (decide (un = [])))) := by
      rw [tst_eq (ds := un) (o := some b) rfl he]
    rw [e0]
    by_cases hu : un = []
    · rw [if_pos hu, decide_eq_true hu]; rfl
    · rw [if_neg hu, decide_eq_false hu]; rfl
  intro F2 H2 B3 pd' pu' L5 ta5 z4 z5 s2 same o1 o2
  rw [rep] at L5
  have ca3 : B3 a = some (.lst xa) := by rw [same a npa.symm nda.symm nua.symm (by rw [ca]; exact (fun z => nomatch z))]; exact ca
  have cb3 : B3 b = some (.lst xb) := by rw [same b npb.symm ndb.symm nub.symm (by rw [cb]; exact (fun z => nomatch z))]; exact cb
  have nda' : pd' ≠ a := fun z => by
    rcases o1 with e | e
    · exact nda (e ▸ z)
    · rw [z, ca] at e; cases e
  have ndb' : pd' ≠ b := fun z => by
    rcases o1 with e | e
    · exact ndb (e ▸ z)
    · rw [z, cb] at e; cases e
  have nua' : pu' ≠ a := fun z => by
    rcases o2 with e | e
    · exact nua (e ▸ z)
    · rw [z, ca] at e; cases e
  have nub' : pu' ≠ b := fun z => by
    rcases o2 with e | e
    · exact nub (e ▸ z)
    · rw [z, cb] at e; cases e
  have e0 : evE G el_u (eL ns nd p t'.ob now (.bg (some a) (.lst dn)) (.bg (some b) (.lst un)) (.fz (.int k)) (.fz (.int at_)) (.fz (.int 3)) .un .un .un .un (.bg (some b) (.lst un)) (.bg (some a) (.lst dn))) = some (.v .cl (.bl (!decide (un = [])))) := tst_ne (ds := un) (o := some b) rfl he
  refine ⟨(A, B3), F2, _, _, L5, e0, fun F3 H3 x3 => ?_⟩
  have L6 := L5.ext x3
  have ta6 := ta5.later x3.f L6.base z1 z4 z5
  have s3' := (x1.f.trans s2).trans x3.f
  have fa3 : F3 a = none := by obtain ⟨q, e1, e2, e3, _⟩ := L6.behind (i := 5) (o := some a) (d := .lst dn) rfl; cases e2 a rfl; exact e3
  have fb3 : F3 b = none := by obtain ⟨q, e1, e2, e3, _⟩ := L6.behind (i := 6) (o := some b) (d := .lst un) rfl; cases e2 b rfl; exact e3
  by_cases hu : un = []
  · rw [decide_eq_true hu]
    show (if false = true then _ else _)
    rw [if_neg Bool.false_ne_true]
    refine st_next ?_
    have L7 := L6.weak (ρ' := eL ns nd p t'.ob now (.bg (some a) (.lst dn)) (.bg (some b) (.lst un)) (.fz (.int k)) (.fz (.int at_)) (.fz (.int 3)) .un .un .un .un .un .un) rfl (fun i => by
      match i with
      | 14 => exact .inr rfl
      | 15 => exact .inr rfl
      | 0 | 1 | 2 | 3 | 4 | 5 | 6 | 7 | 8 | 9 | 10 | 11 | 12 | 13 | 16 | 17 => exact .inl rfl
      | _ + 18 => exact .inl rfl)
    exact back2 (post F3 _ H3 · pd' pu' now dn un s3') L7 ta6 z4 z5 npa npb nab nda' ndb' nua' nub' (.inl ⟨hu, rfl, rfl, rfl⟩)
  · rw [decide_eq_false hu]
    show (if true = true then _ else _)
    rw [if_pos rfl]
    unfold tSeq tDrop tBM
    obtain ⟨qk, ek, eq2, _⟩ := L6.behind (i := 15) (o := some a) (d := .lst dn) rfl
    cases eq2 a rfl
    refine ⟨.ref a, ek, ty_lst (L6.base.h _ _ ca3), ?_⟩
    unfold tCons tNil
    refine ⟨(A, B3), F3, _, .v .cl now, L6, rfl, fun v F4 H4 x4 ok => ?_⟩
    have ok' : Rep X.K X.mg nox F4 v now := ok
    have L7 := L6.ext x4
    have fa4 : F4 a = none := by obtain ⟨q, e1, e2, e3, _⟩ := L7.behind (i := 5) (o := some a) (d := .lst dn) rfl; cases e2 a rfl; exact e3
    have fb4 : F4 b = none := by obtain ⟨q, e1, e2, e3, _⟩ := L7.behind (i := 6) (o := some b) (d := .lst un) rfl; cases e2 b rfl; exact e3
    have s4 := s3'.trans x4.f
    have ra4 := ra.mono s4
    have rb4 := rb.mono s4
    refine ⟨a, xa, v, rfl, rfl, L7.base.h _ _ ca3, by rw [ra.length, sizeLine_eq]; omega, ?_⟩
    have L8 := L7.mutl ca3 fa4 (ra4.append (.cons ok' .nil))
    have rep8 : (eL ns nd p t'.ob now (.bg (some a) (.lst dn)) (.bg (some b) (.lst un)) (.fz (.int k)) (.fz (.int at_)) (.fz (.int 3)) .un .un .un .un (.bg (some b) (.lst un)) (.bg (some a) (.lst dn))).map (repS a (.lst (dn ++ [now]))) = eL ns nd p t'.ob now (.bg (some a) (.lst (dn ++ [now]))) (.bg (some b) (.lst un)) (.fz (.int k)) (.fz (.int at_)) (.fz (.int 3)) .un .un .un .un (.bg (some b) (.lst un)) (.bg (some a) (.lst (dn ++ [now]))) := by
      simp [eL, repS, npa, npb, nab, nab.symm]
    rw [rep8] at L8
    obtain ⟨d, hd⟩ : ∃ d, un.getLast? = some d := by
      cases q : un.getLast? with
      | none => exact absurd (List.getLast?_eq_none_iff.mp q) hu
      | some d => exact ⟨d, rfl⟩
    obtain ⟨w, hw, rw_⟩ := rb4.get (i := un.length - 1) (by rw [List.getLast?_eq_getElem?] at hd; exact hd)
    rw [← rb.length] at hw
    obtain ⟨qu, eu, eu2, _⟩ := L8.behind (i := 14) (o := some b) (d := .lst un) rfl
    cases eu2 b rfl
    have cu8 : L2.upd B3 a (.lst (xa ++ [v])) b = some (.lst xb) := by rw [upd_ne nab.symm]; exact cb3
    refine ⟨.ref b, eu, ty_lst (L8.base.h _ _ cu8), b, xb, w, rfl, rfl, L8.base.h _ _ cu8, hw, ?_⟩
    have L9 := L8.mutl cu8 fb4 (rdrop rb4)
    have rep9 : (eL ns nd p t'.ob now (.bg (some a) (.lst (dn ++ [now]))) (.bg (some b) (.lst un)) (.fz (.int k)) (.fz (.int at_)) (.fz (.int 3)) .un .un .un .un (.bg (some b) (.lst un)) (.bg (some a) (.lst (dn ++ [now])))).map (repS b (.lst un.dropLast)) = eL ns nd p t'.ob now (.bg (some a) (.lst (dn ++ [now]))) (.bg (some b) (.lst un.dropLast)) (.fz (.int k)) (.fz (.int at_)) (.fz (.int 3)) .un .un .un .un (.bg (some b) (.lst un.dropLast)) (.bg (some a) (.lst (dn ++ [now]))) := by
      simp [eL, repS, npa, npb, nab, nab.symm]
    rw [rep9] at L9
    have L10 := L9.set_fz (i := 4) (v := w) rw_
    have L11 := L10.weak (ρ' := eL ns nd p t'.ob d (.bg (some a) (.lst (dn ++ [now]))) (.bg (some b) (.lst un.dropLast)) (.fz (.int k)) (.fz (.int at_)) (.fz (.int 3)) .un .un .un .un .un .un) rfl (fun i => by
      match i with
      | 14 => exact .inr rfl
      | 15 => exact .inr rfl
      | 0 | 1 | 2 | 3 | 4 | 5 | 6 | 7 | 8 | 9 | 10 | 11 | 12 | 13 | 16 | 17 => exact .inl rfl
      | _ + 18 => exact .inl rfl)
    have ta8 := ((ta6.later x4.f L7.base z1 z4 z5).upd (q := a) (o := .lst (xa ++ [v])) npa nda' nua').upd (q := b) (o := .lst xb.dropLast) npb ndb' nub'
    exact back2 (post F4 _ _ · pd' pu' d (dn ++ [now]) un.dropLast s4) L11 ta8 z4 z5 npa npb nab nda' ndb' nua' nub' (.inr ⟨d, hd, rfl, rfl, rfl⟩)
end
end LS

set_option Elab.async false
set_option linter.all false
set_option maxRecDepth 100000
set_option maxHeartbeats 2000000
/-! K64u: a turn of the law's loop. -/
namespace LS
open PySem PySem.Spec PyProof.Rows L2
theorem rep_eL {ns : List Int} {nd : D} {p : Addr} {o o' now : D} {d5 d6 : List D} {s7 s8 s9 s10 s11 s12 s13 : D} : (eL ns nd p o now (.ow (.lst d5)) (.ow (.lst d6)) (.fz s7) (.fz s8) (.fz s9) (.fz s10) (.fz s11) (.fz s12) (.fz s13) .un .un).map (repS p o') = eL ns nd p o' now (.ow (.lst d5)) (.ow (.lst d6)) (.fz s7) (.fz s8) (.fz s9) (.fz s10) (.fz s11) (.fz s12) (.fz s13) .un .un := by
  simp [eL, repS]
theorem bg_eL {ns : List Int} {nd : D} {p : Addr} {o now : D} {d5 d6 : List D} {s7 s8 s9 s10 s11 s12 s13 : D} : ∀ i q d, look (eL ns nd p o now (.ow (.lst d5)) (.ow (.lst d6)) (.fz s7) (.fz s8) (.fz s9) (.fz s10) (.fz s11) (.fz s12) (.fz s13) .un .un) i = .bg (some q) d → q = p := fun i q d h => by
  match i, h with
  | 3, h => cases h; rfl
  | 7, h => cases h
  | 8, h => cases h
  | 9, h => cases h
  | 10, h => cases h
  | 11, h => cases h
  | 12, h => cases h
  | 13, h => cases h
  | 14, h => cases h
  | 15, h => cases h
  | 16, h => cases h
  | 17, h => cases h
  | _ + 18, h => cases h
theorem weak_eL {ns : List Int} {nd : D} {p : Addr} {o now : D} {s5 s6 s7 s8 s9 s10 s11 s12 s13 s14 s15 : SV} : ∀ i, look (eL ns nd p o now s5 s6 .un .un .un .un .un .un .un .un .un) i = look (eL ns nd p o now s5 s6 s7 s8 s9 s10 s11 s12 s13 s14 s15) i ∨ look (eL ns nd p o now s5 s6 .un .un .un .un .un .un .un .un .un) i = .un := fun i => by
  match i with
  | 0 | 1 | 2 | 3 | 4 | 5 | 6 | 16 | 17 => exact .inl rfl
  | 7 | 8 | 9 | 10 | 11 | 12 | 13 | 14 | 15 => exact .inr rfl
  | _ + 18 => exact .inl rfl
section
variable {X : Cx} {W : WX} {G : Fns} {gc : GC}
def TLb (X : Cx) (G : Fns) (f : Fr) (De : Ends) (σ : L2.St) (H : Hp) : Prop :=
  ∃ A B F p pd pu t now dn un k P, Rel X.K X.mg nox (A, B) F (eL f.ns f.nd p t.ob now (.ow (.lst dn)) (.ow (.lst un)) (.fz (.int k)) .un .un .un .un .un .un .un .un) σ H ∧ TAt X.K X.mg F B p pd pu t ∧ A p = none ∧ A pd = none ∧ A pu = none ∧ StepOk G f k p t now dn un P ∧
    ∀ F' σ' H' B' pd' pu' t' now' dn' un', Same F F' → Rel X.K X.mg nox (A, B') F' (eH f.ns f.nd p t'.ob now' dn' un') σ' H' → TAt X.K X.mg F' B' p pd' pu' t' → A pd' = none → A pu' = none → P t' now' dn' un' → De.nx σ' H'
theorem lb_rel {f : Fr} {l : List Stmt} (C : Ctx gc G X nox W) (FT : FTold X f.R f.Te) (s3 : SlotIs X 3 "_law_trip") (s5 : SlotIs X 5 "_law_done") (s6 : SlotIs X 6 "_law_undone") (s14 : SlotIs X 14 "_law_used") (s15 : SlotIs X 15 "_law_kept")
    (hg : glB X.env.scope "_law_told" = true) (sh : ShLb X.N X.env.scope gc l) (tc : TCls X.K X.mg) : PSs X l (fun De σ H => TLb X G f De σ H) := by
  obtain ⟨c, th, el, rest, ti, p, hd, ck0, ckc, ckt, ⟨tr, htr, ckr⟩, shT, shE, ckl⟩ := sh
  have hT := pss_cons (r_ti C FT s3 hg shT) (sSs th_2 C ckr)
  rw [← htr] at hT
  have hb := pss_cons (ps_if (pos := p) ((sE _ C ckc).pt rfl) (run_take 3 C ckt hT) (pss_or (el_undo (ns := f.ns) (nd := f.nd) C FT s3 s5 s6 s14 s15 hg shE tc) (el_redo (ns := f.ns) (nd := f.nd) C FT s3 s5 s6 s14 s15 hg shE tc))) (sSs lp_1 C ckl)
  rw [← hd] at hb
  refine (run_take 2 C ck0 hb).of ?_
  intro De σ H ⟨A, B, F, p, pd, pu, t, now, dn, un, k, P, L, ta, z1, z2, z3, ⟨at_, w, ev0, hcs⟩, post⟩
  refine ⟨(A, B), F, _, _, L, ev0, fun F1 σ1 H1 s1 L1 => ?_⟩
  unfold tSeq tIfS
  refine ⟨(A, B), F1, _, _, L1, lt_ev rfl, fun F2 H2 x2 => ?_⟩
  have Lw := L1.ext x2
  have s2 := s1.trans x2.f
  have ta2 := ta.later s2 Lw.base z1 z2 z3
  show (if _ then _ else _)
  have last : ∀ {F3 : Hp} {σ3 : L2.St} {H3 : Hp} {B3 : Hp} {pd' pu' : Addr} {t' : Tr} {now' : D} {dn' un' : List D} {s7 s8 s9 s10 s11 s12 s13 s14 s15 : SV}, Same F F3 → Rel X.K X.mg nox (A, B3) F3 (eL f.ns f.nd p t'.ob now' (.ow (.lst dn')) (.ow (.lst un')) s7 s8 s9 s10 s11 s12 s13 s14 s15) σ3 H3 → TAt X.K X.mg F3 B3 p pd' pu' t' → A pd' = none → A pu' = none → Last G f p P t' now' dn' un' → tSs X nox W G lp_1 De σ3 H3 := fun {F3 σ3 H3 B3 pd' pu' t' now' dn' un' s7 s8 s9 s10 s11 s12 s13 s14 s15} s3 L3 ta3 y2 y3 hl =>
    ⟨(A, B3), F3, _, _, L3.weak (ρ' := eH f.ns f.nd p t'.ob now' dn' un') rfl weak_eL, hl.1, fun F4 σ4 H4 s4 L4 => post F4 σ4 H4 B3 pd' pu' t' now' dn' un' (s3.trans s4) L4 (ta3.later s4 L4.base z1 y2 y3) y2 y3 hl.2⟩
  rcases hcs with ⟨hw, near, one, due, new, r, t', res, now', dn', un', ev1, hR, hTe, hx, hc, ev2, hl⟩ | ⟨rfl, r, t', res, hR, hTe, hx, he, hc, hlen, hl⟩ | ⟨rfl, r, t', res, hR, hTe, hx, he, hc, hlen, hl⟩
  · rw [if_pos (decide_eq_true hw)]
    refine ⟨(A, B), F2, _, _, Lw, ev1, fun F3 σ3 H3 s3' L3 => ?_⟩
    have ta3 := ta2.later s3' L3.base z1 z2 z3
    show tTI X W G f.R f.Te th_w th_1 (.cst (.int 0)) th_r _ σ3 H3
    refine ti_use (r := r) (t' := t') (way := w) (d1 := one) (d2 := .int 0) (res := res) (dR := due) (m := .cl) tc L3 ta3 z1 z2 z3 rfl (fun i q d h hne => absurd (bg_eL i q d h) hne) rfl rfl rfl hR hTe hx (by rw [rep_eL]; rfl) hc ?_
    intro F4 H4 B4 pd' pu' L4 ta4 y2 y3 s4 _ _ _
    rw [rep_eL] at L4
    refine ⟨(A, B4), F4, _, _, L4, ev2, fun F5 σ5 H5 s5' L5 => ?_⟩
    exact last (((s2.trans s3').trans s4).trans s5') L5 (ta4.later s5' L5.base z1 y2 y3) y2 y3 hl
  · rw [if_neg (by decide)]
    refine .inl ⟨A, B, F2, p, pd, pu, t, t', now, dn, un, k, at_, r, res, Lw, ta2, z1, z2, z3, hR, hTe, hx, he, hc, hlen, ?_⟩
    intro F3 σ3 H3 B3 pd' pu' now' dn' un' s3' L3 ta3 y2 y3 hr
    rcases hr with ⟨h1, rfl, rfl, rfl⟩ | ⟨d, h1, rfl, rfl, rfl⟩
    · rcases hl with ⟨_, hl⟩ | ⟨d, h2, _⟩
      · exact last (s2.trans s3') L3 ta3 y2 y3 hl
      · have h1' : dn' = [] := h1
        rw [h1'] at h2; cases h2
    · rcases hl with ⟨h2, _⟩ | ⟨d', h2, hl⟩
      · have h1' : dn.getLast? = some now' := h1
        rw [h2] at h1'; cases h1'
      · have h1' : dn.getLast? = some now' := h1
        rw [h2] at h1'
        cases h1'
        exact last (s2.trans s3') L3 ta3 y2 y3 hl
  · rw [if_neg (by decide)]
    refine .inr ⟨A, B, F2, p, pd, pu, t, t', now, dn, un, k, at_, r, res, Lw, ta2, z1, z2, z3, hR, hTe, hx, he, hc, hlen, ?_⟩
    intro F3 σ3 H3 B3 pd' pu' now' dn' un' s3' L3 ta3 y2 y3 hr
    rcases hr with ⟨h1, rfl, rfl, rfl⟩ | ⟨d, h1, rfl, rfl, rfl⟩
    · rcases hl with ⟨_, hl⟩ | ⟨d, h2, _⟩
      · exact last (s2.trans s3') L3 ta3 y2 y3 hl
      · have h1' : un' = [] := h1
        rw [h1'] at h2; cases h2
    · rcases hl with ⟨h2, _⟩ | ⟨d', h2, hl⟩
      · have h1' : un.getLast? = some now' := h1
        rw [h2] at h1'; cases h1'
      · have h1' : un.getLast? = some now' := h1
        rw [h2] at h1'
        cases h1'
        exact last (s2.trans s3') L3 ta3 y2 y3 hl
end
end LS

set_option Elab.async false
set_option linter.all false
set_option maxRecDepth 100000
set_option maxHeartbeats 2000000
/-! K64t: the law's body. -/
namespace LS
open PySem PySem.Spec PyProof.Rows L2
section
variable {K : PySem.W.Frag} {mg : Str → Option Value} {A B B' F H F' H' : Hp} {ρ : En} {σ : L2.St}
/-- more stands behind, while no slot owns or reads -/
theorem Rel.grow (R : Rel K mg nox (A, B) F ρ σ H) (f : Same F F') (s : Same F' H') (n : ∀ a o, F' a = some o → F a = some o ∨ B a = none ∨ ∃ xs, o = .tup xs) (b : Same B' H') (d : ∀ a, B' a ≠ none → B a ≠ none ∨ F' a = none)
    (no : ∀ i, look ρ i = .un ∨ ∃ d, look ρ i = .fz d) : Rel K mg nox (A, B') F' ρ σ H' := by
  refine ⟨⟨R.base.f.trans f, b, s, fun a o e => ?_⟩, R.len, fun i => ?_, fun i j e1 e2 q hij h1 h2 => ?_⟩
  · have e' : F' a ≠ none := by rw [e]; exact fun z => nomatch z
    have bn : B a = none → B' a = none := fun hb => by
      cases z : B' a with
      | none => rfl
      | some o =>
        rcases d a (by rw [z]; exact fun h => nomatch h) with q | q
        · exact absurd hb q
        · exact absurd q e'
    rcases n a o e with q | q | q
    · rcases R.base.n a o q with w | w | w
      · exact .inl w
      · exact .inr (.inl (bn w))
      · exact .inr (.inr w)
    · exact .inr (.inl (bn q))
    · exact .inr (.inr q)
  · have z := R.slot i
    rcases no i with q | ⟨d, q⟩
    · rw [q]; trivial
    · rw [q] at z ⊢
      obtain ⟨v, h1, h2⟩ := z
      exact ⟨v, h1, h2.mono f⟩
  · rcases no i with q | ⟨d, q⟩
    · rw [q] at h1; cases h1
    · rw [q] at h1; cases h1
end
def ShCall (N : List Str) (sc : Scope) (gc : GC) (e1 e3 e4 : E) (st : Expr) : Prop := ∃ (a1 a3 a4 : Expr) (p1 p2 p3 : Pos), st = .Call (.Name "_law_told" p1) [a1, .Name "_law_trip" p2, a3, a4] [] p3 ∧ (ckE N e1 gc sc a1 && ckE N e3 gc sc a3 && ckE N e4 gc sc a4 && notSt a1 && notSt a3 && notSt a4) = true
theorem r_call {X : Cx} {W : WX} {G : Fns} {gc : GC} {R : Int → Addr → Tr → D → D → Rr → Tr → Prop} {Te : Addr → Int → Tr → D → D → Rr → D → Prop} {e1 e3 e4 : E} {a : Expr} (C : Ctx gc G X nox W) (F : FTold X R Te) (s : SlotIs X 3 "_law_trip") (hg : glB X.env.scope "_law_told" = true) (sh : ShCall X.N X.env.scope gc e1 e3 e4 a) : PE X a (tTold X W G R Te 3 e1 e3 e4) ∧ notSt a = true := by
  obtain ⟨a1, a3, a4, p1, p2, p3, rfl, ck⟩ := sh
  simp only [Bool.and_eq_true] at ck
  obtain ⟨⟨⟨⟨⟨k1, k2⟩, k3⟩, k5⟩, k6⟩, k7⟩ := ck
  exact ⟨r_told C F s hg k1 k2 k3 k5 k6 k7, rfl⟩
abbrev cI (n : Int) : E := .cst (.int n)
def ShLaw (N : List Str) (sc : Scope) (gc : GC) (body : List Stmt) : Prop := ∃ (n3 n4 n5 n6 ea eb en tgE itE c1 c2 c3 : Expr) (lb tail last : List Stmt) (k1 k2 : Nat) (p1 p2 p3 p4 p5 p6 p7 p8 q1 q2 q3 q4 q5 q6 q7 q8 : Pos),
  body.drop 2 = .Assign [.Tuple [n3, n4, n5, n6] k1 p1] (.Tuple [.Call (.Name "Trip" p2) [ea, eb] [] p3, en, .List [] p4, .List [] p5] k2 p6) p7 :: .For tgE itE lb [] p8 :: tail ∧
  tail.drop 1 = .Assign [.Name "_law_told_here" q1] (.List [c1, c2] q2) q3 :: .Assign [.Name "_law_told_here" q4] (.BinOp (.Name "_law_told_here" q5) .Add (.List [c3] q6) q7) q8 :: last ∧
  ckSs N law_0 gc sc (body.take 2) = true ∧ ckSs N law_1 gc sc (tail.take 1) = true ∧ ckSs N law_2 gc sc last = true ∧ ShLb N sc gc lb ∧ ShCall N sc gc (cI 1) tl_1 (cI 0) c1 ∧ ShCall N sc gc (cI 4) tl_2 tl_3 c2 ∧ ShCall N sc gc (cI 4) (.var 1) (.var 16) c3 ∧
  (asgsB gc N sc [3, 4, 5, 6] [n3, n4, n5, n6] && ckE N (.var 1) gc sc ea && ckE N (.var 2) gc sc eb && ckE N law_now gc sc en && notSt ea && notSt eb && notSt en && decide (swP sc [n3, n4, n5, n6] [.Call (.Name "Trip" p2) [ea, eb] [] p3, en, .List [] p4, .List [] p5] = some none) && kindF sc &&
    ckG gc N sc (.one 7) tgE && ckI N law_it gc sc tgE itE && notSetE itE && asgB gc N sc 17 (.Name "_law_told_here" q1) && asgB gc N sc 17 (.Name "_law_told_here" q4) && !gc.hot) = true
section
variable {X : Cx} {W : WX} {G : Fns} {gc : GC}
def e0 (ns : List Int) : En := [.fz (.scr ns), .un, .un, .un, .un, .un, .un, .un, .un, .un, .un, .un, .un, .un, .un, .un, .un, .un]
def e1 (ns : List Int) (nd rd : D) : En := [.fz (.scr ns), .fz nd, .fz rd, .un, .un, .un, .un, .un, .un, .un, .un, .un, .un, .un, .un, .un, .un, .un]
def e2 (ns : List Int) (nd rd : D) (p : Addr) (o now : D) : En := [.fz (.scr ns), .fz nd, .fz rd, .bg (some p) o, .fz now, .ow (.lst []), .ow (.lst []), .un, .un, .un, .un, .un, .un, .un, .un, .un, .un, .un]
def EndOk (G : Fns) (f : Fr) (p : Addr) (t : Tr) (now : D) (dn un : List D) : Prop := ∃ bad bn r1 res1 r2 res2 r3 res3, evSs G law_1 (eH f.ns f.nd p t.ob now dn un) = some (.nx ((eH f.ns f.nd p t.ob now dn un).set 16 (.fz bad))) ∧ evE G tl_2 ((eH f.ns f.nd p t.ob now dn un).set 16 (.fz bad)) = some (.v .cl bn) ∧
  f.R 1 p t bad (.int 0) r1 t ∧ f.Te p 1 t bad (.int 0) r1 res1 ∧ f.R 4 p t bn bad r2 t ∧ f.Te p 4 t bn bad r2 res2 ∧ f.R 4 p t f.nd bad r3 t ∧ f.Te p 4 t f.nd bad r3 res3 ∧
  evSs G law_2 (((eH f.ns f.nd p t.ob now dn un).set 16 (.fz bad)).set 17 (.ow (.lst [res1, res2, res3]))) = some (.rt (.bl true))
structure LawOk (G : Fns) (f : Fr) (ini : Addr → D → D → Option (Sum Str Tr)) : Prop where
  ex : ∃ (rd now : D) (t0 : Tr) (n : Int) (Good : Nat → Tr → D → List D → List D → Prop), evSs G law_0 (e0 f.ns) = some (.nx (e1 f.ns f.nd rd)) ∧ (∀ p, ini p f.nd rd = some (.inr t0)) ∧ (∃ m, m ≠ .raw ∧ evE G law_now (e1 f.ns f.nd rd) = some (.v m now)) ∧ (∀ p o, evI G law_it (e2 f.ns f.nd rd p o now) = some (rangeD 0 n)) ∧
    Good 0 t0 now [] [] ∧ (∀ i p t now dn un, i < n.toNat → Good i t now dn un → StepOk G f i p t now dn un (Good (i + 1))) ∧ ∀ p t now dn un, Good n.toNat t now dn un → EndOk G f p t now dn un
theorem e1_no {ns : List Int} {nd rd : D} : ∀ i, look (e1 ns nd rd) i = .un ∨ ∃ d, look (e1 ns nd rd) i = .fz d := fun i => by
  match i with
  | 0 => exact .inr ⟨_, rfl⟩
  | 1 => exact .inr ⟨_, rfl⟩
  | 2 => exact .inr ⟨_, rfl⟩
  | 3 | 4 | 5 | 6 | 7 | 8 | 9 | 10 | 11 | 12 | 13 | 14 | 15 | 16 | 17 => exact .inl rfl
  | _ + 18 => exact .inl rfl
theorem law_rel {f : Fr} {body : List Stmt} {ini : Addr → D → D → Option (Sum Str Tr)} (C : Ctx gc G X nox W) (FT : FTold X f.R f.Te) (FI : MMk X (spI X.K X.mg ini)) (s3 : SlotIs X 3 "_law_trip") (s5 : SlotIs X 5 "_law_done") (s6 : SlotIs X 6 "_law_undone") (s14 : SlotIs X 14 "_law_used") (s15 : SlotIs X 15 "_law_kept") (s17 : SlotIs X 17 "_law_told_here")
    (hg : glB X.env.scope "_law_told" = true) (hgT : glB X.env.scope "Trip" = true) (sh : ShLaw X.N X.env.scope gc body) (tc : TCls X.K X.mg) (hN : X.N.length = 18) :
    ∃ T, PSs X body T ∧ ∀ a H (Q : VK), SqL X.K H a (f.ns.map V.int) → (∀ H', Q (.bl true) H') → LawOk G f ini → T { nx := fun _ H' => Q .non H', rt := Q } (L2.start X.N [.ref a]) H := by
  obtain ⟨n3, n4, n5, n6, ea, eb, en, tgE, itE, c1, c2, c3, lb, tail, last, k1, k2, p1, p2, p3, p4, p5, p6, p7, p8, q1, q2, q3, q4, q5, q6, q7, q8, hd, htl, ck0, ck1, ck2, shL, sc1, sc2, sc3, ck⟩ := sh
  simp only [Bool.and_eq_true, Bool.not_eq_true', decide_eq_true_eq] at ck
  obtain ⟨⟨⟨⟨⟨⟨⟨⟨⟨⟨⟨⟨⟨⟨g1, b1⟩, b2⟩, b3⟩, m1⟩, m2⟩, m3⟩, hsw⟩, hk⟩, ckg⟩, cki⟩, hns⟩, a1⟩, a2⟩, hh⟩ := ck
  have hkf := kindF_ok hk
  obtain ⟨h1, h2, h3⟩ := g_names C g1
  obtain ⟨Ct, hCt⟩ := tc.ex
  obtain ⟨j5, f5, d5, ps5, hr5, hm5, hb5, F5⟩ := FI
  obtain ⟨u1, u2⟩ := asg_nm a1
  obtain ⟨w1, w2⟩ := asg_nm a2
  obtain ⟨r1, t1⟩ := r_call C FT s3 hg sc1
  obtain ⟨r2, t2⟩ := r_call C FT s3 hg sc2
  obtain ⟨r3, t3⟩ := r_call C FT s3 hg sc3
  have hA := pss_cons (ps_set (pos := q3) (pos' := q1) C.nd u1 (by rcases u2 with q | ⟨q, _⟩; exact .inl q; exact .inr q) (pe_lst (pos := q2) (pa_cons r1 (pa_cons r2 pa_nil (star_cons t2)) (star_cons t1))) (sw_none rfl) (by rcases u2 with q | ⟨_, q⟩; exact .inr q; exact .inl (C.fnl _ q)))
    (pss_cons (ps_set (pos := q8) (pos' := q4) C.nd w1 (by rcases w2 with q | ⟨q, _⟩; exact .inl q; exact .inr q) (pe_op (pos := q7) (bop_ok (xc := nox) .add) (s17.pe (p := q5)) (pe_lst (pos := q6) (pa_cons r3 pa_nil (star_cons t3)))) (sw_none rfl) (by rcases w2 with q | ⟨_, q⟩; exact .inr q; exact .inl (C.fnl _ q))) (sSs law_2 C ck2))
  have e5 : boOp .add = Operator.Add := rfl
  rw [e5] at hA
  rw [← htl] at hA
  have hT := run_take 1 C ck1 hA
  have hB := pss_cons (ps_asg (pos := p7) (pe_tup (x1 := k2) (pos := p6) (pa_cons (m_make (p := p2) (pos := p3) (hm5 _ hCt) F5 hr5 hgT hCt hb5 C.tk (pa_cons (sE _ C b1).pe (pa_cons (sE _ C b2).pe pa_nil (star_cons m2)) (star_cons m1)) (by rw [List.all_cons, List.all_cons, m1, m2]; rfl))
      (pa_cons (sE _ C b3).pe (pa_cons (pe_lst (pos := p4) pa_nil) (pa_cons (pe_lst (pos := p5) pa_nil) pa_nil (star_cons rfl)) (star_cons rfl)) (star_cons m3)) (star_cons rfl))) (pg_tup (k := k1) (pos := p1) (C.calm hh) h1 h2 h3) sole_tup (swP_ok hkf hsw) rfl)
    (pss_cons (t_for (pos := p8) C (C.calm hh) (sI law_it C cki) (g_tg C (C.calm hh) ckg) (lb_rel (f := f) C FT s3 s5 s6 s14 s15 hg shL tc) hns) hT)
  rw [← hd] at hB
  refine ⟨_, run_take 2 C ck0 hB, fun a H Q hS hQ hlaw => ?_⟩
  obtain ⟨rd, now, t0, n, Good, ev0, hini, ⟨m, hm, evn⟩, evit, g0, gs, ge⟩ := hlaw.ex
  have R0 : Rel X.K X.mg nox (H, H) H (e0 f.ns) (L2.start X.N [.ref a]) H := entry_rel (d := ⟨1, 18, .nil⟩) (ds := [.scr f.ns]) (Same.refl _) (.cons (.scr hS) .nil) rfl hN.symm (by show 1 ≤ _; omega)
  refine ⟨(H, H), H, _, _, R0, ev0, fun F1 σ1 H1 s1 L1 => ?_⟩
  unfold tSeq tAsg
  refine ⟨(H, H), F1, _, .v .cl f.nd, L1, rfl, fun v1 F2 H2 x2 ok1 => ?_⟩
  refine ⟨(H, H), F2, _, .v .cl rd, L1.ext x2, rfl, fun v2 F3 H3 x3 ok2 => ?_⟩
  intro o dx ho hdx ne
  have L3 := (L1.ext x2).ext x3
  have o1 : L2.upd H3 dx (.own o) o = none := by rw [upd_ne ne.symm]; exact ho
  have xn : Ext F3 H3 F3 (L2.upd (L2.upd H3 dx (.own o)) o (.ins Ct dx [])) := (Ext.newH x3.s hdx).trans (Ext.newH (x3.s.trans (same_upd hdx)) o1)
  refine ⟨F3, o, Ct, dx, v1, v2, f.nd, rd, .inr t0, rfl, xn.s, hCt, upd_same, x3.s.free ho, Rep.mono x3.f ok1, ok2, hini o, ?_⟩
  intro F' H' pd pu cg ta npd npu
  refine ⟨rfl, ?_⟩
  obtain ⟨y1, y2, y3, fo, fd, fu⟩ := ta.some
  have old : ∀ x, L2.upd (L2.upd H3 dx (.own o)) o (.ins Ct dx []) x = none → H x = none := fun x h => L3.base.h.free (xn.h.free h)
  have zo : H o = none := L3.base.h.free ho
  have zd := old pd npd
  have zu := old pu npu
  have L' : Rel X.K X.mg nox (H, fun x => if x = o ∨ x = pd ∨ x = pu then H' x else H x) F' (e1 f.ns f.nd rd) σ1 H' := by
    refine L3.grow cg.f cg.s (fun x u e => ?_) (fun x u e => ?_) (fun x e => ?_) e1_no
    · rcases cg.n x u e with q | q | q
      · exact .inl q
      · exact .inr (.inl (old x q))
      · exact .inr (.inr q)
    · have e' : (if x = o ∨ x = pd ∨ x = pu then H' x else H x) = some u := e
      split at e'
      · exact e'
      · rename_i hn
        exact cg.h x u (fun z => hn (.inl z)) (xn.h _ _ (L3.base.h _ _ e'))
    · have e' : (if x = o ∨ x = pd ∨ x = pu then H' x else H x) ≠ none := e
      split at e'
      · rename_i hx
        rcases hx with rfl | rfl | rfl
        · exact .inr fo
        · exact .inr fd
        · exact .inr fu
      · exact .inl e'
  have tb : TAt X.K X.mg F' (fun x => if x = o ∨ x = pd ∨ x = pu then H' x else H x) o pd pu t0 := ta.cells (if_pos (.inl rfl)) (if_pos (.inr (.inl rfl))) (if_pos (.inr (.inr rfl)))
  generalize hB' : (fun x => if x = o ∨ x = pd ∨ x = pu then H' x else H x) = B' at *
  have evc : cleanE (evE G law_now (e1 f.ns f.nd rd)) = some now := by
    rw [evn]
    cases m with
    | raw => exact absurd rfl hm
    | cl => rfl
    | fr => rfl
  refine rdK L' evc fun v F4 H4 x4 rv => ?_
  have L4 := L'.ext x4
  have tb4 := tb.later x4.f L4.base zo zd zu
  refine ⟨by show 0 ≤ sizeLine; omega, fun g5 hg5 => ?_⟩
  refine ⟨by show 0 ≤ sizeLine; omega, fun g6 hg6 => ?_⟩
  refine ⟨by show 4 ≤ sizeLine; rw [sizeLine_eq]; omega, fun gt hgt => ?_⟩
  refine ⟨gt, [.ref o, v, .ref g5, .ref g6], rfl, .of upd_same, rfl, rfl, ?_⟩
  have d56 : g5 ≠ g6 := fun z => by subst z; rw [upd_same] at hg6; cases hg6
  have d5t : g5 ≠ gt := fun z => by subst z; rw [upd_ne d56, upd_same] at hgt; cases hgt
  have d6t : g6 ≠ gt := fun z => by subst z; rw [upd_same] at hgt; cases hgt
  have hg6' : H4 g6 = none := by rw [upd_ne d56.symm] at hg6; exact hg6
  have xa : Ext F4 H4 F4 (L2.upd H4 g5 (.lst [])) := Ext.newH x4.s hg5
  have xb := xa.trans (Ext.newH (o := .lst []) xa.s hg6)
  have xc := xb.trans (Ext.newH (o := .tup [.ref o, v, .ref g5, .ref g6]) xb.s hgt)
  have Lc := L4.ext xc
  have fo4 := (tb4.some).2.2.2.1
  have M1 := (Lc.setbg (i := 3) fo4 (tb4.own tc)).set_fz (i := 4) (v := v) rv
  have no1 : ∀ (ρ : En) (σ' : L2.St) (Hs : Hp), (∀ j d, look ρ j ≠ .ow d) → OwnIn Hs ρ σ' := fun ρ σ' Hs h j d q h1 => absurd h1 (h j d)
  have M2 := M1.setS (Hs := H4) (i := 5) (v := .ref g5) (s := .ow (.lst [])) ⟨g5, rfl, x4.s.free hg5, hg5, [], by rw [upd_ne d5t, upd_ne d56, upd_same], .nil⟩ (no1 _ _ _ fun j d => by
    match j with
    | 0 | 1 | 2 | 3 | 4 | 5 | 6 | 7 | 8 | 9 | 10 | 11 | 12 | 13 | 14 | 15 | 16 | 17 => exact fun z => nomatch z
    | _ + 18 => exact fun z => nomatch z) L4.base.h
  have M3 := M2.setS (Hs := L2.upd H4 g5 (.lst [])) (i := 6) (v := .ref g6) (s := .ow (.lst [])) ⟨g6, rfl, x4.s.free hg6', hg6, [], by rw [upd_ne d6t, upd_same], .nil⟩ (fun j d q h1 h2 => by
    match j, h1, h2 with
    | 5, h1, h2 =>
      by_cases lt : 5 < ((σ1.set 3 (some (.ref o))).set 4 (some v)).length
      · rw [List.getElem?_set_self lt] at h2
        cases h2
        rw [upd_same]
        exact fun z => nomatch z
      · rw [List.getElem?_eq_none (by simp at lt ⊢; omega)] at h2
        cases h2
    | 7, h1, _ => cases h1
    | 8, h1, _ => cases h1
    | 9, h1, _ => cases h1
    | 10, h1, _ => cases h1
    | 11, h1, _ => cases h1
    | 12, h1, _ => cases h1
    | 13, h1, _ => cases h1
    | 14, h1, _ => cases h1
    | 15, h1, _ => cases h1
    | 16, h1, _ => cases h1
    | 17, h1, _ => cases h1
    | _ + 18, h1, _ => cases h1) (L4.base.h.trans (same_upd hg5))
  have M : Rel X.K X.mg nox (H, B') F4 (e2 f.ns f.nd rd o t0.ob now) _ _ := M3
  refine ⟨(H, B'), F4, _, rangeD 0 n, M, evit o _, fun i F σ2 H2 => ∃ B p pd pu t now dn un, Rel X.K X.mg nox (H, B) F (eH f.ns f.nd p t.ob now dn un) σ2 H2 ∧ TAt X.K X.mg F B p pd pu t ∧ H p = none ∧ H pd = none ∧ H pu = none ∧ Good i t now dn un, ?_, ?_, ?_, ?_⟩
  · intro F5 H5 x5
    have M5 := M.ext x5
    refine ⟨B', o, pd, pu, t0, now, [], [], M5.weak rfl (fun i => ?_), tb4.later x5.f M5.base zo zd zu, zo, zd, zu, g0⟩
    match i with
    | 2 => exact .inr rfl
    | 0 | 1 | 3 | 4 | 5 | 6 | 7 | 8 | 9 | 10 | 11 | 12 | 13 | 14 | 15 | 16 | 17 => exact .inl rfl
    | _ + 18 => exact .inl rfl
  · rintro i F5 σ5 H5 ⟨B, p, pd, pu, t, now, dn, un, R, _⟩
    exact R.base.s
  · rintro i d F5 σ5 H5 hd ⟨B, p, pd, pu, t, now, dn, un, R, ta5, y1, y2, y3, hgd⟩
    unfold rangeD at hd
    rw [List.getElem?_map] at hd
    cases hi : (List.range (n - 0).toNat)[i]? with
    | none => rw [hi] at hd; cases hd
    | some j =>
      rw [hi] at hd
      obtain ⟨lt, ej⟩ := List.getElem?_eq_some_iff.mp hi
      rw [List.getElem_range] at ej
      subst ej
      rw [List.length_range, Int.sub_zero] at lt
      have hd' : some (D.int (0 + (i : Int))) = some d := hd
      rw [Int.zero_add] at hd'
      cases hd'
      refine ⟨(H, B), _, _, R, rfl, fun F6 H6 σ6 De x6 R6 hnx hrt => ?_⟩
      refine ⟨H, B, F6, p, pd, pu, t, now, dn, un, (i : Int), Good (i + 1), R6, ta5.later x6.f R6.base y1 y2 y3, y1, y2, y3, gs i p t now dn un lt hgd, ?_⟩
      intro F7 σ7 H7 B7 pd' pu' t' now' dn' un' s7 R7 ta7 y4 y5 hP
      exact hnx F7 σ7 H7 (x6.f.trans s7) ⟨B7, p, pd', pu', t', now', dn', un', R7, ta7, y1, y4, y5, hP⟩
  · rintro F5 σ5 H5 ⟨B, p, pd, pu, t, now, dn, un, R, ta5, y1, y2, y3, hgd⟩
    have hlen : (rangeD 0 n).length = n.toNat := by unfold rangeD; rw [List.length_map, List.length_range, Int.sub_zero]
    rw [hlen] at hgd
    obtain ⟨bad, bn, rr1, res1, rr2, res2, rr3, res3, ev1, evb, k1, l1, k2, l2, k3, l3, ev2⟩ := ge p t now dn un hgd
    refine ⟨(H, B), F5, _, _, R, ev1, fun F6 σ6 H6 s6' L6 => ?_⟩
    have ta6 := ta5.later s6' L6.base y1 y2 y3
    have rep : ∀ (s16 s17 : SV), (∀ w d, s16 ≠ .bg w d) → (∀ w d, s17 ≠ .bg w d) → (((eH f.ns f.nd p t.ob now dn un).set 16 s16).set 17 s17).map (repS p t.ob) = ((eH f.ns f.nd p t.ob now dn un).set 16 s16).set 17 s17 := fun s16 s17 h6 h7 => by
      have e6 : repS p t.ob s16 = s16 := by cases s16 <;> first | rfl | exact absurd rfl (h6 _ _)
      have e7 : repS p t.ob s17 = s17 := by cases s17 <;> first | rfl | exact absurd rfl (h7 _ _)
      have e3 : repS p t.ob (.bg (some p) t.ob) = .bg (some p) t.ob := if_pos rfl
      have f1 : ∀ d, repS p t.ob (.fz d) = .fz d := fun _ => rfl
      have f2 : ∀ d, repS p t.ob (.ow d) = .ow d := fun _ => rfl
      have f3 : repS p t.ob .un = .un := rfl
      simp only [eL, List.set_cons_succ, List.set_cons_zero, List.map_cons, List.map_nil, e3, e6, e7, f1, f2, f3]
    have rep1 : ((eH f.ns f.nd p t.ob now dn un).set 16 (.fz bad)).map (repS p t.ob) = (eH f.ns f.nd p t.ob now dn un).set 16 (.fz bad) := rep (.fz bad) .un (fun _ _ z => nomatch z) (fun _ _ z => nomatch z)
    have bgs : ∀ (s17 : SV), (∀ w d, s17 ≠ .bg w d) → ∀ i q d, look (((eH f.ns f.nd p t.ob now dn un).set 16 (.fz bad)).set 17 s17) i = .bg (some q) d → q ≠ p → q ≠ pd ∧ q ≠ pu := fun s17 h7 i q d h hne => by
      match i, h with
      | 3, h => cases h; exact absurd rfl hne
      | 7, h => cases h
      | 8, h => cases h
      | 9, h => cases h
      | 10, h => cases h
      | 11, h => cases h
      | 12, h => cases h
      | 13, h => cases h
      | 14, h => cases h
      | 15, h => cases h
      | 16, h => cases h
      | 17, h => exact absurd h (h7 _ _)
      | _ + 18, h => cases h
    refine told_use (r := rr1) (t' := t) (way := 1) (d1 := bad) (d2 := .int 0) (res := res1) tc L6 ta6 y1 y2 y3 rfl (bgs .un (fun _ _ z => nomatch z)) rfl rfl rfl k1 l1 (fun _ _ => rfl) fun v1 F7 H7 B7 pd7 pu7 L7 ta7 z2 z3 s7 rv1 _ o7 o7' => ?_
    rw [rep1] at L7
    have bgs7 : ∀ (s17 : SV), (∀ w d, s17 ≠ .bg w d) → ∀ (pa pb : Addr) i q d, look (((eH f.ns f.nd p t.ob now dn un).set 16 (.fz bad)).set 17 s17) i = .bg (some q) d → q ≠ p → q ≠ pa ∧ q ≠ pb := fun s17 h7 pa pb i q d h hne => by
      match i, h with
      | 3, h => cases h; exact absurd rfl hne
      | 7, h => cases h
      | 8, h => cases h
      | 9, h => cases h
      | 10, h => cases h
      | 11, h => cases h
      | 12, h => cases h
      | 13, h => cases h
      | 14, h => cases h
      | 15, h => cases h
      | 16, h => cases h
      | 17, h => exact absurd h (h7 _ _)
      | _ + 18, h => cases h
    refine told_use (r := rr2) (t' := t) (way := 4) (d1 := bn) (d2 := bad) (res := res2) tc L7 ta7 y1 z2 z3 rfl (bgs7 .un (fun _ _ z => nomatch z) _ _) rfl evb rfl k2 l2 (fun _ _ => rfl) fun v2 F8 H8 B8 pd8 pu8 L8 ta8 z4 z5 s8 rv2 _ o8 o8' => ?_
    rw [rep1] at L8
    refine ⟨by show 2 ≤ sizeLine; rw [sizeLine_eq]; omega, fun ql hql => ?_⟩
    have xl : Ext F8 H8 F8 (L2.upd H8 ql (.lst [v1, v2])) := Ext.newH L8.base.s hql
    have L9 := (L8.ext xl).setS (Hs := H8) (i := 17) (v := .ref ql) (s := .ow (.lst [res1, res2])) ⟨ql, rfl, L8.base.s.free hql, hql, [v1, v2], upd_same, .cons (rv1.mono s8) (.cons rv2 .nil)⟩ L8.ownIn L8.base.h
    obtain ⟨q9, e9, _, _, _⟩ := L9.own (i := 17) (d := .lst [res1, res2]) rfl
    refine ⟨.ref q9, e9, ?_⟩
    refine told_use (r := rr3) (t' := t) (way := 4) (d1 := f.nd) (d2 := bad) (res := res3) tc L9 ta8 y1 z4 z5 rfl (bgs7 (.ow (.lst [res1, res2])) (fun _ _ z => nomatch z) _ _) rfl rfl rfl k3 l3 (fun _ _ => rfl) fun v3 F10 H10 B10 pd10 pu10 L10 ta10 z6 z7 s10 rv3 _ _ _ => ?_
    rw [rep (.fz bad) (.ow (.lst [res1, res2])) (fun _ _ z => nomatch z) (fun _ _ z => nomatch z)] at L10
    refine ⟨by show 1 ≤ sizeLine; rw [sizeLine_eq]; omega, fun qm hqm => ?_⟩
    have xm : Ext F10 H10 F10 (L2.upd H10 qm (.lst [v3])) := Ext.newH L10.base.s hqm
    have L11 := L10.ext xm
    obtain ⟨q11, e11, _, _, ow11⟩ := L11.own (i := 17) (d := .lst [res1, res2]) rfl
    rw [e9] at e11
    cases e11
    refine ⟨F10, .lst [res1, res2], .lst [res3], .fr, .lst [res1, res2, res3], xm.s, .inr ⟨q9, rfl, ow11⟩, .inr ⟨qm, rfl, [v3], upd_same, .cons rv3 .nil⟩, rfl, ?_⟩
    intro w F12 H12 x12 ok
    have L12 := (L11.ext x12).setS (i := 17) (v := w) (s := .ow (.lst [res1, res2, res3])) ok L11.ownIn L11.base.h
    refine ⟨(H, B10), F12, _, _, L12, ev2, fun u F13 H13 x13 rep' => ?_⟩
    cases rep'
    exact hQ H13
end
end LS

set_option Elab.async false
set_option linter.all false
set_option maxRecDepth 100000
set_option maxHeartbeats 400000
namespace LS
open PySem PySem.Spec PyProof.Rows L2
@[simp] theorem sp_is_int (v lo hi : Int) : e_is_int [.int v, .int lo, .int hi] = some (.ret (.bl (decide (lo ≤ v) && decide (v ≤ hi)))) := by
  by_cases h : lo ≤ v <;> simp [e_is_int, runDef, d_is_int, h]
theorem sp_are_signs (g : List Int) (h : g.length ≤ 3) : e_are_signs [.tup (g.map .int)] = some (.ret (.bl (g.all fun x => decide (0 ≤ x) && decide (x ≤ 13)))) := by
  have h3 : ¬ (3 : Int) < g.length := by omega
  have hL : g.length ≤ 16777216 := by omega
  simp only [e_are_signs, runDef, d_are_signs, ev_cons, ev_sif, ev_or, evo_cons, evo_one, ev_not, ev_isi, ev_var, ev_ret, ev_b1, ev_lc]
  simp [hL, h3]
  rw [turns_mapF (g := fun x => .bl (decide (0 ≤ x) && decide (x ≤ 13)))]
  · simp [hL]
  · intro x _
    simp
theorem sp_is_road (r : Road) (h : r.Ok) : e_is_road [r.d] = some (.ret (.bl true)) := by
  have h1 := sp_are_signs r.g h.l
  have h2 : (r.g.all fun x => decide (0 ≤ x) && decide (x ≤ 13)) = true := by
    simp only [List.all_eq_true, Bool.and_eq_true, decide_eq_true_eq]
    exact h.g
  rw [h2] at h1
  simp [e_is_road, runDef, d_is_road, Road.d, h1, h.s, h.e, h.t]
theorem sp_is_net (n : Net) (h : n.Ok) : e_is_net [n.d] = some (.ret (.bl true)) := by
  have hL : n.roads.length ≤ 16777216 := by have := h.l8; omega
  have h1 : (1 : Int) ≤ n.roads.length := by have := h.l1; omega
  have h8 : (n.roads.length : Int) ≤ 8 := by have := h.l8; omega
  simp [e_is_net, runDef, d_is_net, Net.d, h.fast, h.slow, h.keeps, hL, h1, h8]
  rw [turns_mapF (g := fun _ => .bl true)]
  · simp [hL, boolsD_map]
  · intro r hr
    simp [sp_is_road r (h.roads r hr)]
theorem sp_check_net (n : Net) (h : n.Ok) : e_check_net [n.d] = some (.ret .non) := by
  simp [e_check_net, runDef, d_check_net, sp_is_net n h]
theorem sp_check_road (n : Net) (h : n.Ok) (r : Int) (h1 : 0 ≤ r) (h2 : r < n.roads.length) : e_check_road [n.d, .int r] = some (.ret .non) := by
  have hL : n.roads.length ≤ 16777216 := by have := h.l8; omega
  have h3 : r ≤ n.roads.length - 1 := by omega
  simp [e_check_road, runDef, d_check_road, sp_check_net n h, Net.d_ix3, hL, h1, h3]
theorem sp_find_standing (n : Net) (r : Int) (h1 : 0 ≤ r) (h2 : r < n.roads.length) : e_find_standing [n.d, .int r] = some (.ret (.int (if (n.road r).t = 1 then n.slow else n.fast))) := by
  have e0 : ixD n.d (.int 0) = some (.int n.fast) := rfl
  have e1 : ixD n.d (.int 1) = some (.int n.slow) := rfl
  by_cases c : (n.road r).t = 1 <;> simp [e_find_standing, runDef, d_find_standing, Net.d_ix3, Net.ix h1 h2, Road.d, c, e0, e1]
theorem sp_find_followers (n : Net) (h : n.Ok) (r : Int) (h1 : 0 ≤ r) (h2 : r < n.roads.length) : e_find_followers [n.d, .int r] = some (.ret (.lst ((follow n r).map .int))) := by
  have hl := follow_len n r
  have h8 := h.l8
  simp [e_find_followers, runDef, d_find_followers, Net.d_ix3, enum_roads]
  rw [turns_filter (p := fun (k : Nat) => decide ((n.road k).s = (n.road r).e)) (g := fun (k : Nat) => .int k)]
  · have e : (follow n r).map D.int = ((List.range n.roads.length).filter fun (k : Nat) => decide ((n.road k).s = (n.road r).e)).map fun (k : Nat) => .int k := by
      unfold follow; rw [List.map_map]; rfl
    rw [← e]
    have hL : (follow n r).length ≤ 16777216 := by omega
    simp [hL]
  · intro k hk
    have hk' : k < n.roads.length := by simpa using hk
    by_cases c : (n.road k).s = (n.road r).e <;> simp [Net.ix h1 h2, Net.d_ix3, Road.d, c]
def cnt (ρ : En) : Nat := match look ρ 5 with
  | .fz (.int a) => a.toNat
  | _ => 0
theorem scr_at (ns : List Int) (k : Int) (hk : 0 ≤ k) (hn : ns ≠ []) : ∃ c, ixAt ns (k % ns.length) = some c := by
  have hl : 0 < ns.length := List.length_pos_iff.mpr hn
  have h1 : 0 ≤ k % ns.length := Int.emod_nonneg _ (by omega)
  have h2 : k % ns.length < ns.length := Int.emod_lt_of_pos _ (by omega)
  rw [ixAt_pos h1]
  exact ⟨_, List.getElem?_eq_getElem (show (k % ns.length).toNat < ns.length by omega)⟩
def WayN (n : Net) (m : Nat) (w : List Int) : Prop := isWay n w = true ∧ w.length = m
theorem sp_pieces (n : Net) (h : n.Ok) (r : Int) (h1 : 0 ≤ r) (h2 : r < n.roads.length) (st : Int) : e_pieces [n.d, .int r, .int st] = some (.ret (.lst ((pcs n r st).map .int))) := by
  have hg := (h.roads _ (Net.road_mem h1 h2)).l
  have hL : 1 + (n.road r).g.length ≤ 16777216 := by omega
  have e : (pcs n r st).map D.int = (st :: (n.road r).g).map fun x => .int (shown (rest n r) x) := by unfold pcs; rw [List.map_map]; rfl
  refine run_ret rfl (step (ρ' := [.fz n.d, .fz (.int r), .fz (.int st), .fz (.int (rest n r)), .un]) ?_ (stop ?_))
  · simp [d_pieces, sp_find_standing n r h1 h2, rest]
  · rw [ev_ret, lc_map (as := st :: (n.road r).g) (k := .int) (g := fun x => .int (shown (rest n r) x)), e]
    · simp [Net.d_ix3, Net.ix h1 h2, Road.d, hL]
    · simp; omega
    · intro x _
      by_cases c : 0 < x <;> simp [c, shown]
theorem sp_go_over (n : Net) (st : Int) : e_go_over [n.d, .int st] = some (.ret (.int (goOver n st))) := by
  unfold goOver
  by_cases c : n.keeps = 1 <;> simp [e_go_over, runDef, d_go_over, Net.d_ix2, c]
theorem min_some (xs : List Int) (h : xs ≠ []) : ∃ m, b1D .min (.lst (xs.map .int)) = some (.v .cl (.int m)) := by
  cases xs with
  | nil => exact absurd rfl h
  | cons x xs =>
    refine ⟨minI x xs, ?_⟩
    show (match intsD (xs.map .int) with
      | some ns => cl (.int (minI x ns))
      | none => none) = _
    rw [ints_map]
    rfl
abbrev DE (n : Net) (wy : D) (a6 a7 a8 a9 a10 a11 a12 a13 a14 a15 a16 : SV) : En := [.fz n.d, .fz wy, .fz (.int n.fast), .fz (.int n.slow), .fz (.int n.keeps), .fz (.tup (n.roads.map Road.d)), a6, a7, a8, a9, a10, a11, a12, a13, a14, a15, a16]
theorem mulOk_small {i j : Int} (h1 : -18446744073709551616 < j) (h2 : j < 18446744073709551616) : mulOk i j = true := by
  unfold mulOk
  rw [decide_eq_true h1, decide_eq_true h2]
  simp
def wsD (p : WS) : D := .tup [wd p.1, .int p.2]
theorem plains_wsD : ∀ l : List WS, plains (l.map wsD) = true
  | [] => rfl
  | p :: l => by simp [plains, plain, wsD, wd, plains_ints, plains_wsD l]
def optW : Option (List Int) → D
  | some w => wd w
  | none => .non
theorem poss_ne {n : Net} (h : n.Ok) {r : Int} (r1 : 0 ≤ r) (r2 : r < n.roads.length) : poss n r 0 ≠ [] := List.ne_nil_of_mem (poss_mem h ((mem_sts h).mp (sts_zero h r1 r2)) 0)
theorem headD_of {l : List Int} (h : l ≠ []) : ixAt (l.map D.int) 0 = some (.int (l.headD 0)) := by
  cases l with
  | nil => exact absurd rfl h
  | cons a l => rfl
def ws3D (p : WS3) : D := .tup [wd p.1, .int p.2.1, .int p.2.2]
theorem plains_ws3D : ∀ l : List WS3, plains (l.map ws3D) = true
  | [] => rfl
  | p :: l => by simp [plains, plain, ws3D, wd, plains_ints, plains_ws3D l]
def optP : Option (List Int) → D
  | some w => wd w
  | none => .non
theorem isOP (o : Option (List Int)) : cop .is (optP o) .non = some o.isNone := by cases o <;> rfl
theorem isnOP (o : Option (List Int)) : cop .isn (optP o) .non = some (!o.isNone) := by cases o <;> rfl
theorem wp_runE {G : Fns} {d : Def} {ds : List D} {P : D → Prop} (hl : ds.length = d.np) (h : Wp G d.body (ds.map .fz ++ List.replicate (d.nl - d.np) .un) (fun r => ∃ v, r = .rt v ∧ P v)) : ∃ v, runDef G d ds = some (.ret v) ∧ P v := by
  obtain ⟨r, h1, v, rfl, hv⟩ := h
  exact ⟨v, run_ret hl h1, hv⟩
theorem lc_ex {α β : Type} [Inhabited β] {G : Fns} {ρ : En} {elt : E} {tg : Tg} {it : It} {c : OE} {own : List Nat} {as : List α} {k : α → D} {g : β → D} {P : β → Prop} (hi : evI G it ρ = some (as.map k)) (hl : as.length ≤ 16777216) (h : ∀ a ∈ as, ∃ y, fLc G elt tg c (wipes ρ own) (k a) = some [g y] ∧ P y) :
    ∃ l : List β, evE G (.lc elt tg it c own) ρ = some (.v .fr (.lst (l.map g))) ∧ l.length = as.length ∧ ∀ y ∈ l, P y := by
  have h' : ∀ a, ∃ y, a ∈ as → fLc G elt tg c (wipes ρ own) (k a) = some [g y] ∧ P y := fun a => by
    by_cases q : a ∈ as
    · obtain ⟨y, hy⟩ := h a q
      exact ⟨y, fun _ => hy⟩
    · exact ⟨default, fun z => absurd z q⟩
  obtain ⟨f, hf⟩ := Classical.axiomOfChoice h'
  refine ⟨as.map f, ?_, by simp, fun y hy => ?_⟩
  · rw [lc_map (g := fun a => g (f a)) hi hl fun a ha => (hf a ha).1, List.map_map]
    rfl
  · obtain ⟨a, ha, rfl⟩ := List.mem_map.mp hy
    exact (hf a ha).2
theorem mulOk_sm {i j : Int} (h1 : -18446744073709551616 < j) (h2 : j < 18446744073709551616) : mulOk i j = true := by
  unfold mulOk
  rw [decide_eq_true h1, decide_eq_true h2]
  simp
theorem sc_at (ns : List Int) (k : Int) (hk : 0 ≤ k) (hn : ns ≠ []) : ∃ c, ixAt ns (k % ns.length) = some c := by
  have hl : 0 < ns.length := List.length_pos_iff.mpr hn
  have h1 : 0 ≤ k % ns.length := Int.emod_nonneg _ (by omega)
  have h2 : k % ns.length < ns.length := Int.emod_lt_of_pos _ (by omega)
  rw [ixAt_pos h1]
  exact ⟨_, List.getElem?_eq_getElem (show (k % ns.length).toNat < ns.length by omega)⟩
theorem sp_drawn (ns : List Int) (hs : ns.length ≤ 63) (k many : Int) (hk : 0 ≤ k) (hk2 : k < 50000) (hm : 0 < many) : ∃ v, e__law_drawn [.scr ns, .int k, .int many] = some (.ret (.int v)) ∧ 0 ≤ v ∧ v < many := by
  have hL : ns.length ≤ 16777216 := by omega
  have hm2 : ∀ z : Int, 0 ≤ z % many ∧ z % many < many := fun z => ⟨Int.emod_nonneg _ (by omega), Int.emod_lt_of_pos _ hm⟩
  obtain ⟨Q, hQ⟩ : ∃ Q : So → Prop, Q = fun r => ∃ v, r = .rt v ∧ ∃ i : Int, v = .int i ∧ 0 ≤ i ∧ i < many := ⟨_, rfl⟩
  have hret : ∀ z : Int, Q (.rt (.int (z % many))) := fun z => by rw [hQ]; exact ⟨_, rfl, _, rfl, hm2 z⟩
  -- the end
  have tail : ∀ (ρ : En) (cell : Int), ρ.length = 6 → look ρ 1 = .fz (.int k) → look ρ 2 = .fz (.int many) → look ρ 3 = .fz (.int cell) → Wp H__law_drawn (.cons (sAt d__law_drawn.body 3) (.cons (sAt d__law_drawn.body 4) (.cons (sAt d__law_drawn.body 5) .nil))) ρ Q := fun ρ cell hl l1 l2 l3 => by
    obtain ⟨c1, hc1⟩ : ∃ c1, (cell % 2147483563 * 69069 + 104723 * (k + 1)) % 2147483563 = c1 := ⟨_, rfl⟩
    have a1 : 0 ≤ c1 := by rw [← hc1]; exact Int.emod_nonneg _ (by decide)
    have b1 : c1 < 2147483563 := by rw [← hc1]; exact Int.emod_lt_of_pos _ (by decide)
    have m1 : mulOk c1 c1 = true := mulOk_sm (by omega) (by omega)
    obtain ⟨c2, hc2⟩ : ∃ c2, (c1 * c1 + c1 / 3) % 2147483399 = c2 := ⟨_, rfl⟩
    have a2 : 0 ≤ c2 := by rw [← hc2]; exact Int.emod_nonneg _ (by decide)
    have b2 : c2 < 2147483399 := by rw [← hc2]; exact Int.emod_lt_of_pos _ (by decide)
    have m2 : mulOk c2 c2 = true := mulOk_sm (by omega) (by omega)
    refine w_cl (d := .int c1) (by simp [l1, l3, mulOk, hc1]) (w_cl (d := .int c2) (by simp [look_set, hl, m1, hc2]) (w_ret (m := .cl) ?_ (by decide) (hret ((c2 * c2 + c2 / 7) % 2147483647 / 11))))
    simp [look_set, hl, l2, m2, hm]
  obtain ⟨v, h1, i, rfl, h2⟩ := wp_runE (G := H__law_drawn) (d := d__law_drawn) (ds := [.scr ns, .int k, .int many]) (P := fun v => ∃ i : Int, v = .int i ∧ 0 ≤ i ∧ i < many) rfl (by
    rw [← hQ]
    refine w_cl (d := .int (7 * k)) (by simp [d__law_drawn, mulOk]) (w_frzf (d := .int (7 * k)) (by simp [d__law_drawn]) ?_)
    by_cases hn : ns = []
    · subst hn
      exact w_iff (m := .cl) (by simp [d__law_drawn]) (w_nil (tail _ (7 * k) (by simp [d__law_drawn]) (by simp [d__law_drawn]) (by simp [d__law_drawn]) (by simp [d__law_drawn])))
    · obtain ⟨cell, hcell⟩ := sc_at ns k hk hn
      have hp : 0 < ns.length := List.length_pos_iff.mpr hn
      have hp2 : (ns.length : Int) < 18446744073709551616 := by omega
      have hne : ns.isEmpty = false := by simp [hn]
      obtain ⟨t, ht⟩ : ∃ t, k / (ns.length : Int) = t := ⟨_, rfl⟩
      have t0 : 0 ≤ t := by rw [← ht]; exact Int.ediv_nonneg hk (by omega)
      have t1 : t ≤ k := by rw [← ht]; exact Int.ediv_le_self _ hk
      have fin : ∀ (ρ : En), ρ.length = 6 → look ρ 0 = .fz (.scr ns) → look ρ 1 = .fz (.int k) → look ρ 2 = .fz (.int many) → look ρ 3 = .fz (.int cell) → Wp H__law_drawn (.cons (sAt (sB (sAt d__law_drawn.body 2)) 3) .nil) ρ (nxO (fun ρ' => Wp H__law_drawn (.cons (sAt d__law_drawn.body 3) (.cons (sAt d__law_drawn.body 4) (.cons (sAt d__law_drawn.body 5) .nil))) ρ' Q) Q) := fun ρ hl l0 l1 l2 l3 =>
        w_cl (d := .int (cell + 6553 * t)) (by simp [l0, l1, l3, hL, hp, hp2, ht, mulOk]) (w_nil (tail _ (cell + 6553 * t) (by simp [hl]) (by simp [look_set, hl, l1]) (by simp [look_set, hl, l2]) (by simp [look_set, hl])))
      refine w_ift (m := .cl) (by simp [d__law_drawn, hne]) (w_cl (d := .int cell) (by simp [d__law_drawn, hL, hp, hp2, hcell]) (w_cl (d := .int t) (by simp [d__law_drawn, hL, hp, hp2, ht]) ?_))
      refine w_if (m := .cl) (c := decide (1000000000000000000 ≤ cell) && decide (t < 60)) ?_ (fun c => ?_) (fun c => ?_)
      · by_cases c1 : 1000000000000000000 ≤ cell
        · simp [d__law_drawn, c1]
        · simp [d__law_drawn, c1]
      · have ht60 : t < 60 := by simp at c; exact c.2
        refine w_cl (d := .int (cell / 1000000000000000000)) (by simp [d__law_drawn]) ?_
        refine w_whl (fun m ρ => ∃ r u : Int, ρ.length = 6 ∧ look ρ 0 = .fz (.scr ns) ∧ look ρ 1 = .fz (.int k) ∧ look ρ 2 = .fz (.int many) ∧ look ρ 3 = .fz (.int cell) ∧ look ρ 4 = .fz (.int u) ∧ look ρ 5 = .fz (.int r) ∧ u < m) (n := 100) ⟨cell / 1000000000000000000, t, by simp [d__law_drawn], by simp [d__law_drawn], by simp [d__law_drawn], by simp [d__law_drawn], by simp [d__law_drawn], by simp [d__law_drawn], by simp [d__law_drawn], by omega⟩ (by decide) ?_
        rintro m ρ ⟨r, u, hl, l0, l1, l2, l3, l4, l5, hu⟩
        have done : ¬ (0 < r ∧ 0 < u) → (∃ m', evE H__law_drawn (.and (.cons (.cmp .gt (.var 5) (.cst (.int 0))) (.cons (.cmp .gt (.var 4) (.cst (.int 0))) .nil))) ρ = some (.v m' (.bl false))) ∧ Wp H__law_drawn (.cons (sAt (sB (sAt (sB (sAt d__law_drawn.body 2)) 2)) 2) .nil) ρ (nxO (fun ρ' => Wp H__law_drawn (.cons (sAt (sB (sAt d__law_drawn.body 2)) 3) .nil) ρ' (nxO (fun ρ' => Wp H__law_drawn (.cons (sAt d__law_drawn.body 3) (.cons (sAt d__law_drawn.body 4) (.cons (sAt d__law_drawn.body 5) .nil))) ρ' Q) Q)) (nxO (fun ρ' => Wp H__law_drawn (.cons (sAt d__law_drawn.body 3) (.cons (sAt d__law_drawn.body 4) (.cons (sAt d__law_drawn.body 5) .nil))) ρ' Q) Q)) := fun hd => by
          refine ⟨⟨.cl, ?_⟩, ?_⟩
          · by_cases c1 : 0 < r
            · have c2 : ¬ 0 < u := fun c2 => hd ⟨c1, c2⟩
              simp [l4, l5, c1, c2]
            · simp [l5, c1]
          · refine w_if (m := .cl) (c := decide (0 < r)) (by simp [l5]) (fun c => ?_) (fun c => ?_)
            · refine w_ret (m := .cl) (d := .int (r % 1000000 % many)) (by simp [l2, l5, hm]) (by decide) (hret _)
            · exact w_nil (w_nil (fin ρ hl l0 l1 l2 l3))
        by_cases hc : 0 < r ∧ 0 < u
        · refine .inr ⟨⟨.cl, by simp [l4, l5, hc.1, hc.2]⟩, m - 1, by omega, ?_⟩
          exact w_cl (d := .int (r / 1000000)) (by simp [l5]) (w_cl (d := .int (u - 1)) (by simp [look_set, hl, l4]) (w_nil ⟨r / 1000000, u - 1, by simp [hl], by simp [look_set, hl, l0], by simp [look_set, hl, l1], by simp [look_set, hl, l2], by simp [look_set, hl, l3], by simp [look_set, hl], by simp [look_set, hl], by omega⟩))
        · obtain ⟨⟨m', hm'⟩, h2⟩ := done hc
          exact .inl ⟨m', hm', h2⟩
      · exact w_nil (fin _ (by simp [d__law_drawn]) (by simp [d__law_drawn]) (by simp [d__law_drawn]) (by simp [d__law_drawn]) (by simp [d__law_drawn])))
  exact ⟨i, h1, h2⟩
theorem sp_net3 (ns : List Int) (hs : ns.length ≤ 63) (at_ most : Int) (ha : 0 ≤ at_) (ha2 : at_ < 40000) (hm : 0 < most) (hm8 : most ≤ 8) : ∃ n : Net, n.Ok ∧ (n.roads.length : Int) ≤ most ∧ (∀ r ∈ n.roads, r.s ≤ 3) ∧ e__law_net [.scr ns, .int at_, .int most] = some (.ret n.d) := by
  have pk : ∀ k many : Int, 0 ≤ k → k < 50000 → 0 < many → ∃ v, e__law_drawn [.scr ns, .int k, .int many] = some (.ret (.int v)) ∧ 0 ≤ v ∧ v < many := fun k many h1 h2 h3 => sp_drawn ns hs k many h1 h2 h3
  obtain ⟨v0, p0, a0, b0⟩ := pk at_ 9 ha (by omega) (by omega)
  obtain ⟨v1, p1, a1, b1⟩ := pk (at_ + 1) (5 + v0) (by omega) (by omega) (by omega)
  obtain ⟨v2, p2, a2, b2⟩ := pk (at_ + 2) 3 (by omega) (by omega) (by omega)
  obtain ⟨v3, p3, a3, b3⟩ := pk (at_ + 3) most (by omega) (by omega) hm
  obtain ⟨kp, hkp, kp0, kp1⟩ : ∃ kp, ixAt [D.int 1, .int 1, .int 0] v2 = some (.int kp) ∧ 0 ≤ kp ∧ kp ≤ 1 := by
    rcases (show v2 = 0 ∨ v2 = 1 ∨ v2 = 2 by omega) with e | e | e <;> subst e
    · exact ⟨1, rfl, by omega, by omega⟩
    · exact ⟨1, rfl, by omega, by omega⟩
    · exact ⟨0, rfl, by omega, by omega⟩
  obtain ⟨c, hc⟩ : ∃ c : Nat, 1 + v3 = c := ⟨(1 + v3).toNat, by omega⟩
  obtain ⟨v, h1, n, hn, hr, h3, rfl⟩ := wp_runE (G := H__law_net) (d := d__law_net) (ds := [.scr ns, .int at_, .int most]) (P := fun v => ∃ n : Net, n.Ok ∧ (n.roads.length : Int) ≤ most ∧ (∀ r ∈ n.roads, r.s ≤ 3) ∧ v = n.d) rfl (by
    refine w_cl (d := .int (5 + v0)) (by simp [d__law_net, p0]) (w_par (vs := [.fz (.int (1 + v1)), .fz (.int kp), .ow (.lst [])]) (by simp [d__law_net, p1, p2, hkp]) rfl ?_)
    refine w_for (fun (k : Nat) => D.int k) (fun pre ρ => ∃ rs : List Road, rs.length = pre.length ∧ (∀ r ∈ rs, r.Ok ∧ r.s ≤ 3) ∧ ρ.length = 14 ∧ look ρ 0 = .fz (.scr ns) ∧ look ρ 1 = .fz (.int at_) ∧ look ρ 3 = .fz (.int (5 + v0)) ∧ look ρ 4 = .fz (.int (1 + v1)) ∧ look ρ 5 = .fz (.int kp) ∧ look ρ 6 = .ow (.lst (rs.map Road.d))) (List.range c) ?_ ⟨[], rfl, (fun _ h => by cases h), by simp [d__law_net], by simp [d__law_net], by simp [d__law_net], by simp [d__law_net], by simp [d__law_net], by simp [d__law_net], by simp [d__law_net]⟩ ?_ ?_
    · have := range_nat c
      rw [← hc] at this
      simp [d__law_net, p3, rangeOk_of (show -1000000 ≤ 1 + v3 by omega) (show 1 + v3 ≤ 1000000 by omega), this]
    · rintro pre j post e ρ ⟨rs, hrl, hok, hl, l0, l1, l3, l4, l5, l6⟩
      have hpre : pre.length < c := by have := congrArg List.length e; simp at this; omega
      have hj : j < c := by
        have : j ∈ List.range c := by rw [e]; simp
        simpa using this
      have hj' : (j : Int) < 9 := by omega
      obtain ⟨sp, hsp⟩ : ∃ sp : Int, at_ + 4 + 7 * (j : Int) = sp := ⟨_, rfl⟩
      have hsp0 : 0 ≤ sp := by omega
      have hsp1 : sp < 45000 := by omega
      obtain ⟨w1, q1, c1, d1⟩ := pk sp 4 (by omega) (by omega) (by omega)
      obtain ⟨w2, q2, c2, d2⟩ := pk (sp + 1) 4 (by omega) (by omega) (by omega)
      obtain ⟨w3, q3, c3, d3⟩ := pk (sp + 6) 5 (by omega) (by omega) (by omega)
      obtain ⟨w4, q4, c4, d4⟩ := pk (sp + 5) 3 (by omega) (by omega) (by omega)
      obtain ⟨mn, hmn, mn0, mn1⟩ : ∃ mn : Nat, ixAt [D.int 0, .int 1, .int 0, .int 2, .int 3] w3 = some (.int mn) ∧ 0 ≤ mn ∧ mn ≤ 3 := by
        rcases (show w3 = 0 ∨ w3 = 1 ∨ w3 = 2 ∨ w3 = 3 ∨ w3 = 4 by omega) with e | e | e | e | e <;> subst e
        · exact ⟨0, rfl, by omega, by omega⟩
        · exact ⟨1, rfl, by omega, by omega⟩
        · exact ⟨0, rfl, by omega, by omega⟩
        · exact ⟨2, rfl, by omega, by omega⟩
        · exact ⟨3, rfl, by omega, by omega⟩
      obtain ⟨tn, htn, tn0, tn1⟩ : ∃ tn, ixAt [D.int 0, .int 0, .int 1] w4 = some (.int tn) ∧ 0 ≤ tn ∧ tn ≤ 1 := by
        rcases (show w4 = 0 ∨ w4 = 1 ∨ w4 = 2 by omega) with e | e | e <;> subst e
        · exact ⟨0, rfl, by omega, by omega⟩
        · exact ⟨0, rfl, by omega, by omega⟩
        · exact ⟨1, rfl, by omega, by omega⟩
      refine ⟨_, rfl, w_cl (d := .int sp) (by simp [look_set, hl, l1, mulOk, hsp]) ?_⟩
      obtain ⟨rows, hrows, hrw, hrok⟩ := lc_ex (β := List Int) (G := H__law_net) (ρ := (ρ.set 7 (.fz (.int j))).set 8 (.fz (.int sp))) (as := List.range 3) (k := fun (k : Nat) => D.int k) (g := fun r : List Int => D.lst (r.map .int)) (P := fun r => r.length = 6 ∧ ∀ x ∈ r, 0 ≤ x ∧ x ≤ 13)
        (elt := .lst (.cons (.cst (.int 0)) (.cons (.cst (.int 0)) (.cons (.var 3) (.cons (.var 4) (.cons (.cst (.int 7)) (.cons (.fn "_law_drawn" (.cons (.var 0) (.cons (.bin .add (.bin .add (.var 8) (.cst (.int 3))) (.var 13)) (.cons (.cst (.int 14)) .nil)))) .nil)))))))
        (tg := .one 13) (it := .rng (.cst (.int 3))) (c := .no) (own := [13]) (by
          have := range_nat 3
          rw [show ((3 : Nat) : Int) = 3 from rfl] at this
          simp [rangeOk_of (show -1000000 ≤ (3 : Int) by omega) (show (3 : Int) ≤ 1000000 by omega), this]) (by simp) (fun k hk => by
          have hk3 : k < 3 := by simpa using hk
          obtain ⟨u, r1, r2, r3⟩ := pk (sp + 3 + (k : Int)) 14 (by omega) (by omega) (by omega)
          refine ⟨[0, 0, 5 + v0, 1 + v1, 7, u], ?_, rfl, ?_⟩
          · simp [look_set, hl, l0, l3, l4, r1]
          · intro x hx
            simp at hx
            omega)
      rw [List.length_range] at hrw
      refine w_frfz (d := .lst (rows.map fun r => D.lst (r.map .int))) (by simp [hl]) hrows (w_cl (d := .int mn) (by simp [look_set, hl, l0, q3, hmn]) ?_)
      obtain ⟨g, hg, hgl, hgb⟩ := lc_ex (β := Int) (G := H__law_net) (ρ := (((ρ.set 7 (.fz (.int j))).set 8 (.fz (.int sp))).set 9 (.fz (.lst (rows.map fun r => D.lst (r.map .int))))).set 10 (.fz (.int mn))) (as := List.range mn) (k := fun (k : Nat) => D.int k) (g := D.int) (P := fun x => 0 ≤ x ∧ x ≤ 13)
        (elt := .ix (.ix (.var 9) (.var 13)) (.fn "_law_drawn" (.cons (.var 0) (.cons (.bin .add (.bin .add (.var 8) (.cst (.int 2))) (.var 13)) (.cons (.cst (.int 6)) .nil)))))
        (tg := .one 13) (it := .rng (.var 10)) (c := .no) (own := [13]) (by
          have := range_nat mn
          simp [look_set, hl, rangeOk_of (show -1000000 ≤ (mn : Int) by omega) (show (mn : Int) ≤ 1000000 by omega), this]) (by simp; omega) (fun k hk => by
          have hk3 : k < mn := by simpa using hk
          obtain ⟨u, r1, r2, r3⟩ := pk (sp + 2 + (k : Int)) 6 (by omega) (by omega) (by omega)
          have hkr : k < rows.length := by omega
          obtain ⟨x1, x2⟩ := hrok rows[k] (List.getElem_mem hkr)
          have y1 : ixAt (rows.map fun r => D.lst (r.map .int)) (k : Int) = some (.lst (rows[k].map .int)) := by
            rw [ixAt_pos (by omega), List.getElem?_map, show ((k : Int)).toNat = k by omega, List.getElem?_eq_getElem hkr]
            rfl
          have y2 := ixAt_get (l := rows[k]) (x := u) (by omega) (by omega)
          refine ⟨rows[k].getD u.toNat 0, ?_, x2 _ ?_⟩
          · generalize rows[k].getD u.toNat 0 = z at y2
            generalize rows[k].map D.int = rd at y1 y2
            generalize (rows.map fun r => D.lst (r.map .int)) = rr at y1
            simp [look_set, hl, l0, r1, y1, y2, -ixAt_nat]
          · rw [List.getD_eq_getElem?_getD, List.getElem?_eq_getElem (show u.toNat < rows[k].length by omega)]
            exact List.getElem_mem ..)
      rw [List.length_range] at hgl
      refine w_cl (d := .tup (g.map .int)) ?_ (w_cl (d := .int tn) (by simp [look_set, hl, l0, q4, htn]) (w_add (ds := rs.map Road.d) (y := (Road.mk w1 w2 tn g).d) (by simp [look_set, hl, l6]) (by simp [look_set, hl, l0, q1, q2, Road.d]) (by simp; omega) (w_nil ⟨rs ++ [⟨w1, w2, tn, g⟩], by simp [hrl], ?_, by simp [hl], by simp [look_set, hl, l0], by simp [look_set, hl, l1], by simp [look_set, hl, l3], by simp [look_set, hl, l4], by simp [look_set, hl, l5], by simp [look_set, hl]⟩)))
      · rw [ev_b1, hg]
        rfl
      · intro r hr
        rcases List.mem_append.mp hr with hr | hr
        · exact hok r hr
        · rw [List.mem_singleton.mp hr]
          exact ⟨⟨by constructor <;> (simp; omega), by constructor <;> (simp; omega), ⟨tn0, tn1⟩, by show g.length ≤ 3; omega, hgb⟩, by show w1 ≤ 3; omega⟩
    · rintro ρ ⟨rs, hrl, hok, hl, l0, l1, l3, l4, l5, l6⟩
      rw [List.length_range] at hrl
      refine w_ret (m := .cl) (d := (Net.mk (5 + v0) (1 + v1) kp rs).d) (by simp [l3, l4, l5, l6, Net.d]) (by decide) ⟨_, rfl, ⟨5 + v0, 1 + v1, kp, rs⟩, ⟨by constructor <;> (simp; omega), by constructor <;> (simp; omega), ⟨kp0, kp1⟩, by show 1 ≤ rs.length; omega, by show rs.length ≤ 8; omega, fun r hr => (hok r hr).1⟩, by show (rs.length : Int) ≤ most; omega, fun r hr => (hok r hr).2, rfl⟩)
  exact ⟨n, hn, hr, h3, h1⟩
theorem sp_net (ns : List Int) (hs : ns.length ≤ 63) (at_ most : Int) (ha : 0 ≤ at_) (ha2 : at_ < 40000) (hm : 0 < most) (hm8 : most ≤ 8) : ∃ n : Net, n.Ok ∧ (n.roads.length : Int) ≤ most ∧ e__law_net [.scr ns, .int at_, .int most] = some (.ret n.d) := by
  obtain ⟨n, a, b, _, c⟩ := sp_net3 ns hs at_ most ha ha2 hm hm8
  exact ⟨n, a, b, c⟩
theorem sp_next (n : Net) (h : n.Ok) (r : Int) (h1 : 0 ≤ r) (h2 : r < n.roads.length) : e__law_next [n.d, .int r] = some (.ret (.lst ((follow n r).map .int))) := by
  have h8 := h.l8
  have hL : n.roads.length ≤ 16777216 := by omega
  have e : (follow n r).map D.int = ((List.range n.roads.length).filter fun (k : Nat) => decide ((n.road k).s = (n.road r).e)).map fun (k : Nat) => .int k := by
    unfold follow; rw [List.map_map]; rfl
  refine run_ret rfl (stop ?_)
  rw [ev_ret, lc_filter (as := List.range n.roads.length) (k := fun (k : Nat) => .int k) (p := fun (k : Nat) => decide ((n.road k).s = (n.road r).e)) (g := fun (k : Nat) => .int k)]
  · simp [e]
  · simp [Net.d_ix3, hL, rangeOk_of (show -1000000 ≤ (n.roads.length : Int) by omega) (show (n.roads.length : Int) ≤ 1000000 by omega), range_nat]
  · simp; omega
  · intro k hk
    have hk' : k < n.roads.length := by simpa using hk
    by_cases c : (n.road k).s = (n.road r).e <;> simp [Net.ix h1 h2, Net.ix (show (0 : Int) ≤ (k : Int) by omega) (show (k : Int) < n.roads.length by omega), Net.d_ix3, Road.d, c, -ixAt_nat, d__law_next]
def manyO : Option (List Int) → D
  | none => .non
  | some w => .int w.length
theorem sp_lpieces (n : Net) (h : n.Ok) (r : Int) (h1 : 0 ≤ r) (h2 : r < n.roads.length) (s : Int) : e__law_pieces [n.d, .int r, .int s] = some (.ret (.lst ((pcs n r s).map .int))) := by
  have hro := h.roads _ (Net.road_mem h1 h2)
  have hg := hro.l
  have hL : 1 + (n.road r).g.length ≤ 16777216 := by omega
  have e : (pcs n r s).map D.int = (s :: (n.road r).g).map fun x => .int (shown (rest n r) x) := by unfold pcs; rw [List.map_map]; rfl
  rw [e]
  refine wp_run rfl (w_unp (ds := [.int (n.road r).s, .int (n.road r).e, .int (n.road r).t, .tup ((n.road r).g.map .int)]) (by simp [d__law_pieces, Net.d_ix3, Net.ix h1 h2, Road.d]) rfl (w_ret (m := .fr) (lc_map (as := s :: (n.road r).g) (k := .int) (g := fun x => .int (shown (rest n r) x)) ?_ (by simp; omega) fun x _ => ?_) (by decide) rfl))
  · simp [d__law_pieces, hL]
  · by_cases c : 0 < x
    · simp [d__law_pieces, c, shown]
    · by_cases q : (n.road r).t = 1
      · simp [d__law_pieces, c, shown, q, rest, Net.d_ix1]
      · simp [d__law_pieces, c, shown, q, rest, Net.d_ix0]
abbrev bRoad : D := .tup [.int 0, .int 1, .int 0, .tup []]
abbrev bNet (x : D) : D := .tup [.int 10, .int 5, .int 1, .tup [x]]
def bads : List D := [.non, .tup [], .tup [.int 10, .int 5, .int 1, .tup []], .tup [.int 4, .int 3, .int 1, .tup [bRoad]], .tup [.int 10, .int 11, .int 1, .tup [bRoad]],
  .tup [.int 10, .int 5, .int 2, .tup [bRoad]], .tup [.int 10, .int 5, .int 1, .tup (List.replicate 9 bRoad)], .lst [.int 10, .int 5, .int 1, .tup [bRoad]], .tup [.int 10, .int 5, .int 1, .lst [bRoad]], .tup [.bl true, .int 1, .int 1, .tup [bRoad]],
  bNet (.tup [.int 0, .int 1, .int 0]), bNet (.tup [.int 6, .int 1, .int 0, .tup []]), bNet (.tup [.int 0, .int 1, .int 2, .tup []]), bNet (.tup [.int 0, .int 1, .int 0, .tup [.int 14]]), bNet (.tup [.int 0, .int 1, .int 0, .tup [.int 1, .int 2, .int 3, .int 4]]), bNet (.tup [.int 0, .int 1, .int 0, .lst [.int 1]])]
theorem bads_no : ∀ b ∈ bads, e_check_net [b] = some (.exc "InvalidNet") := by
  intro b hb
  unfold bads at hb
  simp only [List.mem_cons, List.not_mem_nil, or_false] at hb
  rcases hb with rfl | rfl | rfl | rfl | rfl | rfl | rfl | rfl | rfl | rfl | rfl | rfl | rfl | rfl | rfl | rfl <;> kernel_rfl
theorem sp_badnet (ns : List Int) (hs : ns.length ≤ 63) (k : Int) (hk : 0 ≤ k) (hk2 : k < 50000) : ∃ b, e__law_badnet [.scr ns, .int k] = some (.ret b) ∧ b ∈ bads := by
  obtain ⟨v, hv, v0, v1⟩ := sp_drawn ns hs k 16 hk hk2 (by omega)
  have hbl : bads.length = 16 := rfl
  obtain ⟨b, hb, hbm⟩ : ∃ b, ixAt bads v = some b ∧ b ∈ bads := by
    have : v.toNat < bads.length := by omega
    refine ⟨bads[v.toNat], ?_, List.getElem_mem ..⟩
    rw [ixAt_pos v0, List.getElem?_eq_getElem this]
  refine ⟨b, wp_run rfl (w_cl (d := bRoad) (by simp [d__law_badnet]) (w_fr (d := .lst (bads.take 5)) (by simp [d__law_badnet]; rfl) (w_fr (d := .lst (bads.take 7)) (by simp [d__law_badnet]; rfl) (w_fr (d := .lst (bads.take 10)) (by simp [d__law_badnet, hbl]; rfl) (w_fr (d := .lst (bads.take 11)) (by simp [d__law_badnet, hbl]; rfl) ?_))))), hbm⟩
  refine w_for id (fun pre ρ => ρ.length = 5 ∧ look ρ 0 = .fz (.scr ns) ∧ look ρ 1 = .fz (.int k) ∧ look ρ 3 = .ow (.lst (bads.take 11 ++ pre.map bNet))) [.tup [.int 6, .int 1, .int 0, .tup []], .tup [.int 0, .int 1, .int 2, .tup []], .tup [.int 0, .int 1, .int 0, .tup [.int 14]], .tup [.int 0, .int 1, .int 0, .tup [.int 1, .int 2, .int 3, .int 4]], .tup [.int 0, .int 1, .int 0, .lst [.int 1]]] (by simp [d__law_badnet]) ⟨by simp [d__law_badnet], by simp [d__law_badnet], by simp [d__law_badnet], by simp [d__law_badnet]⟩ ?_ ?_
  · rintro pre x post e ρ ⟨hl, l0, l1, l3⟩
    have hpl : pre.length ≤ 5 := by have := congrArg List.length e; simp at this; omega
    refine ⟨_, rfl, w_add (ds := bads.take 11 ++ pre.map bNet) (y := bNet x) (by simp [look_set, hl, l3]) (by simp [look_set, hl]) ?_ (w_nil ⟨by simp [hl], by simp [look_set, hl, l0], by simp [look_set, hl, l1], by simp [look_set, hl]⟩)⟩
    rw [List.length_append, List.length_map, List.length_take]
    omega
  · rintro ρ ⟨hl, l0, l1, l3⟩
    have e : ∀ l : List D, l = bads → ixAt l v = some b := fun l h => h ▸ hb
    exact w_ret (m := .cl) (d := b) (by
      have l3' : look ρ 3 = .ow (.lst bads) := l3
      generalize bads = B at l3' hb
      simp [l0, l1, l3', hv, hb]) (by decide) rfl
theorem lvw_lenC (n : Net) {c : Nat} (h : n.roads.length ≤ c) : ∀ m, (lvw n m).length ≤ c ^ (m + 1)
  | 0 => by simpa [lvw] using h
  | m + 1 => by
    have ih := lvw_lenC n h m
    have key : ∀ l : List (List Int), (l.flatMap fun w => (follow n (lastW w)).map fun k => w ++ [k]).length ≤ l.length * c := fun l => by
      induction l with
      | nil => simp
      | cons w l ih =>
        have := follow_len n (lastW w)
        rw [List.flatMap_cons, List.length_append, List.length_map, List.length_cons, Nat.succ_mul]
        omega
    exact Nat.le_trans (key (lvw n m)) (by rw [Nat.pow_succ]; exact Nat.mul_le_mul_right c ih)
theorem rts_lenC (n : Net) (h : n.roads.length ≤ 3) : ∀ m, m ≤ 4 → (rts n m).length ≤ 120 := fun m hm => by
  have e : ∀ m, m ≤ 4 → (rts n m).length ≤ ((List.range m).map fun j => 3 ^ (j + 1)).sum := fun m => by
    induction m with
    | zero => intro _; simp [rts]
    | succ m ih =>
      intro hm
      have := ih (by omega)
      have := lvw_lenC n h m
      rw [rts_succ, List.length_append, List.range_succ, List.map_append, List.sum_append]
      simp
      omega
  have h1 := e m hm
  rcases (show m = 0 ∨ m = 1 ∨ m = 2 ∨ m = 3 ∨ m = 4 by omega) with z | z | z | z | z <;> subst z <;> (refine Nat.le_trans h1 ?_; decide)
theorem fin_snocN (n : Net) : ∀ (u : List Int) (s o x : Int), fin n s o (u ++ [x]) = leaveS n x (arr n s u)
  | [], _, _, _ => rfl
  | _ :: u, _, _, _ => fin_snocN n u _ _ _
theorem lset_ints {l : List Int} (h : l.length ≤ 4000) : b1D .lset (.lst (l.map .int)) = some (.v .cl (.int (usort leI l).length)) := by
  show (match intsD (l.map .int) with
    | some ns => if Nat.ble ns.length 4000 then cl (.int (usort leI ns).length) else none
    | none => none) = _
  rw [ints_map]
  simp only
  rw [if_pos (Nat.ble_eq_true_of_le h)]
  rfl
theorem sts_naive {n : Net} (h : n.Ok) (r : Int) : usort leI (((rts n (n.roads.length + 1)).filter fun w => decide (lastW w = r)).map (ast n)) = sts n r := by
  refine (usort_of ordI ((sts_sorted n r).imp fun h => by simp [leI]; omega) ?_ fun s => ?_).symm
  · exact List.nodup_iff_pairwise_ne.mpr ((sts_sorted n r).imp fun h => by omega)
  · rw [mem_sts h, rc_rts, List.mem_map]
    constructor
    · rintro ⟨w, hw, e⟩
      exact ⟨w, List.mem_filter.mpr ⟨hw, decide_eq_true (congrArg Prod.fst e)⟩, congrArg Prod.snd e⟩
    · rintro ⟨w, hw, e⟩
      obtain ⟨h1, h2⟩ := List.mem_filter.mp hw
      exact ⟨w, h1, Prod.ext (of_decide_eq_true h2) e⟩
theorem row_lastN (n : Net) (u : List Int) (x : Int) : run n 0 (u ++ [x]) = run n 0 u ++ [pcs n x (ast n (u ++ [x]))] := by rw [run_snoc, ast_snoc]
theorem poss_naive {n : Net} (h : n.Ok) (r : Int) : usort leI (((rts n (n.roads.length + 1)).filter fun w => decide (lastW w = r)).map fun w => shown (rest n r) (ast n w)) = poss n r 0 := by
  rw [poss_zero]
  refine usort_same fun x => ?_
  rw [List.mem_map, List.mem_map]
  constructor
  · rintro ⟨w, hw, e⟩
    obtain ⟨h1, h2⟩ := List.mem_filter.mp hw
    exact ⟨ast n w, (mem_sts h).mpr (rc_rts.mpr ⟨w, h1, Prod.ext (of_decide_eq_true h2) rfl⟩), e⟩
  · rintro ⟨s, hs, e⟩
    obtain ⟨w, hw, e2⟩ := rc_rts.mp ((mem_sts h).mp hs)
    refine ⟨w, List.mem_filter.mpr ⟨hw, decide_eq_true (congrArg Prod.fst e2)⟩, ?_⟩
    have : ast n w = s := congrArg Prod.snd e2
    rw [this, e]
end LS

set_option Elab.async false
set_option linter.all false
set_option maxRecDepth 100000
set_option maxHeartbeats 1000000
/-! K64n: a trip as data, what its methods do. -/
namespace LS
open PySem PySem.Spec PyProof.Rows L2
@[simp] theorem fld_net (w : Option Nat) (a b : D) : fldX "Trip" "net" (.bg w (.obj "Trip" ["net", "present"] [a, b])) = cl a := rfl
@[simp] theorem fld_present (w : Option Nat) (a b : D) : fldX "Trip" "present" (.bg w (.obj "Trip" ["net", "present"] [a, b])) = cl b := rfl
structure Sit where
  r : Int
  k : Nat
  s : Int
  seen : List Int
/-- as the program holds it, as the law holds it -/
def Sit.p (x : Sit) : D := .tup [.int x.r, .int x.k, .int x.s, .tup (x.seen.map .int)]
def Sit.l (x : Sit) : D := .tup [.int x.r, .int x.k, .int x.s, .lst (x.seen.map .int)]
structure Sit.V (n : Net) (b : Nat) (x : Sit) : Prop where
  r0 : 0 ≤ x.r
  r1 : x.r < n.roads.length
  k1 : x.k ≤ (n.road x.r).g.length
  s1 : 1 ≤ x.seen.length
  s2 : x.seen.length ≤ b
def trp (n : Net) (x : Sit) (dn un : List Sit) : Tr := ⟨n.d, x.p, dn.map Sit.p, un.map Sit.p⟩
def lim (n : Net) (r s : Int) (k : Nat) : Int := ((pcs n r s)[k]?).getD 0
theorem pcs_lenT (n : Net) (r s : Int) : (pcs n r s).length = (n.road r).g.length + 1 := by unfold pcs; simp
theorem pcs_at {n : Net} {r s : Int} {k : Nat} (h : k ≤ (n.road r).g.length) : (pcs n r s)[k]? = some (lim n r s k) := by
  unfold lim
  rw [List.getElem?_eq_getElem (by rw [pcs_lenT]; omega)]
  rfl
theorem ix_map {l : List Int} {k : Nat} {v : Int} (h : l[k]? = some v) : ixAt (l.map D.int) (k : Int) = some (.int v) := by
  rw [ixAt_pos (by omega), List.getElem?_map]
  simp [h]
def Sit.go (n : Net) (x : Sit) : Sit := ⟨x.r, x.k + 1, ((n.road x.r).g[x.k]?).getD 0, x.seen ++ [lim n x.r x.s (x.k + 1)]⟩
def Sit.turn (n : Net) (x : Sit) (o : Int) : Sit := ⟨o, 0, goOver n x.s, x.seen ++ [lim n o (goOver n x.s) 0]⟩
abbrev goM := wlkM H_law go_ss 6 0 go_e 6
abbrev turnM := wlkM H_law turn_ss 5 1 turn_e 6
abbrev iniM := initM H_law init_ss 0 init_e
section
variable {n : Net} (h : n.Ok) {x : Sit} {b : Nat} (v : x.V n b) (hb : b ≤ 1000)
include h v hb
theorem go_no (p : Addr) (dn un : List Sit) (hk : x.k = (n.road x.r).g.length) : goM p (trp n x dn un) [] = some (.exc "AtEnd", trp n x dn un) := by
  have hg := (h.roads _ (Net.road_mem v.r0 v.r1)).l
  have hL : (n.road x.r).g.length ≤ 16777216 := by omega
  unfold goM wlkM
  simp [go_ss, trp, Tr.ob, Sit.p, Net.d_ix3, Net.ix v.r0 v.r1, Road.d, hk, hL]
theorem go_yes (p : Addr) (dn un : List Sit) (hk : x.k < (n.road x.r).g.length) (hd : dn.length ≤ 1000) : goM p (trp n x dn un) [] = some (.ret (.int (lim n x.r x.s (x.k + 1))), trp n (x.go n) (dn ++ [x]) []) := by
  have hg := (h.roads _ (Net.road_mem v.r0 v.r1)).l
  have hL : (n.road x.r).g.length ≤ 16777216 := by omega
  have e1 := ix_map (pcs_at (n := n) (r := x.r) (s := x.s) (k := x.k + 1) (by omega))
  have e2 : ixAt ((n.road x.r).g.map D.int) (x.k : Int) = some (.int (((n.road x.r).g[x.k]?).getD 0)) := ix_map (by rw [List.getElem?_eq_getElem hk]; rfl)
  have e1' : ixAt ((pcs n x.r x.s).map D.int) ((x.k : Int) + 1) = some (.int (lim n x.r x.s (x.k + 1))) := by
    have : ((x.k + 1 : Nat) : Int) = (x.k : Int) + 1 := by omega
    rw [← this]; exact e1
  have hs := v.s2
  have hS : x.seen.length + 1 ≤ 16777216 := by omega
  have hdl : dn.length < 16777216 := by omega
  have hc : ¬ ((n.road x.r).g.length : Int) ≤ (x.k : Int) := by omega
  unfold goM wlkM
  simp [go_ss, go_e, trp, Tr.ob, Sit.p, Net.d_ix3, Net.ix v.r0 v.r1, Road.d, hL, sp_pieces n h x.r v.r0 v.r1, e1', e2, hS, changeM, hdl, hc, Sit.go, cleanE, -ixAt_nat]
theorem turn_bad (p : Addr) (dn un : List Sit) (d : D) (hd : e_is_int [d, .int 0, .int (n.roads.length - 1)] = some (.ret (.bl false))) : turnM p (trp n x dn un) [d] = some (.exc "InvalidRoad", trp n x dn un) := by
  have hL : n.roads.length ≤ 16777216 := by have := h.l8; omega
  unfold turnM wlkM
  simp [turn_ss, trp, Tr.ob, Sit.p, Net.d_ix3, hL, hd]
theorem turn_no (p : Addr) (dn un : List Sit) (o : Int) (o0 : 0 ≤ o) (o1 : o < n.roads.length) (hk : x.k < (n.road x.r).g.length ∨ o ∉ follow n x.r) : turnM p (trp n x dn un) [.int o] = some (.exc "NotThere", trp n x dn un) := by
  have hL : n.roads.length ≤ 16777216 := by have := h.l8; omega
  have hg := (h.roads _ (Net.road_mem v.r0 v.r1)).l
  have hG : (n.road x.r).g.length ≤ 16777216 := by omega
  have c1 : decide (o ≤ (n.roads.length : Int) - 1) = true := decide_eq_true (by omega)
  unfold turnM wlkM
  by_cases c : x.k < (n.road x.r).g.length
  · have c' : (x.k : Int) < ((n.road x.r).g.length : Int) := by omega
    simp [turn_ss, trp, Tr.ob, Sit.p, Net.d_ix3, hL, o0, c1, Net.ix v.r0 v.r1, Road.d, hG, c', c]
  · have c2 : o ∉ follow n x.r := by rcases hk with q | q; exact absurd q c; exact q
    have c' : ¬ (x.k : Int) < ((n.road x.r).g.length : Int) := by omega
    simp [turn_ss, trp, Tr.ob, Sit.p, Net.d_ix3, hL, o0, c1, Net.ix v.r0 v.r1, Road.d, hG, c', c, sp_find_followers n h x.r v.r0 v.r1, cop_nin_ints, c2]
theorem turn_yes (p : Addr) (dn un : List Sit) (o : Int) (o0 : 0 ≤ o) (o1 : o < n.roads.length) (hk : x.k = (n.road x.r).g.length) (hf : o ∈ follow n x.r) (hd : dn.length ≤ 1000) : turnM p (trp n x dn un) [.int o] = some (.ret (.int (lim n o (goOver n x.s) 0)), trp n (x.turn n o) (dn ++ [x]) []) := by
  have hL : n.roads.length ≤ 16777216 := by have := h.l8; omega
  have hg := (h.roads _ (Net.road_mem v.r0 v.r1)).l
  have hG : (n.road x.r).g.length ≤ 16777216 := by omega
  have c1 : decide (o ≤ (n.roads.length : Int) - 1) = true := decide_eq_true (by omega)
  have hs := v.s2
  have hS : x.seen.length + 1 ≤ 16777216 := by omega
  have hdl : dn.length < 16777216 := by omega
  have e1 := pcs_at (n := n) (r := o) (s := goOver n x.s) (k := 0) (by omega)
  unfold turnM wlkM
  simp [turn_ss, turn_e, trp, Tr.ob, Sit.p, Net.d_ix3, hL, o0, c1, Net.ix v.r0 v.r1, Road.d, hG, hk, sp_find_followers n h x.r v.r0 v.r1, cop_nin_ints, hf, sp_go_over, sp_pieces n h o o0 o1, e1, hS, changeM, hdl, cleanE, Sit.turn, -ixAt_nat]
end
end LS

set_option Elab.async false
set_option linter.all false
set_option maxRecDepth 100000
set_option maxHeartbeats 0
namespace LS
open PySem PySem.Spec PyProof.Rows L2
def top (i : Nat) : Stmt := PySem.Challenge.pw_limitsigns_k64_trip.main.body.getD i (.Pass ⟨0, 0, 0, 0⟩)
def r_is_int : Row := ⟨"is_int", d_is_int, 1, ["value", "least", "most"], ["value", "least", "most"], top 14⟩
def r_are_signs : Row := ⟨"are_signs", d_are_signs, 1, ["value", "sign"], ["value"], top 15⟩
def r_is_road : Row := ⟨"is_road", d_is_road, 1, ["value"], ["value"], top 16⟩
def r_is_net : Row := ⟨"is_net", d_is_net, 1, ["candidate", "fast", "slow", "keeps", "roads", "road"], ["candidate"], top 17⟩
def r_check_net : Row := ⟨"check_net", d_check_net, 1, ["value"], ["value"], top 18⟩
def r_check_road : Row := ⟨"check_road", d_check_road, 1, ["net", "value"], ["net", "value"], top 19⟩
def r_find_followers : Row := ⟨"find_followers", d_find_followers, 1, ["net", "road", "number", "other"], ["net", "road"], top 20⟩
def r_find_standing : Row := ⟨"find_standing", d_find_standing, 1, ["net", "road"], ["net", "road"], top 21⟩
def r_pieces : Row := ⟨"pieces", d_pieces, 1, ["net", "road", "state", "rest", "one"], ["net", "road", "state"], top 23⟩
def r_go_over : Row := ⟨"go_over", d_go_over, 1, ["net", "state"], ["net", "state"], top 24⟩
def r__law_drawn : Row := ⟨"_law_drawn", d__law_drawn, 1, ["_law_script", "_law_k", "_law_many", "_law_cell", "_law_turn", "_law_rest"], ["_law_script", "_law_k", "_law_many"], top 28⟩
def r__law_net : Row := ⟨"_law_net", d__law_net, 1, ["_law_script", "_law_at", "_law_most", "_law_fast", "_law_slow", "_law_keeps", "_law_roads", "_law_k", "_law_spot", "_law_some", "_law_many", "_law_signs", "_law_town", "_law_n"], ["_law_script", "_law_at", "_law_most"], top 29⟩
def r__law_pieces : Row := ⟨"_law_pieces", d__law_pieces, 1, ["_law_net_here", "_law_road", "_law_state", "_law_start", "_law_end", "_law_town", "_law_signs", "_law_one"], ["_law_net_here", "_law_road", "_law_state"], top 30⟩
def r__law_next : Row := ⟨"_law_next", d__law_next, 1, ["_law_net_here", "_law_road", "_law_k"], ["_law_net_here", "_law_road"], top 31⟩
def r__law_badnet : Row := ⟨"_law_badnet", d__law_badnet, 1, ["_law_script", "_law_at", "_law_road", "_law_bad", "_law_odd"], ["_law_script", "_law_at"], top 32⟩
def r__law_due : Row := ⟨"_law_due", d__law_due, 1, ["_law_net_here", "_law_now", "_law_way", "_law_one", "_law_road", "_law_piece", "_law_state", "_law_seen", "_law_signs", "_law_limit"], ["_law_net_here", "_law_now", "_law_way", "_law_one"], top 34⟩
def rows : List Row := [r_is_int, r_are_signs, r_is_road, r_is_net, r_check_net, r_check_road, r_find_followers, r_find_standing, r_pieces, r_go_over, r__law_drawn, r__law_net, r__law_pieces, r__law_next, r__law_badnet, r__law_due]
def cts : List (Str × Cst) := [("MAX_LIMIT", .int 13), ("MIN_FAST", .int 5), ("MAX_JUNCTION", .int 5), ("MAX_SIGNS", .int 3), ("MAX_ROADS", .int 8)]
def exs : List Str := ["LimitError", "InvalidNet", "InvalidRoad", "AtEnd", "NotThere", "NothingToUndo"]
def exi : List Str := ["InvalidNet", "InvalidRoad", "AtEnd", "NotThere", "NothingToUndo"]
def r_law : Row := ⟨"law", ⟨1, 18, .nil⟩, 1, ["_law_script", "_law_net_here", "_law_road", "_law_trip", "_law_now", "_law_done", "_law_undone", "_law_k", "_law_at", "_law_way", "_law_near", "_law_one", "_law_due_here", "_law_new", "_law_used", "_law_kept", "_law_bad", "_law_told_here"], ["_law_script"], top 35⟩
def r__law_told : Row := ⟨"_law_told", ⟨4, 6, .nil⟩, 1, ["_law_way", "_law_trip", "_law_one", "_law_two", "e", "_law_flags"], ["_law_way", "_law_trip", "_law_one", "_law_two"], top 33⟩
def mst (i : Nat) : Stmt := (clsBody (top 26)).getD i (.Pass ⟨0, 0, 0, 0⟩)
def mr___init__ : MRow := ⟨"__init__", "Trip.__init__", ["self", "net", "road"], ["self", "net", "road"], mst 0⟩
def mr___len__ : MRow := ⟨"__len__", "Trip.__len__", ["self"], ["self"], mst 1⟩
def mr_place : MRow := ⟨"place", "Trip.place", ["self"], ["self"], mst 3⟩
def mr_limit : MRow := ⟨"limit", "Trip.limit", ["self"], ["self"], mst 4⟩
def mr_seen : MRow := ⟨"seen", "Trip.seen", ["self"], ["self"], mst 5⟩
def mr_change : MRow := ⟨"change", "Trip.change", ["self", "state"], ["self", "state"], mst 6⟩
def mr_go : MRow := ⟨"go", "Trip.go", ["self", "road", "piece", "state", "seen", "signs", "limit"], ["self"], mst 7⟩
def mr_turn : MRow := ⟨"turn", "Trip.turn", ["self", "road", "here", "piece", "state", "seen", "limit"], ["self", "road"], mst 8⟩
def mr_undo : MRow := ⟨"undo", "Trip.undo", ["self"], ["self"], mst 9⟩
def mr_redo : MRow := ⟨"redo", "Trip.redo", ["self"], ["self"], mst 10⟩
def mrows : List MRow := [mr___init__, mr___len__, mr_place, mr_limit, mr_seen, mr_change, mr_go, mr_turn, mr_undo, mr_redo]
def nsT : List Str := ["net", "present"]
def clsT : List (Str × List Str) := [("Trip", nsT)]
def mthT : List (Str × Str × Str) := [("Trip.__len__", "Trip", "__len__"), ("Trip.place", "Trip", "place"), ("Trip.limit", "Trip", "limit"), ("Trip.seen", "Trip", "seen")]
def g1 : GC := gcO cts exs exi clsT []
def g2 : GC := gcO cts exs exi clsT mthT
def faT : List He.Fa := .glo "_law_told" :: .glo "Trip" :: .cls "Trip" :: .mkr "Trip" :: .noat "Trip" "net" :: .noat "Trip" "present" :: .noat "Trip" "done" :: .noat "Trip" "undone" :: .meth "Trip" "__len__" :: .meth "Trip" "place" :: .meth "Trip" "limit" :: .meth "Trip" "seen" :: .meth "Trip" "change" :: .meth "Trip" "go" :: .meth "Trip" "turn" :: .meth "Trip" "undo" :: .meth "Trip" "redo" :: .free "Trip.__len__" :: .free "Trip.place" :: .free "Trip.limit" :: .free "Trip.seen" :: []
def fn : List He.DefD := fnL rows r_law ++ (r__law_told.defD :: mrows.map MRow.defD)
def fa : List He.Fa := faL rows r_law cts exs ++ faT
theorem ck_is_int : ckRow (gcE cts exs exi) r_is_int = true := by decide +kernel
theorem bd_is_int : BindOk r_is_int := fun _ _ _ _ _ _ us hl => match us, hl with | [_, _, _], _ => rfl
theorem ck_are_signs : ckRow (gcE cts exs exi) r_are_signs = true := by decide +kernel
theorem bd_are_signs : BindOk r_are_signs := fun _ _ _ _ _ _ us hl => match us, hl with | [_], _ => rfl
theorem ck_is_road : ckRow (gcE cts exs exi) r_is_road = true := by decide +kernel
theorem bd_is_road : BindOk r_is_road := fun _ _ _ _ _ _ us hl => match us, hl with | [_], _ => rfl
theorem ck_is_net : ckRow (gcE cts exs exi) r_is_net = true := by decide +kernel
theorem bd_is_net : BindOk r_is_net := fun _ _ _ _ _ _ us hl => match us, hl with | [_], _ => rfl
theorem ck_check_net : ckRow (gcE cts exs exi) r_check_net = true := by decide +kernel
theorem bd_check_net : BindOk r_check_net := fun _ _ _ _ _ _ us hl => match us, hl with | [_], _ => rfl
theorem ck_check_road : ckRow (gcE cts exs exi) r_check_road = true := by decide +kernel
theorem bd_check_road : BindOk r_check_road := fun _ _ _ _ _ _ us hl => match us, hl with | [_, _], _ => rfl
theorem ck_find_followers : ckRow (gcE cts exs exi) r_find_followers = true := by decide +kernel
theorem bd_find_followers : BindOk r_find_followers := fun _ _ _ _ _ _ us hl => match us, hl with | [_, _], _ => rfl
theorem ck_find_standing : ckRow (gcE cts exs exi) r_find_standing = true := by decide +kernel
theorem bd_find_standing : BindOk r_find_standing := fun _ _ _ _ _ _ us hl => match us, hl with | [_, _], _ => rfl
theorem ck_pieces : ckRow (gcE cts exs exi) r_pieces = true := by decide +kernel
theorem bd_pieces : BindOk r_pieces := fun _ _ _ _ _ _ us hl => match us, hl with | [_, _, _], _ => rfl
theorem ck_go_over : ckRow (gcE cts exs exi) r_go_over = true := by decide +kernel
theorem bd_go_over : BindOk r_go_over := fun _ _ _ _ _ _ us hl => match us, hl with | [_, _], _ => rfl
theorem ck__law_drawn : ckRow (gcE cts exs exi) r__law_drawn = true := by decide +kernel
theorem bd__law_drawn : BindOk r__law_drawn := fun _ _ _ _ _ _ us hl => match us, hl with | [_, _, _], _ => rfl
theorem ck__law_net : ckRow (gcE cts exs exi) r__law_net = true := by decide +kernel
theorem bd__law_net : BindOk r__law_net := fun _ _ _ _ _ _ us hl => match us, hl with | [_, _, _], _ => rfl
theorem ck__law_pieces : ckRow (gcE cts exs exi) r__law_pieces = true := by decide +kernel
theorem bd__law_pieces : BindOk r__law_pieces := fun _ _ _ _ _ _ us hl => match us, hl with | [_, _, _], _ => rfl
theorem ck__law_next : ckRow (gcE cts exs exi) r__law_next = true := by decide +kernel
theorem bd__law_next : BindOk r__law_next := fun _ _ _ _ _ _ us hl => match us, hl with | [_, _], _ => rfl
theorem ck__law_badnet : ckRow (gcE cts exs exi) r__law_badnet = true := by decide +kernel
theorem bd__law_badnet : BindOk r__law_badnet := fun _ _ _ _ _ _ us hl => match us, hl with | [_, _], _ => rfl
theorem ck__law_due : ckRow (gcE cts exs exi) r__law_due = true := by decide +kernel
theorem bd__law_due : BindOk r__law_due := fun _ _ _ _ _ _ us hl => match us, hl with | [_, _, _, _], _ => rfl
theorem bd_law : BindOk r_law := fun _ _ _ _ _ _ us hl => match us, hl with | [_], _ => rfl
theorem bd__law_told : BindOk r__law_told := fun _ _ _ _ _ _ us hl => match us, hl with | [_, _, _, _], _ => rfl
theorem bd_m___init__ : BindOkM mr___init__ := fun _ _ _ _ _ _ us hl => match us, hl with | [_, _, _], _ => rfl
theorem sc_m___init__ : C8.scC mr___init__.N mr___init__.ps (defScope mr___init__.st) = true := by decide +kernel
theorem bd_m___len__ : BindOkM mr___len__ := fun _ _ _ _ _ _ us hl => match us, hl with | [_], _ => rfl
theorem sc_m___len__ : C8.scC mr___len__.N mr___len__.ps (defScope mr___len__.st) = true := by decide +kernel
theorem bd_m_place : BindOkM mr_place := fun _ _ _ _ _ _ us hl => match us, hl with | [_], _ => rfl
theorem sc_m_place : C8.scC mr_place.N mr_place.ps (defScope mr_place.st) = true := by decide +kernel
theorem bd_m_limit : BindOkM mr_limit := fun _ _ _ _ _ _ us hl => match us, hl with | [_], _ => rfl
theorem sc_m_limit : C8.scC mr_limit.N mr_limit.ps (defScope mr_limit.st) = true := by decide +kernel
theorem bd_m_seen : BindOkM mr_seen := fun _ _ _ _ _ _ us hl => match us, hl with | [_], _ => rfl
theorem sc_m_seen : C8.scC mr_seen.N mr_seen.ps (defScope mr_seen.st) = true := by decide +kernel
theorem bd_m_change : BindOkM mr_change := fun _ _ _ _ _ _ us hl => match us, hl with | [_, _], _ => rfl
theorem sc_m_change : C8.scC mr_change.N mr_change.ps (defScope mr_change.st) = true := by decide +kernel
theorem bd_m_go : BindOkM mr_go := fun _ _ _ _ _ _ us hl => match us, hl with | [_], _ => rfl
theorem sc_m_go : C8.scC mr_go.N mr_go.ps (defScope mr_go.st) = true := by decide +kernel
theorem bd_m_turn : BindOkM mr_turn := fun _ _ _ _ _ _ us hl => match us, hl with | [_, _], _ => rfl
theorem sc_m_turn : C8.scC mr_turn.N mr_turn.ps (defScope mr_turn.st) = true := by decide +kernel
theorem bd_m_undo : BindOkM mr_undo := fun _ _ _ _ _ _ us hl => match us, hl with | [_], _ => rfl
theorem sc_m_undo : C8.scC mr_undo.N mr_undo.ps (defScope mr_undo.st) = true := by decide +kernel
theorem bd_m_redo : BindOkM mr_redo := fun _ _ _ _ _ _ us hl => match us, hl with | [_], _ => rfl
theorem sc_m_redo : C8.scC mr_redo.N mr_redo.ps (defScope mr_redo.st) = true := by decide +kernel
theorem ck_rows : rows.all (ckRow (gcE cts exs exi)) = true := by
  simp only [rows, List.all_cons, List.all_nil, ck_is_int, ck_are_signs, ck_is_road, ck_is_net, ck_check_net, ck_check_road, ck_find_followers, ck_find_standing, ck_pieces, ck_go_over, ck__law_drawn, ck__law_net, ck__law_pieces, ck__law_next, ck__law_badnet, ck__law_due, Bool.and_self]
theorem bd_rows : AllBind rows := ⟨bd_is_int, bd_are_signs, bd_is_road, bd_is_net, bd_check_net, bd_check_road, bd_find_followers, bd_find_standing, bd_pieces, bd_go_over, bd__law_drawn, bd__law_net, bd__law_pieces, bd__law_next, bd__law_badnet, bd__law_due, trivial⟩
theorem rowsG_eq : rowsG rows [] = H_law := rfl
theorem sh_change : ShChange (defBody mr_change.st) := ⟨_, _, _, _, _, _, _, _, _, _, _, _, _, _, _, rfl, rfl⟩
theorem sh_undo : ShUndo (defBody mr_undo.st) := ⟨_, _, _, _, _, _, _, _, _, _, _, _, _, _, _, _, _, _, _, _, _, _, _, _, _, rfl, rfl, rfl⟩
theorem sh_redo : ShRedo (defBody mr_redo.st) := ⟨_, _, _, _, _, _, _, _, _, _, _, _, _, _, _, _, _, _, _, _, _, _, _, _, _, rfl, rfl, rfl⟩
theorem sh_init : ShInit mr___init__.N (defScope mr___init__.st) g1 init_e ((defBody mr___init__.st).drop 1) := ⟨_, _, _, _, _, _, _, _, _, _, _, _, _, _, _, _, rfl, by decide +kernel, rfl⟩
theorem sh_go : ShTail mr_go.N (defScope mr_go.st) g1 go_e ((defBody mr_go.st).drop 4) := ⟨_, _, _, _, _, _, _, rfl, by decide +kernel, rfl, rfl⟩
theorem sh_turn : ShTail mr_turn.N (defScope mr_turn.st) g1 turn_e ((defBody mr_turn.st).drop 5) := ⟨_, _, _, _, _, _, _, rfl, by decide +kernel, rfl, rfl⟩
theorem sh_told : ShTry r__law_told.N (defScope r__law_told.st) g1 told_h (defBody r__law_told.st) := ⟨_, _, _, _, _, _, rfl, ⟨_, _, _, _, _, _, _, _, _, _, _, _, _, _, _, _, _, _, _, _, _, _, _, _, _, _, _, _, _, _, _, _, rfl, by decide +kernel⟩, by decide +kernel⟩
end LS

set_option Elab.async false
set_option linter.all false
set_option maxRecDepth 100000
set_option maxHeartbeats 1000000
/-! K64o: undo, redo, a new trip, what told tells, what is due. -/
namespace LS
open PySem PySem.Spec PyProof.Rows L2
theorem plain_p (x : Sit) : plain x.p = true := by simp [Sit.p, plain, plains, plains_ints]
theorem plain_l (x : Sit) : plain x.l = true := by simp [Sit.l, plain, plains, plains_ints]
theorem plains_p : ∀ l : List Sit, plains (l.map Sit.p) = true
  | [] => rfl
  | x :: l => by simp [plains, plain_p, plains_p l]
theorem plains_l : ∀ l : List Sit, plains (l.map Sit.l) = true
  | [] => rfl
  | x :: l => by simp [plains, plain_l, plains_l l]
theorem eqOk_p (l : List Sit) : eqOk (.lst (l.map Sit.p)) (.lst []) = true := by simp [eqOk, plain, plains, plains_p, dep, deps]
theorem eqOk_l (l : List Sit) : eqOk (.lst (l.map Sit.l)) (.lst []) = true := by simp [eqOk, plain, plains, plains_l, dep, deps]
section
variable (n : Net) (x : Sit)
theorem undo_no (p : Addr) (un : List Sit) (hu : un.length ≤ 1000) : undoM p (trp n x [] un) [] = some (.exc "NothingToUndo", trp n x [] un) := by
  have hb : un.length < 16777216 := by omega
  have e := eqOk_p []
  simp only [List.map_nil] at e
  simp [undoM, trp, e, Nat.blt_eq, LINE, hb]
theorem undo_yes (p : Addr) (y : Sit) (dn un : List Sit) (hu : un.length ≤ 1000) : undoM p (trp n x (dn ++ [y]) un) [] = some (.ret .non, trp n y dn (un ++ [x])) := by
  have hb : un.length < 16777216 := by omega
  have e := eqOk_p (dn ++ [y])
  simp only [List.map_append, List.map_cons, List.map_nil] at e
  simp [undoM, trp, e, Nat.blt_eq, LINE, hb]
theorem redo_no (p : Addr) (dn : List Sit) (hu : dn.length ≤ 1000) : redoM p (trp n x dn []) [] = some (.exc "NothingToUndo", trp n x dn []) := by
  have hb : dn.length < 16777216 := by omega
  have e := eqOk_p []
  simp only [List.map_nil] at e
  simp [redoM, trp, e, Nat.blt_eq, LINE, hb]
theorem redo_yes (p : Addr) (y : Sit) (dn un : List Sit) (hu : dn.length ≤ 1000) : redoM p (trp n x dn (un ++ [y])) [] = some (.ret .non, trp n y (dn ++ [x]) un) := by
  have hb : dn.length < 16777216 := by omega
  have e := eqOk_p (un ++ [y])
  simp only [List.map_append, List.map_cons, List.map_nil] at e
  simp [redoM, trp, e, Nat.blt_eq, LINE, hb]
theorem ini_yes (h : n.Ok) (r : Int) (r0 : 0 ≤ r) (r1 : r < n.roads.length) (p : Addr) : iniM p n.d (.int r) = some (.inr (trp n ⟨r, 0, 0, [lim n r 0 0]⟩ [] [])) := by
  have e1 := pcs_at (n := n) (r := r) (s := 0) (k := 0) (by omega)
  unfold iniM initM
  simp [init_ss, init_e, ini0, sp_check_road n h r r0 r1, unb, unbS, sp_pieces n h r r0 r1, e1, cleanE, trp, Sit.p]
theorem ini_net (b d : D) (hb : e_check_net [b] = some (.exc "InvalidNet")) (p : Addr) : iniM p b d = some (.inl "InvalidNet") := by
  have e : e_check_road [b, d] = some (.exc "InvalidNet") := by simp [e_check_road, runDef, d_check_road, hb]
  unfold iniM initM
  simp [init_ss, ini0, e]
theorem ini_road (h : n.Ok) (d : D) (hd : e_is_int [d, .int 0, .int (n.roads.length - 1)] = some (.ret (.bl false))) (p : Addr) : iniM p n.d d = some (.inl "InvalidRoad") := by
  have hL : n.roads.length ≤ 16777216 := by have := h.l8; omega
  have e : e_check_road [n.d, d] = some (.exc "InvalidRoad") := by simp [e_check_road, runDef, d_check_road, sp_check_net n h, Net.d_ix3, hL, hd]
  unfold iniM initM
  simp [init_ss, ini0, e]
end
def rsd (k : Int) : D := .tup [.str "raised", .int k]
theorem tell_x {p : Addr} {w : Int} {t : Tr} {d1 d2 : D} : TellR H_law told_h exi p w t d1 d2 (.exc "InvalidNet") (rsd 0) ∧ TellR H_law told_h exi p w t d1 d2 (.exc "InvalidRoad") (rsd 1) ∧ TellR H_law told_h exi p w t d1 d2 (.exc "AtEnd") (rsd 2) ∧ TellR H_law told_h exi p w t d1 d2 (.exc "NotThere") (rsd 3) ∧ TellR H_law told_h exi p w t d1 d2 (.exc "NothingToUndo") (rsd 4) := by
  refine ⟨⟨by decide +kernel, by kernel_rfl, by kernel_rfl⟩, ⟨by decide +kernel, by kernel_rfl, by kernel_rfl⟩, ⟨by decide +kernel, by kernel_rfl, by kernel_rfl⟩, ⟨by decide +kernel, by kernel_rfl, by kernel_rfl⟩, ⟨by decide +kernel, by kernel_rfl, by kernel_rfl⟩⟩
section
variable {n : Net} (h : n.Ok) {x : Sit} {b : Nat} (v : x.V n b) (hb : b ≤ 1000)
include h v hb
theorem goOver_mul : goOver n x.s = x.s * n.keeps := by
  have := h.keeps
  unfold goOver
  rcases (show n.keeps = 0 ∨ n.keeps = 1 by omega) with e | e <;> simp [e]
theorem due_go_no (o : Int) (hk : x.k = (n.road x.r).g.length) : e__law_due [n.d, x.l, .int 0, .int o] = some (.ret (.tup [rsd 2, .non])) := by
  have hg := (h.roads _ (Net.road_mem v.r0 v.r1)).l
  have hL : (n.road x.r).g.length ≤ 16777216 := by omega
  simp [e__law_due, runDef, d__law_due, Sit.l, Net.d_ix3, Net.ix v.r0 v.r1, Road.d, hL, hk, rsd]
theorem due_go_yes (o : Int) (hk : x.k < (n.road x.r).g.length) : e__law_due [n.d, x.l, .int 0, .int o] = some (.ret (.tup [.int (lim n x.r x.s (x.k + 1)), (x.go n).l])) := by
  have hg := (h.roads _ (Net.road_mem v.r0 v.r1)).l
  have hL : (n.road x.r).g.length ≤ 16777216 := by omega
  have e1 := ix_map (pcs_at (n := n) (r := x.r) (s := x.s) (k := x.k + 1) (by omega))
  have e2 : ixAt ((n.road x.r).g.map D.int) (x.k : Int) = some (.int (((n.road x.r).g[x.k]?).getD 0)) := ix_map (by rw [List.getElem?_eq_getElem hk]; rfl)
  have e1' : ixAt ((pcs n x.r x.s).map D.int) ((x.k : Int) + 1) = some (.int (lim n x.r x.s (x.k + 1))) := by
    have : ((x.k + 1 : Nat) : Int) = (x.k : Int) + 1 := by omega
    rw [← this]; exact e1
  have hs := v.s2
  have hS : x.seen.length + 1 ≤ 16777216 := by omega
  have hc : ¬ (x.k : Int) = ((n.road x.r).g.length : Int) := by omega
  have hc2 : ¬ x.k = (n.road x.r).g.length := by omega
  simp [e__law_due, runDef, d__law_due, Sit.l, Sit.go, Net.d_ix3, Net.ix v.r0 v.r1, Road.d, hL, hc, hc2, sp_lpieces n h x.r v.r0 v.r1, e1', e2, hS, -ixAt_nat]
theorem due_big (o : Int) (ho : (n.roads.length : Int) ≤ o) : e__law_due [n.d, x.l, .int 1, .int o] = some (.ret (.tup [rsd 1, .non])) := by
  have hg := (h.roads _ (Net.road_mem v.r0 v.r1)).l
  have hL : (n.road x.r).g.length ≤ 16777216 := by omega
  have hR : n.roads.length ≤ 16777216 := by have := h.l8; omega
  simp [e__law_due, runDef, d__law_due, Sit.l, Net.d_ix3, Net.ix v.r0 v.r1, Road.d, hL, hR, ho, rsd]
theorem due_no (o : Int) (ho : o < n.roads.length) (hk : x.k < (n.road x.r).g.length ∨ o ∉ follow n x.r) : e__law_due [n.d, x.l, .int 1, .int o] = some (.ret (.tup [rsd 3, .non])) := by
  have hg := (h.roads _ (Net.road_mem v.r0 v.r1)).l
  have hL : (n.road x.r).g.length ≤ 16777216 := by omega
  have hR : n.roads.length ≤ 16777216 := by have := h.l8; omega
  have ho' : ¬ (n.roads.length : Int) ≤ o := by omega
  by_cases c : x.k < (n.road x.r).g.length
  · simp [e__law_due, runDef, d__law_due, Sit.l, Net.d_ix3, Net.ix v.r0 v.r1, Road.d, hL, hR, ho', c, rsd]
  · have c2 : o ∉ follow n x.r := by rcases hk with q | q; exact absurd q c; exact q
    simp [e__law_due, runDef, d__law_due, Sit.l, Net.d_ix3, Net.ix v.r0 v.r1, Road.d, hL, hR, ho', c, rsd, sp_next n h x.r v.r0 v.r1, cop_nin_ints, c2]
theorem due_yes (o : Int) (o0 : 0 ≤ o) (ho : o < n.roads.length) (hk : x.k = (n.road x.r).g.length) (hf : o ∈ follow n x.r) : e__law_due [n.d, x.l, .int 1, .int o] = some (.ret (.tup [.int (lim n o (goOver n x.s) 0), (x.turn n o).l])) := by
  have hg := (h.roads _ (Net.road_mem v.r0 v.r1)).l
  have hL : (n.road x.r).g.length ≤ 16777216 := by omega
  have hR : n.roads.length ≤ 16777216 := by have := h.l8; omega
  have ho' : ¬ (n.roads.length : Int) ≤ o := by omega
  have hs := v.s2
  have hS : x.seen.length + 1 ≤ 16777216 := by omega
  have e1 := pcs_at (n := n) (r := o) (s := x.s * n.keeps) (k := 0) (by omega)
  have km : mulOk x.s n.keeps = true := mulOk_sm (by have := h.keeps; omega) (by have := h.keeps; omega)
  rw [goOver_mul h v hb]
  simp [e__law_due, runDef, d__law_due, Sit.l, Sit.turn, goOver_mul h v hb, Net.d_ix3, Net.d_ix2, Net.ix v.r0 v.r1, Road.d, hL, hR, ho', hk, sp_next n h x.r v.r0 v.r1, cop_nin_ints, hf, km, sp_lpieces n h o o0 ho, e1, hS, -ixAt_nat]
end
end LS

set_option Elab.async false
set_option linter.all false
set_option maxRecDepth 100000
set_option maxHeartbeats 1000000
/-! K64p: a turn of the law's loop, the law's end. -/
namespace LS
open PySem PySem.Spec PyProof.Rows L2
def H_meth : Fns := ("Trip.__len__", runMt [] "Trip" nsT m___len__) :: ("Trip.place", runMt [] "Trip" nsT m_place) :: ("Trip.limit", runMt [] "Trip" nsT m_limit) :: ("Trip.seen", runMt [] "Trip" nsT m_seen) :: H_law
@[simp] theorem fm_drawn : LS.fnOf "_law_drawn" H_meth = some e__law_drawn := rfl
@[simp] theorem fm_net : LS.fnOf "_law_net" H_meth = some e__law_net := rfl
@[simp] theorem fm_pieces : LS.fnOf "_law_pieces" H_meth = some e__law_pieces := rfl
@[simp] theorem fm_next : LS.fnOf "_law_next" H_meth = some e__law_next := rfl
@[simp] theorem fm_badnet : LS.fnOf "_law_badnet" H_meth = some e__law_badnet := rfl
@[simp] theorem fm_due : LS.fnOf "_law_due" H_meth = some e__law_due := rfl
@[simp] theorem ixp3 (x : Sit) : ixD x.p (.int 3) = some (.tup (x.seen.map .int)) := rfl
@[simp] theorem slp (x : Sit) : slD x.p none (some 2) = cl (.tup [.int x.r, .int x.k]) := rfl
@[simp] theorem ixl0 (x : Sit) : ixD x.l (.int 0) = some (.int x.r) := rfl
@[simp] theorem ixl3 (x : Sit) : ixD x.l (.int 3) = some (.lst (x.seen.map .int)) := rfl
@[simp] theorem sll (x : Sit) : slD x.l none (some 2) = cl (.tup [.int x.r, .int x.k]) := rfl
@[simp] theorem isn_l (x : Sit) : cop .isn x.l .non = some true := rfl
theorem run_m {d : Def} {ds : List D} {v : D} (hp : d.np = 1) (h : evSs [] d.body (.bg none (.obj "Trip" nsT ds) :: List.replicate (d.nl - 1) .un) = some (.rt v)) {k : Str} {w : Option Nat} (hk : LS.fnOf k H_meth = some (runMt [] "Trip" nsT d)) : mclX H_meth "Trip" k (.bg w (.obj "Trip" ["net", "present"] ds)) = cl v := by
  have e : runMt [] "Trip" nsT d (.tup (nsT.map .str) :: ds) = some (.ret v) := by
    show (if strsD (nsT.map .str) = some nsT ∧ d.np = 1 then _ else none) = _
    rw [if_pos ⟨strsD_str nsT, hp⟩, h]
  have e2 : runMt [] "Trip" nsT d (.tup (List.map D.str ["net", "present"]) :: ds) = some (.ret v) := e
  unfold mclX
  dsimp only
  rw [if_pos rfl, hk]
  dsimp only
  rw [e2]
@[simp] theorem mc_place (w : Option Nat) (nd : D) (x : Sit) : mclX H_meth "Trip" "Trip.place" (.bg w (.obj "Trip" ["net", "present"] [nd, x.p])) = cl (.tup [.int x.r, .int x.k]) := run_m rfl (by simp [m_place, nsT]) rfl
@[simp] theorem mc_seen (w : Option Nat) (nd : D) (x : Sit) : mclX H_meth "Trip" "Trip.seen" (.bg w (.obj "Trip" ["net", "present"] [nd, x.p])) = cl (.lst (x.seen.map .int)) := run_m rfl (by simp [m_seen, nsT]) rfl
theorem mc_limit (w : Option Nat) (nd : D) (x : Sit) (l : List Int) (z : Int) (e : x.seen = l ++ [z]) : mclX H_meth "Trip" "Trip.limit" (.bg w (.obj "Trip" ["net", "present"] [nd, x.p])) = cl (.int z) := run_m rfl (by
  have e2 : ixAt (x.seen.map D.int) (-1) = some (.int z) := by rw [e, List.map_append]; exact ixAt_last _ _
  simp [m_limit, nsT, e2]) rfl
theorem mc_len (w : Option Nat) (nd : D) (x : Sit) (h : x.seen.length ≤ 1000) : mclX H_meth "Trip" "Trip.__len__" (.bg w (.obj "Trip" ["net", "present"] [nd, x.p])) = cl (.int x.seen.length) := run_m rfl (by
  have hL : x.seen.length ≤ 16777216 := by omega
  simp [m___len__, nsT, hL]) rfl
theorem oln_int (k : Nat) (h : k ≤ 1000) : olnX (some (.v .cl (.int k))) = some (.v .cl (.int k)) := by
  show (if decide ((0 : Int) ≤ k) && decide ((k : Int) < 1000000) then cl (.int k) else none) = _
  rw [decide_eq_true (by omega), decide_eq_true (by omega)]
  rfl
theorem cop_pair (a b : Int) : cop .ne (.tup [.int a, .int b]) (.tup [.int a, .int b]) = some false := cop_ne_self (by simp [plain, plains]) (by simp [dep, deps])
theorem cop_int (a : Int) : cop .ne (.int a) (.int a) = some false := cop_ne_self rfl (by simp [dep])
theorem cop_pairE (a b : Int) : cop .eq (.tup [.int a, .int b]) (.tup [.int a, .int b]) = some true := cop_eq_self (by simp [plain, plains]) (by simp [dep, deps])
theorem cop_listE (l : List Int) : cop .eq (.lst (l.map .int)) (.lst (l.map .int)) = some true := cop_eq_self (by simp [plain, plains_ints]) (by simp [dep, deps_ints])
theorem last_ok {n : Net} {x : Sit} {b : Nat} (v : x.V n b) (hb : b ≤ 1000) (ns : List Int) (p : Addr) (ds us : List Sit) (dn un : List D) : evSs H_meth lp_1 (eH ns n.d p (trp n x ds us).ob x.l dn un) = some (.nx (eH ns n.d p (trp n x ds us).ob x.l dn un)) := by
  have h1 := v.s1
  have h2 := v.s2
  obtain ⟨l, z, e⟩ : ∃ l z, x.seen = l ++ [z] := ⟨x.seen.dropLast, x.seen.getLast (by intro q; rw [q] at h1; simp at h1), (List.dropLast_concat_getLast _).symm⟩
  have e2 : ixAt (x.seen.map D.int) (-1) = some (.int z) := by rw [e, List.map_append]; exact ixAt_last _ _
  have hL : x.seen.length ≤ 16777216 := by omega
  have ho := oln_int x.seen.length (by omega)
  simp [lp_1, eL, trp, Tr.ob, cop_pair, mc_limit _ _ x l z e, mc_len _ _ x (by omega), e2, cop_int, ho, hL]
end LS

set_option Elab.async false
set_option linter.all false
set_option maxRecDepth 100000
set_option maxHeartbeats 1000000
/-! K64q: the law's turns keep what they should. -/
namespace LS
open PySem PySem.Spec PyProof.Rows L2
abbrev frM (ns : List Int) (n : Net) : Fr := ⟨ns, n.d, ToldR goM turnM undoM redoM iniM, TellR H_law told_h exi⟩
def GoodS (n : Net) (i : Nat) (t : Tr) (now : D) (dn un : List D) : Prop := ∃ (x : Sit) (ds us : List Sit), t = trp n x ds us ∧ now = x.l ∧ dn = ds.map Sit.l ∧ un = us.map Sit.l ∧ x.V n (i + 1) ∧ (∀ y ∈ ds, y.V n (i + 1)) ∧ (∀ y ∈ us, y.V n (i + 1)) ∧ ds.length ≤ i ∧ us.length ≤ i
theorem Sit.V.up {n : Net} {b c : Nat} {x : Sit} (v : x.V n b) (h : b ≤ c) : x.V n c := ⟨v.r0, v.r1, v.k1, v.s1, Nat.le_trans v.s2 h⟩
theorem V_go {n : Net} {b : Nat} {x : Sit} (v : x.V n b) (hk : x.k < (n.road x.r).g.length) : (x.go n).V n (b + 1) := ⟨v.r0, v.r1, hk, by simp [Sit.go], by have := v.s2; simp [Sit.go]; omega⟩
theorem V_turn {n : Net} {b : Nat} {x : Sit} (v : x.V n b) {o : Int} (o0 : 0 ≤ o) (o1 : o < n.roads.length) : (x.turn n o).V n (b + 1) := ⟨o0, o1, Nat.zero_le _, by simp [Sit.turn], by have := v.s2; simp [Sit.turn]; omega⟩
@[simp] theorem isn_non : cop .isn .non .non = some false := rfl
theorem cop_rsd (k : Int) : cop .ne (rsd k) (rsd k) = some false := cop_ne_self (by simp [rsd, plain, plains]; decide +kernel) (by simp [rsd, dep, deps])
theorem near_at {l : List Int} {u j : Int} (j0 : 0 ≤ j) (j1 : j < (l.length : Int) + 1) : ∃ o, ixAt (l.map D.int ++ [.int u]) j = some (.int o) ∧ (o ∈ l ∨ o = u) := by
  rw [ixAt_pos j0]
  by_cases h : j.toNat < l.length
  · refine ⟨l[j.toNat], ?_, .inl (List.getElem_mem _)⟩
    rw [List.getElem?_append_left (by simpa using h), List.getElem?_map, List.getElem?_eq_getElem h]
    rfl
  · refine ⟨u, ?_, .inr rfl⟩
    have e : j.toNat = l.length := by omega
    rw [List.getElem?_append_right (by simp; omega)]
    simp [e]
/-- a call of go or turn, as the law draws it -/
theorem move_ok {n : Net} (h : n.Ok) {x : Sit} {b : Nat} (v : x.V n b) (hb : b ≤ 1000) (ds us : List Sit) (hd : ds.length ≤ 1000) (p : Addr) (w o : Int) (hw : w = 0 ∨ w = 1) (o0 : 0 ≤ o) :
    ∃ r t' res due new, ToldR goM turnM undoM redoM iniM w p (trp n x ds us) (.int o) (.int 0) r t' ∧ TellR H_law told_h exi p w (trp n x ds us) (.int o) (.int 0) r res ∧ (∀ c, r = .exc c → t' = trp n x ds us) ∧ cop .ne res due = some false ∧ e__law_due [n.d, x.l, .int w, .int o] = some (.ret (.tup [due, new])) ∧
      ((new = .non ∧ t' = trp n x ds us) ∨ ∃ y : Sit, y.V n (b + 1) ∧ new = y.l ∧ t' = trp n y (ds ++ [x]) []) := by
  obtain ⟨_, tx1, tx2, tx3, _⟩ := tell_x (p := p) (w := w) (t := trp n x ds us) (d1 := .int o) (d2 := .int 0)
  have hR : n.roads.length ≤ 16777216 := by have := h.l8; omega
  rcases hw with rfl | rfl
  · by_cases hk : x.k < (n.road x.r).g.length
    · exact ⟨_, _, _, _, _, .inl ⟨rfl, go_yes h v hb p ds us hk hd⟩, rfl, fun c e => (nomatch e), cop_int _, due_go_yes h v hb o hk, .inr ⟨x.go n, V_go v hk, rfl, rfl⟩⟩
    · have hk' : x.k = (n.road x.r).g.length := by have := v.k1; omega
      exact ⟨_, _, _, _, _, .inl ⟨rfl, go_no h v hb p ds us hk'⟩, tx2, fun c e => rfl, cop_rsd 2, due_go_no h v hb o hk', .inl ⟨rfl, rfl⟩⟩
  · by_cases ho : (n.roads.length : Int) ≤ o
    · refine ⟨_, _, _, _, _, .inr (.inl ⟨rfl, turn_bad h v hb p ds us (.int o) ?_⟩), tx1, fun c e => rfl, cop_rsd 1, due_big h v hb o ho, .inl ⟨rfl, rfl⟩⟩
      rw [sp_is_int]
      rw [decide_eq_false (show ¬ o ≤ (n.roads.length : Int) - 1 by omega), Bool.and_false]
    · have ho' : o < n.roads.length := by omega
      by_cases hk : x.k < (n.road x.r).g.length ∨ o ∉ follow n x.r
      · exact ⟨_, _, _, _, _, .inr (.inl ⟨rfl, turn_no h v hb p ds us o o0 ho' hk⟩), tx3, fun c e => rfl, cop_rsd 3, due_no h v hb o ho' hk, .inl ⟨rfl, rfl⟩⟩
      · have h1 : ¬ x.k < (n.road x.r).g.length := fun z => hk (.inl z)
        have h2 : o ∈ follow n x.r := by
          by_cases z : o ∈ follow n x.r
          · exact z
          · exact absurd (.inr z) hk
        have hk' : x.k = (n.road x.r).g.length := by have := v.k1; omega
        exact ⟨_, _, _, _, _, .inr (.inl ⟨rfl, turn_yes h v hb p ds us o o0 ho' hk' h2 hd⟩), rfl, fun c e => (nomatch e), cop_int _, due_yes h v hb o o0 ho' hk' h2, .inr ⟨x.turn n o, V_turn v o0 ho', rfl, rfl⟩⟩
theorem snoc_of {α : Type} (l : List α) : l = [] ∨ ∃ m y, l = m ++ [y] := by
  by_cases h : l = []
  · exact .inl h
  · exact .inr ⟨l.dropLast, l.getLast h, (List.dropLast_concat_getLast h).symm⟩
theorem step_ok {ns : List Int} (hs : ns.length ≤ 63) {n : Net} (h : n.Ok) {i : Nat} (hi : i ≤ 30) {t : Tr} {now : D} {dn un : List D} (g : GoodS n i t now dn un) (p : Addr) : StepOk H_meth (frM ns n) (i : Int) p t now dn un (GoodS n (i + 1)) := by
  obtain ⟨x, ds, us, rfl, rfl, rfl, rfl, v, vd, vu, ld, lu⟩ := g
  obtain ⟨a, p1, a0, a1⟩ := sp_drawn ns hs (60 + 3 * (i : Int)) 7 (by omega) (by omega) (by omega)
  obtain ⟨w, hw, hwc⟩ : ∃ w : Int, ixAt [D.int 0, .int 0, .int 1, .int 1, .int 1, .int 2, .int 3] a = some (.int w) ∧ ((w = 0 ∨ w = 1) ∨ w = 2 ∨ w = 3) := by
    rcases (show a = 0 ∨ a = 1 ∨ a = 2 ∨ a = 3 ∨ a = 4 ∨ a = 5 ∨ a = 6 by omega) with e | e | e | e | e | e | e <;> subst e
    · exact ⟨0, rfl, .inl (.inl rfl)⟩
    · exact ⟨0, rfl, .inl (.inl rfl)⟩
    · exact ⟨1, rfl, .inl (.inr rfl)⟩
    · exact ⟨1, rfl, .inl (.inr rfl)⟩
    · exact ⟨1, rfl, .inl (.inr rfl)⟩
    · exact ⟨2, rfl, .inr (.inl rfl)⟩
    · exact ⟨3, rfl, .inr (.inr rfl)⟩
  have m3 : mulOk 3 (i : Int) = true := mulOk_sm (by omega) (by omega)
  have last : ∀ {y : Sit} {ds' us' : List Sit}, y.V n (i + 2) → (∀ z ∈ ds', z.V n (i + 1)) → (∀ z ∈ us', z.V n (i + 1)) → ds'.length ≤ i + 1 → us'.length ≤ i + 1 → Last H_meth (frM ns n) p (GoodS n (i + 1)) (trp n y ds' us') y.l (ds'.map Sit.l) (us'.map Sit.l) := fun {y ds' us'} vy vd' vu' h1 h2 =>
    ⟨last_ok vy (by omega) ns p ds' us' _ _, y, ds', us', rfl, rfl, rfl, rfl, vy, fun z hz => (vd' z hz).up (by omega), fun z hz => (vu' z hz).up (by omega), h1, h2⟩
  refine ⟨60 + 3 * (i : Int), w, by simp [lp_0, eL, m3, p1, hw], ?_⟩
  rcases hwc with hw01 | rfl | rfl
  · refine .inl ⟨by rcases hw01 with rfl | rfl <;> decide, ?_⟩
    obtain ⟨u, p2, u0, u1⟩ := sp_drawn ns hs (60 + 3 * (i : Int) + 1) 6 (by omega) (by omega) (by omega)
    have hfl := follow_len n x.r
    have h8 := h.l8
    obtain ⟨j, p3, j0, j1⟩ := sp_drawn ns hs (60 + 3 * (i : Int) + 2) ((follow n x.r).length + 1) (by omega) (by omega) (by omega)
    obtain ⟨o, ho, hoc⟩ := near_at (l := follow n x.r) (u := u) j0 j1
    have o0 : 0 ≤ o := by
      rcases hoc with q | q
      · exact (follow_mem q).1
      · omega
    obtain ⟨r, t', res, due, new, hR, hT, hx, hc, hdue, hend⟩ := move_ok h v (by omega) ds us (by omega) p w o hw01 o0
    have hF : (follow n x.r).length + 1 ≤ 16777216 := by omega
    have hdl : ds.length < 16777216 := by omega
    have e0 : evSs H_meth th_0 (eL ns n.d p (trp n x ds us).ob x.l (.ow (.lst (ds.map Sit.l))) (.ow (.lst (us.map Sit.l))) (.fz (.int i)) (.fz (.int (60 + 3 * (i : Int)))) (.fz (.int w)) .un .un .un .un .un .un) =
        some (.nx (eL ns n.d p (trp n x ds us).ob x.l (.ow (.lst (ds.map Sit.l))) (.ow (.lst (us.map Sit.l))) (.fz (.int i)) (.fz (.int (60 + 3 * (i : Int)))) (.fz (.int w)) (.fz (.lst ((follow n x.r).map .int ++ [.int u]))) (.fz (.int o)) (.fz due) (.fz new) .un .un)) := by
      simp [th_0, eL, sp_next n h x.r v.r0 v.r1, p2, p3, ho, hF, hdue]
    rcases hend with ⟨rfl, rfl⟩ | ⟨y, vy, rfl, rfl⟩
    · refine ⟨_, _, _, _, r, _, res, x.l, ds.map Sit.l, us.map Sit.l, e0, hR, hT, hx, hc, by simp [th_2, eL], last (v.up (by omega)) vd vu (by omega) (by omega)⟩
    · refine ⟨_, _, _, _, r, _, res, y.l, (ds ++ [x]).map Sit.l, ([] : List Sit).map Sit.l, e0, hR, hT, hx, hc, by simp [th_2, eL, hdl, Nat.blt_eq, LINE], last vy (fun z hz => ?_) (fun z hz => by cases hz) (by simp; omega) (by simp)⟩
      rcases List.mem_append.mp hz with q | q
      · exact vd z q
      · have e : z = x := by simpa using q
        rw [e]; exact v
  · obtain ⟨_, _, _, _, tx4⟩ := tell_x (p := p) (w := 2) (t := trp n x ds us) (d1 := .int 0) (d2 := .int 0)
    refine .inr (.inl ⟨rfl, ?_⟩)
    rcases snoc_of ds with rfl | ⟨ds', y, rfl⟩
    · refine ⟨_, _, _, .inr (.inr (.inl ⟨rfl, undo_no n x p us (by omega)⟩)), tx4, fun c e => rfl, eqOk_l [], ?_, by simp; omega, .inl ⟨rfl, last (v.up (by omega)) vd vu (by omega) (by omega)⟩⟩
      rw [List.map_nil, if_pos rfl]; exact cop_rsd 4
    · refine ⟨_, _, _, .inr (.inr (.inl ⟨rfl, undo_yes n x p y ds' us (by omega)⟩)), rfl, fun c e => (nomatch e), eqOk_l _, ?_, by simp; omega, .inr ⟨y.l, by simp, ?_⟩⟩
      · rw [if_neg (by simp)]; rfl
      · have := last (y := y) (ds' := ds') (us' := us ++ [x]) ((vd y (by simp)).up (by omega)) (fun z hz => vd z (by simp [hz])) (fun z hz => by
          rcases List.mem_append.mp hz with q | q
          · exact vu z q
          · have e : z = x := by simpa using q
            rw [e]; exact v) (by simp at ld; omega) (by simp; omega)
        simpa using this
  · obtain ⟨_, _, _, _, tx4⟩ := tell_x (p := p) (w := 3) (t := trp n x ds us) (d1 := .int 0) (d2 := .int 0)
    refine .inr (.inr ⟨rfl, ?_⟩)
    rcases snoc_of us with rfl | ⟨us', y, rfl⟩
    · refine ⟨_, _, _, .inr (.inr (.inr (.inl ⟨rfl, redo_no n x p ds (by omega)⟩))), tx4, fun c e => rfl, eqOk_l [], ?_, by simp; omega, .inl ⟨rfl, last (v.up (by omega)) vd vu (by omega) (by omega)⟩⟩
      rw [List.map_nil, if_pos rfl]; exact cop_rsd 4
    · refine ⟨_, _, _, .inr (.inr (.inr (.inl ⟨rfl, redo_yes n x p y ds us' (by omega)⟩))), rfl, fun c e => (nomatch e), eqOk_l _, ?_, by simp; omega, .inr ⟨y.l, by simp, ?_⟩⟩
      · rw [if_neg (by simp)]; rfl
      · have := last (y := y) (ds' := ds ++ [x]) (us' := us') ((vu y (by simp)).up (by omega)) (fun z hz => by
          rcases List.mem_append.mp hz with q | q
          · exact vd z q
          · have e : z = x := by simpa using q
            rw [e]; exact v) (fun z hz => vu z (by simp [hz])) (by simp; omega) (by simp at lu; omega)
        simpa using this
theorem end_ok {ns : List Int} (hs : ns.length ≤ 63) {n : Net} (h : n.Ok) {i : Nat} (hi : i ≤ 30) {t : Tr} {now : D} {dn un : List D} (g : GoodS n i t now dn un) (p : Addr) : EndOk H_meth (frM ns n) p t now dn un := by
  obtain ⟨x, ds, us, rfl, rfl, rfl, rfl, v, vd, vu, ld, lu⟩ := g
  obtain ⟨a, p1, a0, a1⟩ := sp_drawn ns hs 2 5 (by omega) (by omega) (by omega)
  obtain ⟨bn, pb, hbn⟩ := sp_badnet ns hs 3 (by omega) (by omega)
  have hR : n.roads.length ≤ 16777216 := by have := h.l8; omega
  obtain ⟨bad, hbad, hno⟩ : ∃ bad, ixAt [D.non, .int (-1), .int n.roads.length, .bl true, .str "0"] a = some bad ∧ e_is_int [bad, .int 0, .int (n.roads.length - 1)] = some (.ret (.bl false)) := by
    rcases (show a = 0 ∨ a = 1 ∨ a = 2 ∨ a = 3 ∨ a = 4 by omega) with e | e | e | e | e <;> subst e
    · exact ⟨.non, rfl, by simp [e_is_int, runDef, d_is_int, isiD]⟩
    · refine ⟨.int (-1), rfl, ?_⟩
      rw [sp_is_int]
      rfl
    · refine ⟨.int n.roads.length, rfl, ?_⟩
      rw [sp_is_int, decide_eq_false (show ¬ (n.roads.length : Int) ≤ (n.roads.length : Int) - 1 by omega), Bool.and_false]
    · exact ⟨.bl true, rfl, by simp [e_is_int, runDef, d_is_int, isiD]⟩
    · exact ⟨.str "0", rfl, by simp [e_is_int, runDef, d_is_int, isiD]⟩
  obtain ⟨_, tx1, _⟩ := tell_x (p := p) (w := 1) (t := trp n x ds us) (d1 := bad) (d2 := .int 0)
  obtain ⟨tx0, _⟩ := tell_x (p := p) (w := 4) (t := trp n x ds us) (d1 := bn) (d2 := bad)
  obtain ⟨_, tx1', _⟩ := tell_x (p := p) (w := 4) (t := trp n x ds us) (d1 := n.d) (d2 := bad)
  refine ⟨bad, bn, _, rsd 1, _, rsd 0, _, rsd 1, ?_, ?_, .inr (.inl ⟨rfl, turn_bad h v (by omega) p ds us bad hno⟩), tx1, .inr (.inr (.inr (.inr ⟨rfl, _, rfl, rfl, ini_net bn bad (bads_no bn hbn)⟩))), tx0,
    .inr (.inr (.inr (.inr ⟨rfl, _, rfl, rfl, ini_road n h bad hno⟩))), tx1', ?_⟩
  · simp [law_1, eL, p1, Net.d_ix3, hR, hbad]
  · simp [tl_2, eL, pb]
  · have e : cop .ne (.lst [rsd 1, rsd 0, rsd 1]) (.lst [.tup [.str "raised", .int 1], .tup [.str "raised", .int 0], .tup [.str "raised", .int 1]]) = some false := cop_ne_self (by simp [rsd, plain, plains]; decide +kernel) (by simp [rsd, dep, deps])
    simp [law_2, eL, e, trp, Tr.ob, cop_pairE, cop_listE]
theorem law_okM {ns : List Int} (hs : ns.length ≤ 63) : ∃ n : Net, LawOk H_meth (frM ns n) iniM := by
  obtain ⟨n, h, hl, hn⟩ := sp_net ns hs 10 5 (by omega) (by omega) (by omega) (by omega)
  have h1 := h.l1
  obtain ⟨r, p1, r0, r1⟩ := sp_drawn ns hs 1 n.roads.length (by omega) (by omega) (by omega)
  obtain ⟨m, p2, m0, m1⟩ := sp_drawn ns hs 0 14 (by omega) (by omega) (by omega)
  have hR : n.roads.length ≤ 16777216 := by omega
  have e1 := pcs_at (n := n) (r := r) (s := 0) (k := 0) (by omega)
  refine ⟨n, ⟨.int r, Sit.l ⟨r, 0, 0, [lim n r 0 0]⟩, trp n ⟨r, 0, 0, [lim n r 0 0]⟩ [] [], 8 + m, GoodS n, ?_, fun p => ini_yes n h r r0 r1 p, ⟨.cl, by decide, ?_⟩, fun p o => ?_, ?_, fun i p t now dn un hi g => step_ok hs h (by omega) g p, fun p t now dn un g => end_ok hs h (by omega) g p⟩⟩
  · simp [law_0, LS.e0, LS.e1, hn, p1, Net.d_ix3, hR]
  · simp [law_now, LS.e1, sp_lpieces n h r r0 r1, e1, Sit.l]
  · simp [law_it, e2, p2, rangeOk_of (show -1000000 ≤ 8 + m by omega) (show 8 + m ≤ 1000000 by omega)]
  · exact ⟨⟨r, 0, 0, [lim n r 0 0]⟩, [], [], rfl, rfl, rfl, rfl, ⟨r0, r1, Nat.zero_le _, by simp, by simp⟩, (fun y hy => by cases hy), (fun y hy => by cases hy), by simp, by simp⟩
end LS

set_option Elab.async false
set_option linter.all false
set_option maxRecDepth 100000
set_option maxHeartbeats 0
namespace LS
open PySem PySem.Spec PyProof.Rows L2
theorem len_spM {K : PySem.W.Frag} {mg : Str → Option Value} {M : Addr → Tr → List D → Option (Rr × Tr)} {k : Nat} (h : ∀ p t ds r, M p t ds = some r → ds.length = k) : ∀ vs H Q E, spM K mg M vs H Q E → vs.length = k + 1 := fun vs H Q E ⟨F, p, pd, pu, ws, t, ds, r, e, _, _, rs, hM, _⟩ => by
  rw [e, List.length_cons, rs.length, h p t ds r hM]
theorem len_change : ∀ p t ds r, changeM p t ds = some r → ds.length = 1 := fun p t ds r h => by
  unfold changeM at h
  split at h
  · rfl
  · cases h
theorem len_undo : ∀ p t ds r, undoM p t ds = some r → ds.length = 0 := fun p t ds r h => by
  unfold undoM at h
  split at h
  · rfl
  · cases h
theorem len_redo : ∀ p t ds r, redoM p t ds = some r → ds.length = 0 := fun p t ds r h => by
  unfold redoM at h
  split at h
  · rfl
  · cases h
def spLaw64 (K : PySem.W.Frag) : Sp := fun vs H Q _ => ∃ (a : Addr) (ns : List Int), vs = [.ref a] ∧ ns.length ≤ 63 ∧ SqL K H a (ns.map V.int) ∧ ∀ H', Q (.bl true) H'
theorem v_change_self : visB (defScope mr_change.st) "self" = true := by decide +kernel
theorem v_change_state : visB (defScope mr_change.st) "state" = true := by decide +kernel
theorem v_undo_self : visB (defScope mr_undo.st) "self" = true := by decide +kernel
theorem v_redo_self : visB (defScope mr_redo.st) "self" = true := by decide +kernel
theorem v_go_self : visB (defScope mr_go.st) "self" = true := by decide +kernel
theorem v_go_limit : visB (defScope mr_go.st) "limit" = true := by decide +kernel
theorem v_turn_self : visB (defScope mr_turn.st) "self" = true := by decide +kernel
theorem v_turn_limit : visB (defScope mr_turn.st) "limit" = true := by decide +kernel
theorem v___init___self : visB (defScope mr___init__.st) "self" = true := by decide +kernel
theorem v___init___net : visB (defScope mr___init__.st) "net" = true := by decide +kernel
theorem v_told : visB (defScope r__law_told.st) "_law_trip" = true := by decide +kernel
theorem v_law_law_trip : visB (defScope r_law.st) "_law_trip" = true := by decide +kernel
theorem v_law_law_done : visB (defScope r_law.st) "_law_done" = true := by decide +kernel
theorem v_law_law_undone : visB (defScope r_law.st) "_law_undone" = true := by decide +kernel
theorem v_law_law_used : visB (defScope r_law.st) "_law_used" = true := by decide +kernel
theorem v_law_law_kept : visB (defScope r_law.st) "_law_kept" = true := by decide +kernel
theorem v_law_law_told_here : visB (defScope r_law.st) "_law_told_here" = true := by decide +kernel
theorem g_undo : glB (defScope mr_undo.st) "NothingToUndo" = true := by decide +kernel
theorem g_redo : glB (defScope mr_redo.st) "NothingToUndo" = true := by decide +kernel
theorem g_told_len : glB (defScope r__law_told.st) "len" = true := by decide +kernel
theorem g_told_Trip : glB (defScope r__law_told.st) "Trip" = true := by decide +kernel
theorem g_told_LimitError : glB (defScope r__law_told.st) "LimitError" = true := by decide +kernel
theorem g_law__law_told : glB (defScope r_law.st) "_law_told" = true := by decide +kernel
theorem g_law_Trip : glB (defScope r_law.st) "Trip" = true := by decide +kernel
theorem ck_go : ckSs mr_go.N go_ss g1 (defScope mr_go.st) ((defBody mr_go.st).take 4) = true := by decide +kernel
theorem ck_turn : ckSs mr_turn.N turn_ss g1 (defScope mr_turn.st) ((defBody mr_turn.st).take 5) = true := by decide +kernel
theorem ck_init : ckSs mr___init__.N init_ss g1 (defScope mr___init__.st) ((defBody mr___init__.st).take 1) = true := by decide +kernel
theorem ck_m___len__ : ckSs mr___len__.N m___len__.body g1 (defScope mr___len__.st) (defBody mr___len__.st) = true := by decide +kernel
theorem ck_m_place : ckSs mr_place.N m_place.body g1 (defScope mr_place.st) (defBody mr_place.st) = true := by decide +kernel
theorem ck_m_limit : ckSs mr_limit.N m_limit.body g1 (defScope mr_limit.st) (defBody mr_limit.st) = true := by decide +kernel
theorem ck_m_seen : ckSs mr_seen.N m_seen.body g1 (defScope mr_seen.st) (defBody mr_seen.st) = true := by decide +kernel
theorem sc_told : C8.scC r__law_told.N r__law_told.ps (defScope r__law_told.st) = true := by decide +kernel
theorem sc_law : C8.scC r_law.N r_law.ps (defScope r_law.st) = true := by decide +kernel
theorem e_told : (defScope r__law_told.st).names.lookup ("e" : Str) = some .local := by decide +kernel
theorem sh_law : ShLaw r_law.N (defScope r_law.st) g2 (defBody r_law.st) := ⟨_, _, _, _, _, _, _, _, _, _, _, _, _, _, _, _, _, _, _, _, _, _, _, _, _, _, _, _, _, _, _, _, _, rfl, rfl, by decide +kernel, by decide +kernel, by decide +kernel, ⟨_, _, _, _, _, _, rfl, by decide +kernel, by decide +kernel, by decide +kernel, ⟨_, rfl, by decide +kernel⟩, ⟨_, _, _, _, _, _, _, _, _, _, _, _, rfl, by decide +kernel⟩, ⟨_, _, _, _, _, _, _, _, _, _, _, _, _, _, _, _, _, _, _, _, _, _, _, _, _, _, _, _, ⟨0, 0, 0, 0⟩, rfl, ⟨_, _, _, _, _, _, _, _, _, _, _, _, rfl, by decide +kernel⟩, by decide +kernel⟩, by decide +kernel⟩, ⟨_, _, _, _, _, _, rfl, by decide +kernel⟩, ⟨_, _, _, _, _, _, rfl, by decide +kernel⟩, ⟨_, _, _, _, _, _, rfl, by decide +kernel⟩, by decide +kernel⟩
end LS

set_option Elab.async false
set_option linter.all false
set_option maxRecDepth 100000
set_option maxHeartbeats 0
/-! K64f: from the head's facts to the law's promise. -/
namespace LS
open PySem PySem.Spec PyProof.Rows L2
theorem fn_meth {x : Str} {g : List D → Option Rr} (hx : g2.mkk x = false) (h : LS.fnOf x H_meth = some g) : LS.fnOf x H_law = some g := by
  have h' : (if ("Trip.__len__" : Str) = x then some (runMt [] "Trip" nsT m___len__) else if ("Trip.place" : Str) = x then some (runMt [] "Trip" nsT m_place) else if ("Trip.limit" : Str) = x then some (runMt [] "Trip" nsT m_limit) else if ("Trip.seen" : Str) = x then some (runMt [] "Trip" nsT m_seen) else LS.fnOf x H_law) = some g := h
  have hk : (("Trip.__len__" == x) || (("Trip.place" == x) || (("Trip.limit" == x) || (("Trip.seen" == x) || false)))) = false := hx
  simp only [Bool.or_false, Bool.or_eq_false_iff, beq_eq_false_iff_ne] at hk
  obtain ⟨a, b, c, d⟩ := hk
  rwa [if_neg a, if_neg b, if_neg c, if_neg d] at h'
section
variable {K : PySem.W.Frag} {mg : Str → Option Value} {P : Program} {w : World} {base : Heap}
theorem cls_1 {lv : Nat} (tc : TCls K mg) (T : TabOk P w K mg base (rowsL rows) H_law) (hlv : rowsL rows ≤ lv) : ClsOk P w K mg base lv H_law g1 where
  fn := fun x g _ hg => by
    obtain ⟨f, fd, ps, k, a1, a2, a3, a4, a5⟩ := T x g hg
    exact ⟨f, fd, ps, k, a1, a2, a3, Nat.le_trans a4 hlv, a5⟩
  mn := fun x h => nomatch h
  cl := fun c fs h => by
    obtain ⟨C, hC⟩ := tc.ex
    have h' : (match (c == ("Trip" : Str)) with | true => some nsT | false => none) = some fs := h
    cases hb : (c == ("Trip" : Str)) with
    | false => rw [hb] at h'; cases h'
    | true =>
      rw [hb] at h'
      cases h'
      have e : c = "Trip" := beq_iff_eq.mp hb
      subst e
      refine ⟨C, hC, tc.cls C hC, fun n hn => ?_⟩
      have hn' : (n == ("net" : Str) || (n == ("present" : Str) || false)) = true := by simpa [nsT] using hn
      simp only [Bool.or_false, Bool.or_eq_true, beq_iff_eq] at hn'
      rcases hn' with rfl | rfl
      · exact tc.n0 C hC
      · exact tc.n1 C hC
  mt := fun k c m h => by cases h
variable {h : Heap}
theorem ft_of (c : He.SaysD fa fn K) {g : He.Fa} (hg : g ∈ faT) : g.ok K = true := fact_mem c (List.mem_append_right _ hg)
theorem fl_of (c : He.SaysD fa fn K) {g : He.Fa} (hg : g ∈ faL rows r_law cts exs) : g.ok K = true := fact_mem c (List.mem_append_left _ hg)
theorem trip_of (X : K.In h) (Gm : h.Ns mainGlobals mg) (c : He.SaysD fa fn K) : mg "Trip" = some (.ref (He.ga K "Trip")) := He.glo_ok X Gm (ft_of c (g := .glo "Trip") (by simp [faT]))
theorem tc_of (X : K.In h) (Gm : h.Ns mainGlobals mg) (c : He.SaysD fa fn K) : TCls K mg where
  ex := ⟨_, trip_of X Gm c⟩
  cls := fun C hC => by cases (trip_of X Gm c).symm.trans hC; exact He.cls_ok (ft_of c (g := .cls "Trip") (by simp [faT]))
  n0 := fun C hC => by cases (trip_of X Gm c).symm.trans hC; exact He.noat_ok (ft_of c (g := .noat "Trip" "net") (by simp [faT]))
  n1 := fun C hC => by cases (trip_of X Gm c).symm.trans hC; exact He.noat_ok (ft_of c (g := .noat "Trip" "present") (by simp [faT]))
  n2 := fun C hC => by cases (trip_of X Gm c).symm.trans hC; exact He.noat_ok (ft_of c (g := .noat "Trip" "done") (by simp [faT]))
  n3 := fun C hC => by cases (trip_of X Gm c).symm.trans hC; exact He.noat_ok (ft_of c (g := .noat "Trip" "undone") (by simp [faT]))
theorem mm_of (X : K.In h) (Gm : h.Ns mainGlobals mg) (c : He.SaysD fa fn K) {m : Str} (hm : He.Fa.meth "Trip" m ∈ faT) : ∀ C, mg "Trip" = some (.ref C) → Meth K C m (He.ma K (He.ga K "Trip") m) := fun C hC => by
  cases (trip_of X Gm c).symm.trans hC
  exact He.meth_ok (ft_of c hm)
theorem fd_of (c : He.SaysD fa fn K) {r : MRow} (hr : r ∈ mrows) : ∃ fd, FunD K r.m r.q (defArgs r.st) (defBody r.st) (defScope r.st) [] [] (He.ma K (He.ga K "Trip") r.m) fd := def_mem c (d := r.defD) (List.mem_append_right _ (List.mem_cons_of_mem _ (List.mem_map_of_mem hr)))
def LV : Nat := rowsL rows
theorem hu_of {A : Around} {env : Env} {lv : Nat} (hr : Room lv (A.deeper env)) : (A.deeper env).units + 65 < cLine := by have := hr.un; omega
/-- a method at hand, at a level -/
def MF (P : Program) (w : World) (K : PySem.W.Frag) (mg : Str → Option Value) (base : Heap) (lv : Nat) (m : Str) (sp : Sp) : Prop := ∃ fd ps, Binds K fd ps [] ∧ FnOk P w K mg base (L2.CX P w) lv (He.ma K (He.ga K "Trip") m) fd ps sp
theorem change_fn (tc : TCls K mg) (c : He.SaysD fa fn K) : MF P w K mg base 1 "change" (spM K mg changeM) := by
  obtain ⟨fd, F⟩ := fd_of c (r := mr_change) (by simp [mrows])
  refine ⟨fd, _, F.bindsN bd_m_change, mth_fn F (C8.fnScope_by sc_m_change) (len_spM len_change) fun cdv A outer s H Ex hr => ?_⟩
  obtain ⟨T, h1, h2⟩ := change_body (X := cxOf (L2.CX P w) P w K mg base mr_change.N mr_change.q (defScope mr_change.st) _ cdv A outer s H Ex) ⟨rfl, v_change_self, rfl⟩ ⟨rfl, v_change_state, rfl⟩ sh_change tc rfl
  exact ⟨T, h1, fun vs H' Q q => h2 vs H' Q Ex q⟩
theorem undo_fn (M : ModOk cts exs exi K mg) (tc : TCls K mg) (c : He.SaysD fa fn K) : MF P w K mg base 1 "undo" (spM K mg undoM) := by
  obtain ⟨fd, F⟩ := fd_of c (r := mr_undo) (by simp [mrows])
  refine ⟨fd, _, F.bindsN bd_m_undo, mth_fn F (C8.fnScope_by sc_m_undo) (len_spM len_undo) fun cdv A outer s H Ex hr => ?_⟩
  exact undo_body (X := cxOf (L2.CX P w) P w K mg base mr_undo.N mr_undo.q (defScope mr_undo.st) _ cdv A outer s H Ex) (takes_of rfl rfl rfl rfl) rfl (hu_of hr) (M.ex _ (by decide)) g_undo ⟨rfl, v_undo_self, rfl⟩ sh_undo tc rfl
theorem redo_fn (M : ModOk cts exs exi K mg) (tc : TCls K mg) (c : He.SaysD fa fn K) : MF P w K mg base 1 "redo" (spM K mg redoM) := by
  obtain ⟨fd, F⟩ := fd_of c (r := mr_redo) (by simp [mrows])
  refine ⟨fd, _, F.bindsN bd_m_redo, mth_fn F (C8.fnScope_by sc_m_redo) (len_spM len_redo) fun cdv A outer s H Ex hr => ?_⟩
  exact redo_body (X := cxOf (L2.CX P w) P w K mg base mr_redo.N mr_redo.q (defScope mr_redo.st) _ cdv A outer s H Ex) (takes_of rfl rfl rfl rfl) rfl (hu_of hr) (M.ex _ (by decide)) g_redo ⟨rfl, v_redo_self, rfl⟩ sh_redo tc rfl
theorem go_fn (X : K.In h) (Gm : h.Ns mainGlobals mg) (M : ModOk cts exs exi K mg) (tc : TCls K mg) (c : He.SaysD fa fn K) (T : TabOk P w K mg base LV H_law) : MF P w K mg base (LV + 2) "go" (spM K mg goM) := by
  obtain ⟨fd, F⟩ := fd_of c (r := mr_go) (by simp [mrows])
  obtain ⟨fdc, psc, bc, Fc⟩ := change_fn (P := P) (w := w) (base := base) tc c
  refine ⟨fd, _, F.bindsN bd_m_go, mth_fn (lv := LV + 1) F (C8.fnScope_by sc_m_go) (len_spM fun p t ds r q => (wlkM_some q).1) fun cdv A outer s H Ex hr => ?_⟩
  have C := ctx_cls (CX := L2.CX P w) (N := mr_go.N) (x := mr_go.q) (sc := defScope mr_go.st) (f := He.ma K (He.ga K "Trip") mr_go.m) (cdv := cdv) (outer := outer) (s := s) (H := H) (E := Ex) (W := fun cls d _ H => Ex cls d H) (cls := clsT) (mth := []) M (cls_1 (lv := LV + 1) tc T (Nat.le_succ _)) (C8.fnScope_by sc_m_go).nd hr (takes_of rfl rfl rfl rfl)
  exact wlk_body (nt := 4) C rfl ⟨rfl, v_go_self, rfl⟩ ⟨rfl, v_go_limit, rfl⟩ ck_go sh_go Fc (hr.mono (Nat.le_add_left _ _)) bc tc (mm_of X Gm c (by simp [faT])) rfl
theorem turn_fn (X : K.In h) (Gm : h.Ns mainGlobals mg) (M : ModOk cts exs exi K mg) (tc : TCls K mg) (c : He.SaysD fa fn K) (T : TabOk P w K mg base LV H_law) : MF P w K mg base (LV + 2) "turn" (spM K mg turnM) := by
  obtain ⟨fd, F⟩ := fd_of c (r := mr_turn) (by simp [mrows])
  obtain ⟨fdc, psc, bc, Fc⟩ := change_fn (P := P) (w := w) (base := base) tc c
  refine ⟨fd, _, F.bindsN bd_m_turn, mth_fn (lv := LV + 1) F (C8.fnScope_by sc_m_turn) (len_spM fun p t ds r q => (wlkM_some q).1) fun cdv A outer s H Ex hr => ?_⟩
  have C := ctx_cls (CX := L2.CX P w) (N := mr_turn.N) (x := mr_turn.q) (sc := defScope mr_turn.st) (f := He.ma K (He.ga K "Trip") mr_turn.m) (cdv := cdv) (outer := outer) (s := s) (H := H) (E := Ex) (W := fun cls d _ H => Ex cls d H) (cls := clsT) (mth := []) M (cls_1 (lv := LV + 1) tc T (Nat.le_succ _)) (C8.fnScope_by sc_m_turn).nd hr (takes_of rfl rfl rfl rfl)
  exact wlk_body (nt := 5) C rfl ⟨rfl, v_turn_self, rfl⟩ ⟨rfl, v_turn_limit, rfl⟩ ck_turn sh_turn Fc (hr.mono (Nat.le_add_left _ _)) bc tc (mm_of X Gm c (by simp [faT])) rfl
theorem init_fn (M : ModOk cts exs exi K mg) (tc : TCls K mg) (c : He.SaysD fa fn K) (T : TabOk P w K mg base LV H_law) : MF P w K mg base (LV + 1) "__init__" (spI K mg iniM) := by
  obtain ⟨fd, F⟩ := fd_of c (r := mr___init__) (by simp [mrows])
  refine ⟨fd, _, F.bindsN bd_m___init__, mth_fn (lv := LV) F (C8.fnScope_by sc_m___init__) (fun vs H Q E q => ?_) fun cdv A outer s H Ex hr => ?_⟩
  · obtain ⟨_, _, _, _, _, _, _, _, _, e, _⟩ := q
    rw [e]; rfl
  have C := ctx_cls (CX := L2.CX P w) (N := mr___init__.N) (x := mr___init__.q) (sc := defScope mr___init__.st) (f := He.ma K (He.ga K "Trip") mr___init__.m) (cdv := cdv) (outer := outer) (s := s) (H := H) (E := Ex) (W := fun cls d _ H => Ex cls d H) (cls := clsT) (mth := []) M (cls_1 (lv := LV) tc T (Nat.le_refl _)) (C8.fnScope_by sc_m___init__).nd hr (takes_of rfl rfl rfl rfl)
  exact init_body (nt := 1) C ⟨rfl, v___init___self, rfl⟩ ⟨rfl, v___init___net, rfl⟩ ck_init sh_init tc rfl
end
end LS

set_option Elab.async false
set_option linter.all false
set_option maxRecDepth 100000
set_option maxHeartbeats 0
/-! K64g: the law's promise. -/
namespace LS
open PySem PySem.Spec PyProof.Rows L2
section
variable {K : PySem.W.Frag} {mg : Str → Option Value} {P : Program} {w : World} {base h : Heap}
theorem pure_fn {r : MRow} {d : Def} (M : ModOk cts exs exi K mg) (tc : TCls K mg) (c : He.SaysD fa fn K) (T : TabOk P w K mg base LV H_law) (hr : r ∈ mrows) (hb : BindOkM r) (sc : C8.scC r.N r.ps (defScope r.st) = true) (ck : ckSs r.N d.body g1 (defScope r.st) (defBody r.st) = true) (hN : d.nl = r.N.length) (hp : 1 ≤ r.N.length) (hps : r.ps.length = 1) :
    MF P w K mg base 1 r.m (spO K mg "Trip" (runMt [] "Trip" nsT d)) := by
  obtain ⟨fd, F⟩ := fd_of c hr
  refine ⟨fd, _, F.bindsN hb, mth_fn (lv := 0) F (C8.fnScope_by sc) (fun vs H Q E q => ?_) fun cdv A outer s H Ex hr => ?_⟩
  · obtain ⟨_, _, _, _, _, e, _⟩ := q
    rw [e, hps]; rfl
  have O : ClsOk P w K mg base 0 [] g1 := ⟨fun x g _ h => (nomatch h), fun x h => (nomatch h), (cls_1 (lv := LV) tc T (Nat.le_refl _)).cl, fun k c m h => by cases h⟩
  have C := ctx_cls (CX := L2.CX P w) (N := r.N) (x := r.q) (sc := defScope r.st) (f := He.ma K (He.ga K "Trip") r.m) (cdv := cdv) (outer := outer) (s := s) (H := H) (E := Ex) (W := fun cls d _ H => Ex cls d H) (cls := clsT) (mth := []) M O (C8.fnScope_by sc).nd hr (takes_of rfl rfl rfl rfl)
  exact pure_body C ck hN hp
abbrev rT := ToldR goM turnM undoM redoM iniM
abbrev teT := TellR H_law told_h exi
theorem told_fn (X : K.In h) (Gm : h.Ns mainGlobals mg) (M : ModOk cts exs exi K mg) (tc : TCls K mg) (c : He.SaysD fa fn K) (T : TabOk P w K mg base LV H_law) : ∃ fd ps, Binds K fd ps [] ∧ PySem.W.keepIn K (.ref (He.ga K "_law_told")) = true ∧ FnOk P w K mg base (L2.CX P w) (LV + 4) (He.ga K "_law_told") fd ps (spTold K mg rT teT) := by
  obtain ⟨fd, F⟩ := def_mem c (d := r__law_told.defD) (List.mem_append_right _ List.mem_cons_self)
  have F' : FunD K "_law_told" "_law_told" (defArgs r__law_told.st) (defBody r__law_told.st) (defScope r__law_told.st) [] [] (He.ga K "_law_told") fd := F
  have S := C8.fnScope_by sc_told
  refine ⟨fd, r__law_told.ps, F'.bindsN bd__law_told, F'.kp, F'.ok S (fun vs H Q E q => ?_) fun cdv A outer s H vs Q E hr q => ?_⟩
  · obtain ⟨_, _, _, _, _, _, _, _, _, _, _, _, _, e, _⟩ := q
    rw [e]; rfl
  obtain ⟨g1d, g1p, g1b, g1F⟩ := go_fn (P := P) (w := w) X Gm M tc c T
  obtain ⟨g2d, g2p, g2b, g2F⟩ := turn_fn (P := P) (w := w) X Gm M tc c T
  obtain ⟨g3d, g3p, g3b, g3F⟩ := undo_fn (P := P) (w := w) (base := base) M tc c
  obtain ⟨g4d, g4p, g4b, g4F⟩ := redo_fn (P := P) (w := w) (base := base) M tc c
  obtain ⟨g5d, g5p, g5b, g5F⟩ := init_fn (P := P) (w := w) M tc c T
  have C := ctx_cls (CX := L2.CX P w) (N := r__law_told.N) (x := "_law_told") (sc := defScope r__law_told.st) (f := He.ga K "_law_told") (cdv := cdv) (outer := outer) (s := s) (H := H) (E := E) (W := fun cls d _ H => E cls d H) (cls := clsT) (mth := []) M (cls_1 (lv := LV + 3) tc T (Nat.le_add_right _ _)) S.nd hr (takes_of rfl rfl rfl rfl)
  obtain ⟨T', h1, h2⟩ := told_ok (h := told_h) (go := goM) (turn := turnM) (undo := undoM) (redo := redoM) (ini := iniM) C rfl rfl ⟨rfl, v_told, rfl⟩ sh_told tc ⟨_, _, _, _, hr.mono (Nat.le_refl _), mm_of X Gm c (by simp [faT]), g1b, g1F⟩ ⟨_, _, _, _, hr.mono (Nat.le_refl _), mm_of X Gm c (by simp [faT]), g2b, g2F⟩
    ⟨_, _, _, _, hr.mono (by omega), mm_of X Gm c (by simp [faT]), g3b, g3F⟩ ⟨_, _, _, _, hr.mono (by omega), mm_of X Gm c (by simp [faT]), g4b, g4F⟩
    ⟨_, _, _, _, hr.mono (by omega), (fun C hC => by cases (trip_of X Gm c).symm.trans hC; exact He.mkr_ok (ft_of c (g := .mkr "Trip") (by simp [faT]))), g5b, g5F⟩ g_told_len g_told_Trip g_told_LimitError rfl e_told rfl ⟨"InvalidNet", by decide +kernel⟩
  exact ⟨T', h1, h2 vs H Q E q⟩
theorem cls_2 (X : K.In h) (Gm : h.Ns mainGlobals mg) (M : ModOk cts exs exi K mg) (tc : TCls K mg) (c : He.SaysD fa fn K) (T : TabOk P w K mg base LV H_law) : ClsOk P w K mg base (LV + 4) H_meth g2 where
  fn := fun x g hx hg => (cls_1 (lv := LV + 4) tc T (Nat.le_add_right _ _)).fn x g rfl (fn_meth hx hg)
  mn := fun x hx => by
    have hk : (("Trip.__len__" == x) || (("Trip.place" == x) || (("Trip.limit" == x) || (("Trip.seen" == x) || false)))) = true := hx
    simp only [Bool.or_false, Bool.or_eq_true, beq_iff_eq] at hk
    rcases hk with rfl | rfl | rfl | rfl
    · exact He.free_ok X Gm (ft_of c (g := .free "Trip.__len__") (by simp [faT]))
    · exact He.free_ok X Gm (ft_of c (g := .free "Trip.place") (by simp [faT]))
    · exact He.free_ok X Gm (ft_of c (g := .free "Trip.limit") (by simp [faT]))
    · exact He.free_ok X Gm (ft_of c (g := .free "Trip.seen") (by simp [faT]))
  cl := (cls_1 (lv := LV + 4) tc T (Nat.le_add_right _ _)).cl
  mt := fun k cn m hk g hg => by
    have hk' : (k, cn, m) ∈ mthT := by simpa [g2, gcO] using hk
    have hT := trip_of X Gm c
    simp only [mthT, List.mem_cons, List.not_mem_nil, or_false, Prod.mk.injEq] at hk'
    rcases hk' with ⟨rfl, rfl, rfl⟩ | ⟨rfl, rfl, rfl⟩ | ⟨rfl, rfl, rfl⟩ | ⟨rfl, rfl, rfl⟩
    · obtain ⟨fd, ps, b, F⟩ := pure_fn (P := P) (w := w) (r := mr___len__) (d := m___len__) M tc c T (by simp [mrows]) bd_m___len__ sc_m___len__ ck_m___len__ rfl (by decide) rfl
      have e : g = runMt [] "Trip" nsT m___len__ := (Option.some.inj hg).symm
      subst e
      exact ⟨_, _, fd, ps, 1, hT, tc.cls _ hT, mm_of X Gm c (by simp [faT]) _ hT, b, by omega, F⟩
    · obtain ⟨fd, ps, b, F⟩ := pure_fn (P := P) (w := w) (r := mr_place) (d := m_place) M tc c T (by simp [mrows]) bd_m_place sc_m_place ck_m_place rfl (by decide) rfl
      have e : g = runMt [] "Trip" nsT m_place := (Option.some.inj hg).symm
      subst e
      exact ⟨_, _, fd, ps, 1, hT, tc.cls _ hT, mm_of X Gm c (by simp [faT]) _ hT, b, by omega, F⟩
    · obtain ⟨fd, ps, b, F⟩ := pure_fn (P := P) (w := w) (r := mr_limit) (d := m_limit) M tc c T (by simp [mrows]) bd_m_limit sc_m_limit ck_m_limit rfl (by decide) rfl
      have e : g = runMt [] "Trip" nsT m_limit := (Option.some.inj hg).symm
      subst e
      exact ⟨_, _, fd, ps, 1, hT, tc.cls _ hT, mm_of X Gm c (by simp [faT]) _ hT, b, by omega, F⟩
    · obtain ⟨fd, ps, b, F⟩ := pure_fn (P := P) (w := w) (r := mr_seen) (d := m_seen) M tc c T (by simp [mrows]) bd_m_seen sc_m_seen ck_m_seen rfl (by decide) rfl
      have e : g = runMt [] "Trip" nsT m_seen := (Option.some.inj hg).symm
      subst e
      exact ⟨_, _, fd, ps, 1, hT, tc.cls _ hT, mm_of X Gm c (by simp [faT]) _ hT, b, by omega, F⟩
theorem law_fn64 (X : K.In h) (Gm : h.Ns mainGlobals mg) (c : He.SaysD fa fn K) (hb : einB exi K = true) : ∃ fd : FuncData, (∀ (s : Shared) (v : Value), BindsTo s fd ⟨[v], []⟩ [("_law_script", v)]) ∧ ∀ (P : Program) (w : World) (base : Heap), FnOk P w K mg base CX0 (LV + 5) (He.ga K "law") fd ["_law_script"] (spLaw64 K) := by
  have he := ei_of2 (rows := rows) (lr := r_law) (cts := cts) (exs := exs) (ein := exi) X Gm (fun f hf => fl_of c hf) hb (by decide +kernel) (by decide +kernel)
  have M := mod_of2 X Gm (fun f hf => fl_of c hf) (by decide +kernel) he
  have tc := tc_of X Gm c
  obtain ⟨fd, F⟩ := def_mem c (d := r_law.defD) (List.mem_append_left _ (by unfold fnL; simp))
  have F' : FunD K "law" "law" (defArgs r_law.st) (defBody r_law.st) (defScope r_law.st) [] [] (He.ga K "law") fd := F
  have S := C8.fnScope_by sc_law
  refine ⟨fd, fun s v => FunD.bindsA F' bd_law s [v] rfl, fun P w base => F'.ok S (fun vs H Q E q => ?_) fun cdv A outer s H vs Q E hr q => ?_⟩
  · obtain ⟨_, _, e, _⟩ := q
    rw [e]; rfl
  have T0 : TabOk P w K mg base 0 [] := fun x g h => nomatch h
  have T : TabOk P w K mg base LV H_law := by
    have T1 := tab_rows M rows 0 [] T0 ck_rows (fun r hr' => by
      obtain ⟨fd', F1⟩ := def_mem c (d := r.defD) (List.mem_append_left _ (by unfold fnL; exact List.mem_append_left _ (List.mem_map_of_mem hr')))
      have e1 := He.glo_ok X Gm (fl_of c (g := .glo r.x) (by unfold faL; exact List.mem_append_left _ (List.mem_map_of_mem (f := fun r => He.Fa.glo r.x) hr')))
      exact ⟨_, fd', F1, e1⟩) bd_rows
    rw [Nat.zero_add, rowsG_eq] at T1
    exact T1
  obtain ⟨td, tp, tb, tk, tF⟩ := told_fn (P := P) (w := w) X Gm M tc c T
  obtain ⟨g5d, g5p, g5b, g5F⟩ := init_fn (P := P) (w := w) M tc c T
  have C := ctx_cls (CX := CX0) (N := r_law.N) (x := "law") (sc := defScope r_law.st) (f := He.ga K "law") (cdv := cdv) (outer := outer) (s := s) (H := H) (E := E) (W := W0) (cls := clsT) (mth := mthT) M (cls_2 (P := P) (w := w) X Gm M tc c T) S.nd hr takes_0
  obtain ⟨a, ns, rfl, hl, hS, hQ⟩ := q
  obtain ⟨n, hlaw⟩ := law_okM hl
  obtain ⟨T', h1, h2⟩ := law_rel (f := frM ns n) (ini := iniM) C ⟨_, _, td, tp, He.glo_ok X Gm (ft_of c (g := .glo "_law_told") (by simp [faT])), tk, hr.mono (Nat.le_refl _), tb, tF⟩
    ⟨_, _, _, _, hr.mono (by omega), (fun C hC => by cases (trip_of X Gm c).symm.trans hC; exact He.mkr_ok (ft_of c (g := .mkr "Trip") (by simp [faT]))), g5b, g5F⟩ ⟨rfl, v_law_law_trip, rfl⟩ ⟨rfl, v_law_law_done, rfl⟩ ⟨rfl, v_law_law_undone, rfl⟩ ⟨rfl, v_law_law_used, rfl⟩ ⟨rfl, v_law_law_kept, rfl⟩ ⟨rfl, v_law_law_told_here, rfl⟩ g_law__law_told g_law_Trip sh_law tc rfl
  exact ⟨T', h1, h2 a H Q hS hQ hlaw⟩
end
end LS

set_option Elab.async false
set_option linter.all false
set_option maxRecDepth 100000
set_option maxHeartbeats 0
/-! K64i: the head's run; the law holds. -/
namespace LS
open PySem PySem.Spec PyProof.Rows L2
def loose0 : List PySem.Str := ["_wall", "is_int", "are_signs", "is_road", "is_net", "check_net", "check_road", "find_followers", "find_standing", "pieces", "go_over", "_law_drawn", "_law_net", "_law_pieces", "_law_next", "_law_badnet", "_law_told", "_law_due", "MAX_LIMIT", "MIN_FAST"]
def loose1 : List PySem.Str := ["MAX_JUNCTION", "MAX_SIGNS", "MAX_ROADS", "LimitError", "InvalidNet", "InvalidRoad", "AtEnd", "NotThere", "NothingToUndo", "Trip"]
def loose : List PySem.Str := loose0 ++ loose1
abbrev R : PySem.W.OpenRow := PySem.W.OpenLaw.row PySem.Challenge.rw_limitsigns_k64_trip
abbrev hk : PySem.W.Hook := hookY 5 fa fn (einB exi)
def ob (s : PySem.W.SharedT) : AlY := obsY 5 fa fn (einB exi) (HandSHeadRun.getT s)
theorem ob_eq (s : PySem.W.SharedT) : ob s = hk.obs s.abs := obsY_eq (HandSHeadRun.getT_eq s)
theorem headRun (w : World) : HandSHeadRun.RunEq R (PySem.W.view R.prog [35]) hk ob 100000 loose w := by
  intro os
  kernel_rfl
end LS
open PySem PySem.W PySem.Calls PyProof.Rows
theorem PySem.Challenge.cw_limitsigns_k64_trip_holds : PySem.Challenge.rw_limitsigns_k64_trip.Holds := by
  w_on; o_law
  refine HandSHeadRun.head_any (r := OpenLaw.row PySem.Challenge.rw_limitsigns_k64_trip) (q := view (OpenLaw.row PySem.Challenge.rw_limitsigns_k64_trip).prog [35]) (H := LS.hk) (ob := LS.ob) (M := 100000) (loose := LS.loose) (d := HandSHeadRun.topDef (OpenLaw.row PySem.Challenge.rw_limitsigns_k64_trip).prog 35) (kwd := []) LS.ob_eq
    (by kernel_rfl) (fun s => by kernel_rfl) LS.headRun (by kernel_rfl) (by kernel_rfl) (by kernel_rfl) (by rfl) (by first | assumption | decide +kernel) (by decide +kernel) ⟨rfl, rfl, rfl, rfl, rfl, by decide +kernel⟩ ?hw ?hc
  case hw => w_witness2
  case hc =>
    refine L2.walk_ofE (l := PySem.Challenge.rw_limitsigns_k64_trip) (n := 63) (k := LS.LV + 5) (x := "_law_script") (CX := L2.CX0) rfl (by decide) (by kernel_rfl) ⟨rfl, by decide, by decide⟩ ?F (fun _ _ _ _ z => z)
    intro w mg fa h Y G hmg0
    obtain ⟨K, KX, c, cx⟩ := Y
    have hmg : mg ("law" : PySem.Str) = some (.ref fa) := by
      have e : (HandSHeadRun.topDef (OpenLaw.row PySem.Challenge.rw_limitsigns_k64_trip).prog 35).name = ("law" : PySem.Str) := by kernel_rfl
      rw [← e]
      exact hmg0
    have hl := He.glo_ok KX G (LS.fl_of c (g := .glo "law") (by unfold LS.faL; exact List.mem_append_right _ List.mem_cons_self))
    cases hmg.symm.trans hl
    obtain ⟨fd, hb, hF⟩ := LS.law_fn64 KX G c cx
    exact ⟨K, fd, LS.spLaw64 K, KX, hb, fun H a ns hl _ hS => ⟨a, ns, rfl, hl, hS, fun _ => rfl⟩, fun base kb gb => hF PySem.Challenge.rw_limitsigns_k64_trip.prog w base⟩
